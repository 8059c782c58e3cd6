import Derived.Test.YtnlokhfcgaikiaaVm1
namespace Go.Vm
open Go
structure Gh where
 M : Mem
 X : Nat → Option Tag
 bl : List Nat
 bs : List Nat
inductive Slot where
 | d (x : D)
 | lref (n off : Nat)
 deriving Inhabited
abbrev Slot.any : Slot := .d .any
structure St where
 n : Nat
 env : Nat → Slot
 loc : List (List D)
 obj : List (List D)
def St.set (s : St) (t : Nat) (x : Slot) : St := { s with env := fun u => if u = t then x else s.env u }
def St.put (s : St) (dst : Option Tmp) (x : Slot) : St := match dst with | some t => s.set t x | none => s
def SlotOk (w : World) (g : Gh) (t : Nat) : Slot → Value → Prop
 | .d x, v => R g.M g.bs x v ∧ Own w g.M g.bs g.X (.slot t) [] x v
 | .lref n off, v => ∃ b, g.bl[n]? = some b ∧ v = .pointer (some ⟨b, off, none⟩)
def BoxOk (w : World) (g : Gh) (h : Holder) (b : Nat) (cs : List D) : Prop :=
 cs = [] ∨ ∃ cur E, w.heap[b]? = some (.cells cur E (0, 0)) ∧ cur.size = cs.length ∧ g.X b = some (h, []) ∧ (∀ o, g.M b o = none) ∧
  ∀ (i : Nat) (d : D) (x : Value), cs[i]? = some d → cur[i]? = some x → R g.M g.bs d x ∧ Own w g.M g.bs g.X h [i] d x ∧ x.oneCell' = true
structure Ok (w : World) (g : Gh) (st : St) (val : Nat → Value) : Prop where
 mem : ∀ (b o : Nat) (c : Value), g.M b o = some c → w.cell? ⟨b, o, none⟩ = some c
 xlt : ∀ (b : Nat) (t : Tag), g.X b = some t → b < w.heap.size
 slot : ∀ t, SlotOk w g t (st.env t) (val t)
 ll : g.bl.length = st.loc.length
 loc : ∀ (n b : Nat) (cs : List D), g.bl[n]? = some b → st.loc[n]? = some cs → BoxOk w g (.loc n) b cs
 ol : g.bs.length = st.obj.length
 obj : ∀ (n b : Nat) (cs : List D), g.bs[n]? = some b → st.obj[n]? = some cs → BoxOk w g (.obj n) b cs
structure Fr (w : World) (g : Gh) (w' : World) (g' : Gh) : Prop where
 os : w'.os = w.os
 tape : w'.tape = w.tape
 output : w'.output = w.output
 size : w.heap.size ≤ w'.heap.size
 keep : ∀ b, b < w.heap.size → g.X b = none → w'.heap[b]? = w.heap[b]? ∧ g'.X b = none ∧ ∀ o, g'.M b o = g.M b o
 mono : g.M.le g'.M
 bs : ∀ (n b : Nat), g.bs[n]? = some b → g'.bs[n]? = some b
theorem Fr.refl (w : World) (g : Gh) : Fr w g w g := ⟨rfl, rfl, rfl, Nat.le_refl _, fun _ _ h => ⟨rfl, h, fun _ => rfl⟩, fun _ _ _ h => h, fun _ _ h => h⟩
theorem Fr.trans {w w1 w2 : World} {g g1 g2 : Gh} (h : Fr w g w1 g1) (k : Fr w1 g1 w2 g2) : Fr w g w2 g2 :=
 ⟨k.os.trans h.os, k.tape.trans h.tape, k.output.trans h.output, Nat.le_trans h.size k.size,
  fun b hb hx => by
   obtain ⟨a1, a2, a3⟩ := h.keep b hb hx
   obtain ⟨b1, b2, b3⟩ := k.keep b (Nat.lt_of_lt_of_le hb h.size) a2
   exact ⟨b1.trans a1, b2, fun o => (b3 o).trans (a3 o)⟩,
  fun b o c hc => k.mono b o c (h.mono b o c hc), fun n b hb => k.bs n b (h.bs n b hb)⟩
section
variable {w w' : World} {g g' : Gh}
theorem SlotOk.keep {t : Nat} {s : Slot} {v : Value} (h : SlotOk w g t s v) (hM : g.M.le g'.M) (hbs : ∀ (n b : Nat), g.bs[n]? = some b → g'.bs[n]? = some b) (hbl : ∀ (n b : Nat), g.bl[n]? = some b → g'.bl[n]? = some b)
  (hk : ∀ (b : Nat) (q : List Nat), g.X b = some (.slot t, q) → w'.heap[b]? = w.heap[b]? ∧ (∀ o, g.M b o = none → g'.M b o = none) ∧ g'.X b = some (.slot t, q)) : SlotOk w' g' t s v := by
 cases s with
 | d x => exact ⟨h.1.mono hM hbs, h.2.keep hM hbs hk⟩
 | lref n off => obtain ⟨b, hb, hv⟩ := h; exact ⟨b, hbl n b hb, hv⟩
theorem BoxOk.keep {hd : Holder} {b : Nat} {cs : List D} (h : BoxOk w g hd b cs) (hM : g.M.le g'.M) (hbs : ∀ (n b : Nat), g.bs[n]? = some b → g'.bs[n]? = some b)
  (hk : ∀ (b : Nat) (q : List Nat), g.X b = some (hd, q) → w'.heap[b]? = w.heap[b]? ∧ (∀ o, g.M b o = none → g'.M b o = none) ∧ g'.X b = some (hd, q)) : BoxOk w' g' hd b cs := by
 rcases h with h | ⟨cur, E, h1, h2, h3, h4, h5⟩
 ·exact .inl h
 obtain ⟨k1, k2, k3⟩ := hk b [] h3
 exact .inr ⟨cur, E, by rw [k1]; exact h1, h2, k3, fun o => k2 o (h4 o), fun i d x a1 a2 => ⟨(h5 i d x a1 a2).1.mono hM hbs, (h5 i d x a1 a2).2.1.keep hM hbs hk, (h5 i d x a1 a2).2.2⟩⟩
theorem Ok.mlt {st : St} {val : Nat → Value} (h : Ok w g st val) {b o : Nat} {c : Value} (hc : g.M b o = some c) : b < w.heap.size :=
 World.block_lt_of_cell? w ⟨b, o, none⟩ (h.mem b o c hc)
theorem Ok.newM {st : St} {val : Nat → Value} (h : Ok w g st val) (o : Nat) : g.M w.heap.size o = none := by
 cases hc : g.M w.heap.size o with
 | none => rfl
 | some c => exact absurd (h.mlt hc) (Nat.lt_irrefl _)
theorem Ok.newX {st : St} {val : Nat → Value} (h : Ok w g st val) : g.X w.heap.size = none := by
 cases hc : g.X w.heap.size with
 | none => rfl
 | some c => exact absurd (h.xlt _ _ hc) (Nat.lt_irrefl _)
theorem Ok.set {st : St} {val : Nat → Value} (h : Ok w g st val) (t : Nat) (s : Slot) (v : Value) (hs : SlotOk w g t s v) : Ok w g (st.set t s) (fun u => if u = t then v else val u) := by
 refine ⟨h.mem, h.xlt, fun u => ?_, h.ll, h.loc, h.ol, h.obj⟩
 simp only [St.set]
 by_cases hu : u = t
 ·subst hu; simpa using hs
 ·simpa [hu] using h.slot u
theorem Ok.drew {st : St} {val : Nat → Value} (h : Ok w g st val) : Ok w.drew g st val :=
 ⟨h.mem, h.xlt, fun t => (h.slot t).keep (fun _ _ _ h => h) (fun _ _ h => h) (fun _ _ h => h) fun b q hx => ⟨rfl, fun _ h => h, hx⟩, h.ll,
  fun n b cs h1 h2 => (h.loc n b cs h1 h2).keep (fun _ _ _ h => h) (fun _ _ h => h) fun b q hx => ⟨rfl, fun _ h => h, hx⟩, h.ol,
  fun n b cs h1 h2 => (h.obj n b cs h1 h2).keep (fun _ _ _ h => h) (fun _ _ h => h) fun b q hx => ⟨rfl, fun _ h => h, hx⟩⟩
theorem Fr.drew (w : World) (g : Gh) : Fr w g w.drew g := ⟨rfl, rfl, rfl, Nat.le_refl _, fun _ _ h => ⟨rfl, h, fun _ => rfl⟩, fun _ _ _ h => h, fun _ _ h => h⟩
def renT (f : Tag → Tag) (X : Nat → Option Tag) : Nat → Option Tag := fun b => (X b).map f
def mvTag (h : Holder) (p : List Nat) (h' : Holder) (p' : List Nat) : Tag → Tag := fun t =>
 if t.1 = h ∧ t.2.take p.length = p then (h', p' ++ t.2.drop p.length) else t
theorem mvTag_hit (h : Holder) (p : List Nat) (h' : Holder) (p' q : List Nat) : mvTag h p h' p' (h, p ++ q) = (h', p' ++ q) := by simp [mvTag]
theorem mvTag_other {h : Holder} {p : List Nat} {h' : Holder} {p' : List Nat} {t : Tag} (ht : t.1 ≠ h) : mvTag h p h' p' t = t := by simp [mvTag, ht]
theorem Ok.take {st : St} {val : Nat → Value} (h : Ok w g st val) (s t : Nat) (hst : s ≠ t) (x : D) (hx : st.env s = .d x) (hnt : ∀ cs, x ≠ .tup cs) :
  Ok w { g with X := renT (mvTag (.slot s) [] (.slot t) []) g.X } ((st.set s (.d x.s2)).set t (.d x)) (fun u => if u = t then val s else val u) := by
 have hs := h.slot s
 rw [hx] at hs
 have other : ∀ (hd : Holder), hd ≠ .slot s → ∀ (b : Nat) (q : List Nat), g.X b = some (hd, q) → w.heap[b]? = w.heap[b]? ∧ (∀ o, g.M b o = none → g.M b o = none) ∧ renT (mvTag (.slot s) [] (.slot t) []) g.X b = some (hd, q) := by
  intro hd hne b q hb
  exact ⟨rfl, fun _ h => h, by simp [renT, hb, mvTag_other (t := (hd, q)) hne]⟩
 refine ⟨h.mem, fun b tg hb => ?_, fun u => ?_, h.ll, fun n b cs h1 h2 => (h.loc n b cs h1 h2).keep (fun _ _ _ h => h) (fun _ _ h => h) (other _ (by simp)), h.ol,
  fun n b cs h1 h2 => (h.obj n b cs h1 h2).keep (fun _ _ _ h => h) (fun _ _ h => h) (other _ (by simp))⟩
 ·simp only [renT, Option.map_eq_some_iff] at hb
  obtain ⟨tg', hb, _⟩ := hb
  exact h.xlt b tg' hb
 ·simp only [St.set]
  by_cases hu : u = t
  ·subst hu
   simp only [if_true]
   refine ⟨hs.1, hs.2.move (fun _ _ _ h => h) (fun _ _ h => h) [] fun b q hb => ⟨rfl, fun _ h => h, ?_⟩⟩
   simp only [List.nil_append] at hb ⊢
   simp [renT, hb, mvTag]
  ·simp only [hu, if_false]
   by_cases hus : u = s
   ·subst hus
    simp only [if_true]
    exact ⟨hs.1.s2, own_s2 hs.1 hnt⟩
   ·simp only [hus, if_false]
    exact (h.slot u).keep (fun _ _ _ h => h) (fun _ _ h => h) (fun _ _ h => h) (other _ (by simp [hus]))
theorem Fr.ren (w : World) (g : Gh) (f : Tag → Tag) : Fr w g w { g with X := renT f g.X } :=
 ⟨rfl, rfl, rfl, Nat.le_refl _, fun b _ h => ⟨rfl, by simp [renT, h], fun _ => rfl⟩, fun _ _ _ h => h, fun _ _ h => h⟩
def Mem.add (M : Mem) (b : Nat) (cs : Array Value) : Mem := fun b' o => if b' = b then cs[o]? else M b' o
theorem heap_old (w : World) (o : Obj) {b : Nat} (h : b < w.heap.size) : (w.alloc o).heap[b]? = w.heap[b]? := by
 show (w.heap.push o)[b]? = _
 rw [Array.getElem?_push, if_neg (by omega)]
theorem heap_new (w : World) (o : Obj) : (w.alloc o).heap[w.heap.size]? = some o := by
 show (w.heap.push o)[w.heap.size]? = _
 simp
theorem Ok.known {st : St} {val : Nat → Value} (h : Ok w g st val) (cs kn : Array Value) (E : TypeId) (tg : Option Tag) (hkn : ∀ (o : Nat) (c : Value), kn[o]? = some c → cs[o]? = some c) :
  Ok (w.alloc (.cells cs E)) { g with M := g.M.add w.heap.size kn, X := fun b => if b = w.heap.size then tg else g.X b } st val ∧
   Fr w g (w.alloc (.cells cs E)) { g with M := g.M.add w.heap.size kn, X := fun b => if b = w.heap.size then tg else g.X b } := by
 have hM : g.M.le (g.M.add w.heap.size kn) := fun b o c hc => by
  have := h.mlt hc
  simp only [Mem.add, if_neg (show ¬ b = w.heap.size by omega)]; exact hc
 have hk : ∀ (hd : Holder) (b : Nat) (q : List Nat), g.X b = some (hd, q) → (w.alloc (.cells cs E)).heap[b]? = w.heap[b]? ∧ (∀ o, g.M b o = none → g.M.add w.heap.size kn b o = none) ∧ (if b = w.heap.size then tg else g.X b) = some (hd, q) := by
  intro hd b q hb
  have := h.xlt b _ hb
  exact ⟨heap_old w _ this, fun o ho => by simp only [Mem.add, if_neg (show ¬ b = w.heap.size by omega)]; exact ho, by rw [if_neg (by omega)]; exact hb⟩
 refine ⟨⟨fun b o c hc => ?_, fun b t hb => ?_, fun t => (h.slot t).keep hM (fun _ _ h => h) (fun _ _ h => h) (hk _), h.ll, fun n b ds h1 h2 => (h.loc n b ds h1 h2).keep hM (fun _ _ h => h) (hk _), h.ol,
  fun n b ds h1 h2 => (h.obj n b ds h1 h2).keep hM (fun _ _ h => h) (hk _)⟩, ⟨rfl, rfl, rfl, by simp, fun b hb hx => ⟨heap_old w _ hb, ?_, fun o => ?_⟩, hM, fun _ _ h => h⟩⟩
 ·simp only [Mem.add] at hc
  split at hc
  ·rename_i hb; subst hb
   simpa using hkn o c hc
  ·have := h.mlt hc
   rw [World.cell?_alloc_lt w _ ⟨b, o, none⟩ this]
   exact h.mem b o c hc
 ·simp only at hb
  simp only [World.size_alloc]
  split at hb
  ·omega
  ·have := h.xlt b t hb; omega
 ·simp only [if_neg (show ¬ b = w.heap.size by omega)]; exact hx
 ·simp only [Mem.add, if_neg (show ¬ b = w.heap.size by omega)]
theorem Ok.forget {st : St} {val : Nat → Value} (h : Ok w g st val) (t : Nat) : Ok w g (st.set t .any) val := by
 have := h.set t .any (val t) ⟨.any _, .flat _ _ _ rfl⟩
 have e : (fun u => if u = t then val t else val u) = val := by funext u; split <;> simp_all
 rwa [e] at this
theorem Ok.extend {st : St} {val : Nat → Value} (h : Ok w g st val) (t b s0 : Nat) (cur cur' : Array Value) (E : TypeId) (kn : Nat → Option Value) (hX : g.X b = some (.slot t, [])) (ht : st.env t = .any)
  (hh : w.heap[b]? = some (.cells cur E (0, 0))) (hM : ∀ o, s0 ≤ o → g.M b o = none) (hc : ∀ o, o < s0 → cur'[o]? = cur[o]?) (hkn : ∀ (o : Nat) (c : Value), kn o = some c → s0 ≤ o ∧ cur'[o]? = some c) :
  Ok (w.setRow b cur') { g with M := fun b' o => if b' = b then (if o < s0 then g.M b o else kn o) else g.M b' o } st val ∧
   Fr w g (w.setRow b cur') { g with M := fun b' o => if b' = b then (if o < s0 then g.M b o else kn o) else g.M b' o } := by
 have hle : g.M.le (fun b' o => if b' = b then (if o < s0 then g.M b o else kn o) else g.M b' o) := by
  intro b' o c hc'
  by_cases e : b' = b
  ·subst e
   by_cases ho : o < s0
   ·simpa [ho] using hc'
   ·rw [hM o (by omega)] at hc'; cases hc'
  ·simpa [e] using hc'
 have hk : ∀ (hd : Holder), hd ≠ .slot t → ∀ (b' : Nat) (q : List Nat), g.X b' = some (hd, q) → (w.setRow b cur').heap[b']? = w.heap[b']? ∧ (∀ o, g.M b' o = none → (if b' = b then (if o < s0 then g.M b o else kn o) else g.M b' o) = none) ∧ g.X b' = some (hd, q) := by
  intro hd hne b' q hx
  have : b' ≠ b := by
   intro e; subst e
   rw [hX] at hx
   simp only [Option.some.injEq, Prod.mk.injEq] at hx
   exact hne hx.1.symm
  exact ⟨setRow_other w b b' cur' this, fun o ho => by rw [if_neg this]; exact ho, hx⟩
 refine ⟨⟨fun b' o c hc' => ?_, fun b' tg hx => by rw [size_setRow]; exact h.xlt b' tg hx, fun u => ?_, h.ll, fun n b ds h1 h2 => (h.loc n b ds h1 h2).keep hle (fun _ _ h => h) (hk _ (by simp)), h.ol,
  fun n b ds h1 h2 => (h.obj n b ds h1 h2).keep hle (fun _ _ h => h) (hk _ (by simp))⟩, ⟨rfl, rfl, rfl, by simp, fun b' hb' hx => ?_, hle, fun _ _ h => h⟩⟩
 ·simp only at hc'
  by_cases e : b' = b
  ·subst e
   simp only [if_true] at hc'
   rw [cell_of_row _ b' o cur' E (0, 0) (setRow_heap w b' cur cur' E (0, 0) hh)]
   split at hc'
   ·rename_i ho
    rw [hc o ho]
    have := h.mem b' o c hc'
    rwa [cell_of_row _ b' o cur E (0, 0) hh] at this
   ·exact (hkn o c hc').2
  ·simp only [if_neg e] at hc'
   rw [World.cell?_of_block (w := w) (a := ⟨b', o, none⟩) (setRow_other w b b' cur' e)]
   exact h.mem b' o c hc'
 ·by_cases e : u = t
  ·subst e
   rw [ht]
   exact ⟨.any _, .flat _ _ _ rfl⟩
  ·exact (h.slot u).keep hle (fun _ _ h => h) (fun _ _ h => h) (hk _ (by simp [e]))
 ·have : b' ≠ b := by intro e; subst e; rw [hX] at hx; cases hx
  exact ⟨setRow_other w b b' cur' this, hx, fun o => by simp only [if_neg this]⟩
theorem Ok.box {st : St} {val : Nat → Value} (h : Ok w g st val) (cs : List D) (cur : Array Value) (E : TypeId) (hl : cur.size = cs.length)
  (hr : ∀ (i : Nat) (d : D) (x : Value), cs[i]? = some d → cur[i]? = some x → R g.M g.bs d x ∧ Own w g.M g.bs g.X (.loc st.loc.length) [i] d x ∧ x.oneCell' = true) :
  Ok (w.alloc (.cells cur E)) { g with X := (fun b => if b = w.heap.size then some (.loc st.loc.length, []) else g.X b), bl := g.bl ++ [w.heap.size] } { st with loc := st.loc ++ [cs] } val ∧
   Fr w g (w.alloc (.cells cur E)) { g with X := (fun b => if b = w.heap.size then some (.loc st.loc.length, []) else g.X b), bl := g.bl ++ [w.heap.size] } := by
 have hk : ∀ (hd : Holder) (b : Nat) (q : List Nat), g.X b = some (hd, q) → (w.alloc (.cells cur E)).heap[b]? = w.heap[b]? ∧ (∀ o, g.M b o = none → g.M b o = none) ∧ (if b = w.heap.size then some (.loc st.loc.length, []) else g.X b) = some (hd, q) := by
  intro hd b q hb
  have := h.xlt b _ hb
  exact ⟨heap_old w _ this, fun o ho => ho, by rw [if_neg (by omega)]; exact hb⟩
 have hbl : ∀ (n b : Nat), g.bl[n]? = some b → (g.bl ++ [w.heap.size])[n]? = some b := fun n b hb => by
  rw [List.getElem?_append_left (by exact (List.getElem?_eq_some_iff.1 hb).1)]; exact hb
 refine ⟨⟨fun b o c hc => ?_, fun b t hb => ?_, fun t => (h.slot t).keep (fun _ _ _ h => h) (fun _ _ h => h) hbl (hk _), by simp [h.ll], fun n b ds h1 h2 => ?_, h.ol,
  fun n b ds h1 h2 => (h.obj n b ds h1 h2).keep (fun _ _ _ h => h) (fun _ _ h => h) (hk _)⟩, ⟨rfl, rfl, rfl, by simp, fun b hb hx => ⟨heap_old w _ hb, ?_, fun o => rfl⟩, fun _ _ _ h => h, fun _ _ h => h⟩⟩
 ·have := h.mlt hc
  rw [World.cell?_alloc_lt w _ ⟨b, o, none⟩ this]
  exact h.mem b o c hc
 ·simp only at hb
  simp only [World.size_alloc]
  split at hb
  ·omega
  ·have := h.xlt b t hb; omega
 ·by_cases hn : n < st.loc.length
  ·have h1' : g.bl[n]? = some b := by rw [List.getElem?_append_left (by rw [h.ll]; exact hn)] at h1; exact h1
   have h2' : st.loc[n]? = some ds := by rw [List.getElem?_append_left hn] at h2; exact h2
   exact (h.loc n b ds h1' h2').keep (fun _ _ _ h => h) (fun _ _ h => h) (hk _)
  ·have hlt := (List.getElem?_eq_some_iff.1 h2).1
   simp at hlt
   have hn' : n = st.loc.length := by omega
   subst hn'
   have e1 : b = w.heap.size := by
    have h1' := h1
    rw [← h.ll] at h1'
    simpa using h1'.symm
   have e2 : ds = cs := by simpa using h2.symm
   subst e1; subst e2
   exact .inr ⟨cur, E, heap_new w _, hl, by simp, fun o => h.newM o, fun i d x a1 a2 => ⟨(hr i d x a1 a2).1, (hr i d x a1 a2).2.1.keep (fun _ _ _ h => h) (fun _ _ h => h) (hk _), (hr i d x a1 a2).2.2⟩⟩
 ·simp only [if_neg (show ¬ b = w.heap.size by omega)]; exact hx
end
end Go.Vm
