import Derived.Test.YtnlokhfcgaikiaaVm7
namespace Go.Vm
open Go
section
variable {w : World} {g : Gh}
theorem Ok.newObj {st : St} {val : Nat → Value} (h : Ok w g st val) (cs : List D) (cur : Array Value) (E : TypeId) (hl : cur.size = cs.length)
  (hr : ∀ (i : Nat) (d : D) (x : Value), cs[i]? = some d → cur[i]? = some x → R g.M g.bs d x ∧ Own w g.M g.bs g.X (.obj st.obj.length) [i] d x ∧ x.oneCell' = true) :
  Ok (w.alloc (.cells cur E)) { g with X := (fun b => if b = w.heap.size then some (.obj st.obj.length, []) else g.X b), bs := g.bs ++ [w.heap.size] } { st with obj := st.obj ++ [cs] } val ∧
   Fr w g (w.alloc (.cells cur E)) { g with X := (fun b => if b = w.heap.size then some (.obj st.obj.length, []) else g.X b), bs := g.bs ++ [w.heap.size] } := by
 have hk : ∀ (hd : Holder) (b : Nat) (q : List Nat), g.X b = some (hd, q) → (w.alloc (.cells cur E)).heap[b]? = w.heap[b]? ∧ (∀ o, g.M b o = none → g.M b o = none) ∧ (if b = w.heap.size then some (.obj st.obj.length, []) else g.X b) = some (hd, q) := by
  intro hd b q hb
  have := h.xlt b _ hb
  exact ⟨heap_old w _ this, fun o ho => ho, by rw [if_neg (by omega)]; exact hb⟩
 have hbl : ∀ (n b : Nat), g.bs[n]? = some b → (g.bs ++ [w.heap.size])[n]? = some b := fun n b hb => by
  rw [List.getElem?_append_left (by exact (List.getElem?_eq_some_iff.1 hb).1)]; exact hb
 refine ⟨⟨fun b o c hc => ?_, fun b t hb => ?_, fun t => (h.slot t).keep (fun _ _ _ h => h) hbl (fun _ _ h => h) (hk _), h.ll,
  fun n b ds h1 h2 => (h.loc n b ds h1 h2).keep (fun _ _ _ h => h) hbl (hk _), by simp [h.ol], fun n b ds h1 h2 => ?_⟩, ⟨rfl, rfl, rfl, by simp, fun b hb hx => ⟨heap_old w _ hb, ?_, fun o => rfl⟩, fun _ _ _ h => h, hbl⟩⟩
 ·have := h.mlt hc
  rw [World.cell?_alloc_lt w _ ⟨b, o, none⟩ this]
  exact h.mem b o c hc
 ·simp only at hb
  simp only [World.size_alloc]
  split at hb
  ·omega
  ·have := h.xlt b t hb; omega
 ·by_cases hn : n < st.obj.length
  ·have h1' : g.bs[n]? = some b := by rw [List.getElem?_append_left (by rw [h.ol]; exact hn)] at h1; exact h1
   have h2' : st.obj[n]? = some ds := by rw [List.getElem?_append_left hn] at h2; exact h2
   exact (h.obj n b ds h1' h2').keep (fun _ _ _ h => h) hbl (hk _)
  ·have hlt := (List.getElem?_eq_some_iff.1 h2).1
   simp at hlt
   have hn' : n = st.obj.length := by omega
   subst hn'
   have e1 : b = w.heap.size := by
    have h1' := h1
    rw [← h.ol] at h1'
    simpa using h1'.symm
   have e2 : ds = cs := by simpa using h2.symm
   subst e1; subst e2
   exact .inr ⟨cur, E, heap_new w _, hl, by simp, fun o => h.newM o, fun i d x a1 a2 => ⟨(hr i d x a1 a2).1.mono (fun _ _ _ h => h) hbl, (hr i d x a1 a2).2.1.keep (fun _ _ _ h => h) hbl (hk _), (hr i d x a1 a2).2.2⟩⟩
 ·simp only [if_neg (show ¬ b = w.heap.size by omega)]; exact hx
theorem Ok.park {st : St} {val : Nat → Value} (h : Ok w g st val) (s : Nat) (x : D) (hx : st.env s = .d x) (hnt : ∀ cs, x ≠ .tup cs) (ρ : Tag → Tag) (hρ : ∀ t : Tag, t.1 ≠ .slot s → ρ t = t) :
  Ok w { g with X := renT ρ g.X } (st.set s (.d x.s2)) val ∧ R g.M g.bs x (val s) ∧ Own w g.M g.bs g.X (.slot s) [] x (val s) := by
 have hs := h.slot s
 rw [hx] at hs
 have other : ∀ (hd : Holder), hd ≠ .slot s → ∀ (b : Nat) (q : List Nat), g.X b = some (hd, q) → w.heap[b]? = w.heap[b]? ∧ (∀ o, g.M b o = none → g.M b o = none) ∧ renT ρ g.X b = some (hd, q) := by
  intro hd hne b q hb
  exact ⟨rfl, fun _ h => h, by simp [renT, hb, hρ (hd, q) hne]⟩
 refine ⟨⟨h.mem, fun b tg hb => ?_, fun u => ?_, h.ll, fun n b cs h1 h2 => (h.loc n b cs h1 h2).keep (fun _ _ _ h => h) (fun _ _ h => h) (other _ (by simp)), h.ol,
  fun n b cs h1 h2 => (h.obj n b cs h1 h2).keep (fun _ _ _ h => h) (fun _ _ h => h) (other _ (by simp))⟩, hs⟩
 ·simp only [renT, Option.map_eq_some_iff] at hb
  obtain ⟨tg', hb, _⟩ := hb
  exact h.xlt b tg' hb
 ·simp only [St.set]
  by_cases hus : u = s
  ·subst hus
   simp only [if_true]
   exact ⟨hs.1.s2, own_s2 hs.1 hnt⟩
  ·simp only [hus, if_false]
   exact (h.slot u).keep (fun _ _ _ h => h) (fun _ _ h => h) (fun _ _ h => h) (other _ (by simp [hus]))
theorem Ok.parkLoc {st : St} {val : Nat → Value} (h : Ok w g st val) (n : Nat) (cs' : List D) (ρ : Tag → Tag) (hρ : ∀ t : Tag, t.1 ≠ .loc n → ρ t = t) (hn : n < st.loc.length)
  (hc : ∀ (b : Nat) (cs : List D), g.bl[n]? = some b → st.loc[n]? = some cs → BoxOk w g (.loc n) b cs → BoxOk w { g with X := renT ρ g.X } (.loc n) b cs') :
  Ok w { g with X := renT ρ g.X } { st with loc := st.loc.set n cs' } val := by
 have other : ∀ (hd : Holder), hd ≠ .loc n → ∀ (b : Nat) (q : List Nat), g.X b = some (hd, q) → w.heap[b]? = w.heap[b]? ∧ (∀ o, g.M b o = none → g.M b o = none) ∧ renT ρ g.X b = some (hd, q) := by
  intro hd hne b q hb
  exact ⟨rfl, fun _ h => h, by simp [renT, hb, hρ (hd, q) hne]⟩
 refine ⟨h.mem, fun b tg hb => ?_, fun u => (h.slot u).keep (fun _ _ _ h => h) (fun _ _ h => h) (fun _ _ h => h) (other _ (by simp)), by simp [h.ll], fun m b cs h1 h2 => ?_, h.ol,
  fun m b cs h1 h2 => (h.obj m b cs h1 h2).keep (fun _ _ _ h => h) (fun _ _ h => h) (other _ (by simp))⟩
 ·simp only [renT, Option.map_eq_some_iff] at hb
  obtain ⟨tg', hb, _⟩ := hb
  exact h.xlt b tg' hb
 ·rw [List.getElem?_set] at h2
  split at h2
  ·rename_i e; subst e
   have h2' := (Option.some.inj h2).symm
   subst h2'
   have hcs : st.loc[n]? = some st.loc[n] := List.getElem?_eq_getElem hn
   exact hc b _ h1 hcs (h.loc n b _ h1 hcs)
  ·rename_i e
   exact (h.loc m b cs h1 h2).keep (fun _ _ _ h => h) (fun _ _ h => h) (other _ (by simp; exact fun e' => e e'.symm))
theorem Ok.parkObj {st : St} {val : Nat → Value} (h : Ok w g st val) (n : Nat) (cs' : List D) (ρ : Tag → Tag) (hρ : ∀ t : Tag, t.1 ≠ .obj n → ρ t = t) (hn : n < st.obj.length)
  (hc : ∀ (b : Nat) (cs : List D), g.bs[n]? = some b → st.obj[n]? = some cs → BoxOk w g (.obj n) b cs → BoxOk w { g with X := renT ρ g.X } (.obj n) b cs') :
  Ok w { g with X := renT ρ g.X } { st with obj := st.obj.set n cs' } val := by
 have other : ∀ (hd : Holder), hd ≠ .obj n → ∀ (b : Nat) (q : List Nat), g.X b = some (hd, q) → w.heap[b]? = w.heap[b]? ∧ (∀ o, g.M b o = none → g.M b o = none) ∧ renT ρ g.X b = some (hd, q) := by
  intro hd hne b q hb
  exact ⟨rfl, fun _ h => h, by simp [renT, hb, hρ (hd, q) hne]⟩
 refine ⟨h.mem, fun b tg hb => ?_, fun u => (h.slot u).keep (fun _ _ _ h => h) (fun _ _ h => h) (fun _ _ h => h) (other _ (by simp)), h.ll,
  fun m b cs h1 h2 => (h.loc m b cs h1 h2).keep (fun _ _ _ h => h) (fun _ _ h => h) (other _ (by simp)), by simp [h.ol], fun m b cs h1 h2 => ?_⟩
 ·simp only [renT, Option.map_eq_some_iff] at hb
  obtain ⟨tg', hb, _⟩ := hb
  exact h.xlt b tg' hb
 ·rw [List.getElem?_set] at h2
  split at h2
  ·rename_i e; subst e
   have h2' := (Option.some.inj h2).symm
   subst h2'
   have hcs : st.obj[n]? = some st.obj[n] := List.getElem?_eq_getElem hn
   exact hc b _ h1 hcs (h.obj n b _ h1 hcs)
  ·rename_i e
   exact (h.obj m b cs h1 h2).keep (fun _ _ _ h => h) (fun _ _ h => h) (other _ (by simp; exact fun e' => e e'.symm))
theorem Ok.writeLoc {st : St} {val : Nat → Value} (h : Ok w g st val) (n b : Nat) (cs' : List D) (cur' : Array Value) (hb : g.bl[n]? = some b) (hne : st.loc[n]? ≠ some []) (hl : cur'.size = cs'.length)
  (hr : ∀ (i : Nat) (d : D) (x : Value), cs'[i]? = some d → cur'[i]? = some x → R g.M g.bs d x ∧ Own w g.M g.bs g.X (.loc n) [i] d x ∧ x.oneCell' = true) :
  Ok (w.setRow b cur') g { st with loc := st.loc.set n cs' } val ∧ Fr w g (w.setRow b cur') g := by
 have hn : n < st.loc.length := by rw [← h.ll]; exact (List.getElem?_eq_some_iff.1 hb).1
 have hcs : st.loc[n]? = some st.loc[n] := List.getElem?_eq_getElem hn
 obtain ⟨cur, E, h1, h2, h3, h4, h5⟩ := (h.loc n b _ hb hcs).resolve_left (fun e => hne (by rw [hcs, e]))
 have hk : ∀ (hd : Holder) (b' : Nat) (q : List Nat), (hd, q) ≠ (Holder.loc n, []) → g.X b' = some (hd, q) → (w.setRow b cur').heap[b']? = w.heap[b']? ∧ (∀ o, g.M b' o = none → g.M b' o = none) ∧ g.X b' = some (hd, q) := by
  intro hd b' q hne hx
  have : b' ≠ b := by intro e; subst e; rw [h3] at hx; simp only [Option.some.injEq] at hx; exact hne hx.symm
  exact ⟨setRow_other w b b' cur' this, fun _ h => h, hx⟩
 have hk' : ∀ (hd : Holder), hd ≠ .loc n → ∀ (b' : Nat) (q : List Nat), g.X b' = some (hd, q) → (w.setRow b cur').heap[b']? = w.heap[b']? ∧ (∀ o, g.M b' o = none → g.M b' o = none) ∧ g.X b' = some (hd, q) :=
  fun hd hne b' q => hk hd b' q (by simp [hne])
 refine ⟨⟨fun b' o c hc => ?_, fun b' t ht => by rw [size_setRow]; exact h.xlt b' t ht, fun t => (h.slot t).keep (fun _ _ _ h => h) (fun _ _ h => h) (fun _ _ h => h) (hk' _ (by simp)), by simp [h.ll], fun m b' ds a1 a2 => ?_, h.ol,
  fun m b' ds a1 a2 => (h.obj m b' ds a1 a2).keep (fun _ _ _ h => h) (fun _ _ h => h) (hk' _ (by simp))⟩, ⟨rfl, rfl, rfl, by simp, fun b' hb' hx => ⟨setRow_other w b b' cur' (by intro e; subst e; rw [h3] at hx; cases hx), hx, fun o => rfl⟩, fun _ _ _ h => h, fun _ _ h => h⟩⟩
 ·have : b' ≠ b := by intro e; subst e; rw [h4] at hc; cases hc
  rw [World.cell?_of_block (w := w) (a := ⟨b', o, none⟩) (setRow_other w b b' cur' this)]
  exact h.mem b' o c hc
 ·rw [List.getElem?_set] at a2
  split at a2
  ·rename_i e; subst e
   have a2' := (Option.some.inj a2).symm
   subst a2'
   have : b' = b := by rw [hb] at a1; simpa using a1.symm
   subst this
   exact .inr ⟨cur', E, setRow_heap w b' cur cur' E (0, 0) h1, hl, h3, h4, fun i d x c1 c2 => ⟨(hr i d x c1 c2).1, (hr i d x c1 c2).2.1.move (fun _ _ _ h => h) (fun _ _ h => h) [i] fun b'' q hx => by
    simpa using hk _ b'' _ (by simp) hx, (hr i d x c1 c2).2.2⟩⟩
  ·rename_i e
   exact (h.loc m b' ds a1 a2).keep (fun _ _ _ h => h) (fun _ _ h => h) (hk' _ (by simp; exact fun e' => e e'.symm))
theorem Ok.writeObj {st : St} {val : Nat → Value} (h : Ok w g st val) (n b : Nat) (cs' : List D) (cur' : Array Value) (hb : g.bs[n]? = some b) (hne : st.obj[n]? ≠ some []) (hl : cur'.size = cs'.length)
  (hr : ∀ (i : Nat) (d : D) (x : Value), cs'[i]? = some d → cur'[i]? = some x → R g.M g.bs d x ∧ Own w g.M g.bs g.X (.obj n) [i] d x ∧ x.oneCell' = true) :
  Ok (w.setRow b cur') g { st with obj := st.obj.set n cs' } val ∧ Fr w g (w.setRow b cur') g := by
 have hn : n < st.obj.length := by rw [← h.ol]; exact (List.getElem?_eq_some_iff.1 hb).1
 have hcs : st.obj[n]? = some st.obj[n] := List.getElem?_eq_getElem hn
 obtain ⟨cur, E, h1, h2, h3, h4, h5⟩ := (h.obj n b _ hb hcs).resolve_left (fun e => hne (by rw [hcs, e]))
 have hk : ∀ (hd : Holder) (b' : Nat) (q : List Nat), (hd, q) ≠ (Holder.obj n, []) → g.X b' = some (hd, q) → (w.setRow b cur').heap[b']? = w.heap[b']? ∧ (∀ o, g.M b' o = none → g.M b' o = none) ∧ g.X b' = some (hd, q) := by
  intro hd b' q hne hx
  have : b' ≠ b := by intro e; subst e; rw [h3] at hx; simp only [Option.some.injEq] at hx; exact hne hx.symm
  exact ⟨setRow_other w b b' cur' this, fun _ h => h, hx⟩
 have hk' : ∀ (hd : Holder), hd ≠ .obj n → ∀ (b' : Nat) (q : List Nat), g.X b' = some (hd, q) → (w.setRow b cur').heap[b']? = w.heap[b']? ∧ (∀ o, g.M b' o = none → g.M b' o = none) ∧ g.X b' = some (hd, q) :=
  fun hd hne b' q => hk hd b' q (by simp [hne])
 refine ⟨⟨fun b' o c hc => ?_, fun b' t ht => by rw [size_setRow]; exact h.xlt b' t ht, fun t => (h.slot t).keep (fun _ _ _ h => h) (fun _ _ h => h) (fun _ _ h => h) (hk' _ (by simp)), h.ll,
  fun m b' ds a1 a2 => (h.loc m b' ds a1 a2).keep (fun _ _ _ h => h) (fun _ _ h => h) (hk' _ (by simp)), by simp [h.ol], fun m b' ds a1 a2 => ?_⟩, ⟨rfl, rfl, rfl, by simp, fun b' hb' hx => ⟨setRow_other w b b' cur' (by intro e; subst e; rw [h3] at hx; cases hx), hx, fun o => rfl⟩, fun _ _ _ h => h, fun _ _ h => h⟩⟩
 ·have : b' ≠ b := by intro e; subst e; rw [h4] at hc; cases hc
  rw [World.cell?_of_block (w := w) (a := ⟨b', o, none⟩) (setRow_other w b b' cur' this)]
  exact h.mem b' o c hc
 ·rw [List.getElem?_set] at a2
  split at a2
  ·rename_i e; subst e
   have a2' := (Option.some.inj a2).symm
   subst a2'
   have : b' = b := by rw [hb] at a1; simpa using a1.symm
   subst this
   exact .inr ⟨cur', E, setRow_heap w b' cur cur' E (0, 0) h1, hl, h3, h4, fun i d x c1 c2 => ⟨(hr i d x c1 c2).1, (hr i d x c1 c2).2.1.move (fun _ _ _ h => h) (fun _ _ h => h) [i] fun b'' q hx => by
    simpa using hk _ b'' _ (by simp) hx, (hr i d x c1 c2).2.2⟩⟩
  ·rename_i e
   exact (h.obj m b' ds a1 a2).keep (fun _ _ _ h => h) (fun _ _ h => h) (hk' _ (by simp; exact fun e' => e e'.symm))
end
end Go.Vm
