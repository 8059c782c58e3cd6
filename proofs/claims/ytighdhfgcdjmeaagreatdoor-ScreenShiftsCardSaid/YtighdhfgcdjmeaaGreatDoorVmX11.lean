import Derived.Test.YtighdhfgcdjmeaaGreatDoorVmX9
namespace Go.Vm
open Go
set_option linter.all false
def kS (obj : List (List D)) (m i N : Nat) (kd : TypeDesc) (clock : Nat) (kvs : List (Value × Nat × D)) : Prop :=
 ∃ cs, obj[m]? = some cs ∧ cs[i]? = some (.mp N kd clock kvs)
def putM (obj : List (List D)) (m i N : Nat) (kd : TypeDesc) (clock : Nat) (kvs : List (Value × Nat × D)) : List (List D) :=
 obj.set m ((obj.getD m []).set i (.mp N kd clock kvs))
def Zl (kvs : List (Value × Nat × D)) (k : Value) (zero d : D) (b : Bool) : Prop :=
 (b = true ∧ ∃ j s : Nat, kvs[j]? = some (k, s, d)) ∨ (b = false ∧ d = zero ∧ ∀ e ∈ kvs, e.1 ≠ k)
def Wr (kvs : List (Value × Nat × D)) (clock : Nat) (k : Value) (d : D) (kvs' : List (Value × Nat × D)) (clock' : Nat) : Prop :=
 (∃ (j s : Nat) (d0 : D), kvs[j]? = some (k, s, d0) ∧ kvs' = kvs.set j (k, s, d) ∧ clock' = clock) ∨ ((∀ e ∈ kvs, e.1 ≠ k) ∧ kvs' = kvs ++ [(k, clock, d)] ∧ clock' = clock + 1)
def Yf (kvs : List (Value × Nat × D)) (k : Value) (kvs' : List (Value × Nat × D)) : Prop :=
 (∃ (j s : Nat) (d0 : D), kvs[j]? = some (k, s, d0) ∧ kvs' = kvs.eraseIdx j) ∨ ((∀ e ∈ kvs, e.1 ≠ k) ∧ kvs' = kvs)
def Xf (kvs : List (Value × Nat × D)) (clock : Nat) (k : Value) (zero : D) (kvs' : List (Value × Nat × D)) (clock' : Nat) (d : D) (s : Nat) : Prop :=
 (∃ j : Nat, kvs[j]? = some (k, s, d) ∧ kvs' = kvs ∧ clock' = clock) ∨ ((∀ e ∈ kvs, e.1 ≠ k) ∧ kvs' = kvs ++ [(k, clock, zero)] ∧ clock' = clock + 1 ∧ d = zero ∧ s = clock)
def Xv (kvs : List (Value × Nat × D)) (s : Nat) (d : D) (kvs' : List (Value × Nat × D)) : Prop :=
 ∃ (j : Nat) (k : Value) (d0 : D), kvs[j]? = some (k, s, d0) ∧ kvs' = kvs.set j (k, s, d)
def Oi (P : Program) (t : TypeId) : Option (TypeDesc × Value) :=
 match P.underlying t with
 | some (.map kt et) => match P.underlying kt, P.info? et with
  | some kd, some i => match i.zero with
   | some z => some (kd, z)
   | none => none
  | _, _ => none
 | _ => none
def Uz (z : Value) : D := (D.ofV z).s2
theorem iF {P : Program} {t : TypeId} {kd : TypeDesc} {z : Value} (h : Oi P t = some (kd, z)) : ∃ kt et i, P.underlying t = some (.map kt et) ∧ P.underlying kt = some kd ∧ P.info? et = some i ∧ i.zero = some z := by
 unfold Oi at h;split at h
 ·rename_i kt et h1;split at h
  ·rename_i kd' i h2 h3;split at h
   ·rename_i zv h4;simp only [Option.some.injEq, Prod.mk.injEq] at h;obtain ⟨rfl, rfl⟩ := h;exact ⟨kt, et, i, h1, h2, h3, h4⟩
   ·cases h
  ·cases h
 ·cases h
section
variable {P : Program}
def jY (P : Program) (dst : Option Tmp) (t : TypeId) (sx sk : Slot) (ok : Bool) (obj : List (List D)) : fE := fun sets ob =>
 match dst, sx, sk, Oi P t with
 | some d, .d (.mref N), .d (.v k), some (kd, z) => ∃ m i clock kvs dv b, (kS obj m i N kd clock kvs ∧ MapKept.IsKey kd k ∧ (Uz z).arr = true ∧ Zl kvs k (Uz z) dv b) ∧
   sets = [(d, .d (if ok = true then .tup [dv, .bool b] else dv))] ∧ ob = none
 | _, _, _, _ => False
def jO (P : Program) (dst : Option Tmp) (t : TypeId) (sx sk sv : Slot) (obj : List (List D)) : fE := fun sets ob =>
 match dst, sx, sk, sv, Oi P t with
 | none, .d (.mref N), .d (.v k), .d d0, some (kd, _) => ∃ m i clock kvs clock' kvs', (kS obj m i N kd clock kvs ∧ MapKept.IsKey kd k ∧ d0.s2.arr = true ∧ d0.solid = true ∧ Wr kvs clock k d0.s2 kvs' clock') ∧
   sets = [] ∧ ob = some (putM obj m i N kd clock' kvs')
 | _, _, _, _, _ => False
def lQ (P : Program) (dst : Option Tmp) (t : TypeId) (sx sk : Slot) (obj : List (List D)) : fE := fun sets ob =>
 match sx, sk, Oi P t with
 | .d (.mref N), .d (.v k), some (kd, _) => ∃ m i clock kvs kvs', (dst = none ∧ kS obj m i N kd clock kvs ∧ MapKept.IsKey kd k ∧ Yf kvs k kvs') ∧
   sets = [] ∧ ob = some (putM obj m i N kd clock kvs')
 | _, _, _ => False
def rS (P : Program) (dst : Option Tmp) (t : TypeId) (sx : Slot) (obj : List (List D)) : fE := fun sets ob =>
 match dst, sx, Oi P t with
 | some d, .d (.mref N), some (kd, _) => ∃ m i clock kvs, kS obj m i N kd clock kvs ∧ sets = [(d, .d (.int kvs.length))] ∧ ob = none
 | _, _, _ => False
def iH (P : Program) (dst : Option Tmp) (t : TypeId) (r : Option Slot) (obj : List (List D)) : fE := fun sets ob =>
 match dst, Oi P t with
 | some d, some (kd, _) => (match r with | none => True | some (.d (.v (.int _ _))) => True | _ => False) ∧ sets = [(d, .d (.mp obj.length kd 0 []))] ∧ ob = some (obj ++ [[]])
 | _, _ => False
def pV (P : Program) (dst : Option Tmp) (t : TypeId) (sx sk : Slot) (obj : List (List D)) : fE := fun sets ob =>
 match dst, sx, sk, Oi P t with
 | some d, .d (.mref N), .d (.v k), some (kd, z) => ∃ m i clock kvs clock' kvs' dv s, (kS obj m i N kd clock kvs ∧ MapKept.IsKey kd k ∧ (Uz z).arr = true ∧ Xf kvs clock k (Uz z) kvs' clock' dv s) ∧
   sets = [(d, .d (.tup [dv, .int s]))] ∧ ob = some (putM obj m i N kd clock' kvs')
 | _, _, _, _ => False
def lU (P : Program) (dst : Option Tmp) (t : TypeId) (sx ss sv : Slot) (obj : List (List D)) : fE := fun sets ob =>
 match dst, sx, ss, sv, Oi P t with
 | none, .d (.mref N), .d (.v (.int _ s)), .d d0, some (kd, _) => ∃ m i clock kvs kvs', (kS obj m i N kd clock kvs ∧ 0 ≤ s ∧ d0.s2.arr = true ∧ d0.solid = true ∧ Xv kvs s.toNat d0.s2 kvs') ∧
   sets = [] ∧ ob = some (putM obj m i N kd clock kvs')
 | _, _, _, _, _ => False
end
theorem kA {w : World} {g : Gh} {st : St} {val : Nat → Value} (h : Ok w g st val) {m i N : Nat} {kd : TypeDesc} {clock : Nat} {kvs : List (Value × Nat × D)} (hh : kS st.obj m i N kd clock kvs) {v : Value} (hv : R g.M g.bs (.mref N) v) :
  ∃ (b : Nat) (es : Array MapEntry), v = .map (some b) ∧ g.X b = some (.obj m, [i]) ∧ w.heap[b]? = some (.map es clock) ∧ (∀ o, g.M b o = none) ∧ es.size = kvs.length ∧ (MapKept.Stamped es clock ∧ ∀ x ∈ es.toList, MapKept.IsKey kd x.key) ∧
   (∀ (i : Nat) (k : Value) (s : Nat) (d : D) (e : MapEntry), kvs[i]? = some (k, s, d) → es[i]? = some e → e.key = k ∧ e.born = s ∧ R g.M g.bs d e.val ∧ d.arr = true) ∧ g.bs[N]? = some b := by
 obtain ⟨cs, h1, h2⟩ := hh;have hml := (List.getElem?_eq_some_iff.1 h1).1;obtain ⟨bm, hbm⟩ : ∃ bm, g.bs[m]? = some bm := ⟨_, List.getElem?_eq_getElem (by rw [h.ol]; exact hml)⟩;have hne : cs ≠ [] := by rintro rfl; simp at h2
 obtain ⟨cur, E, o1, o2, o3, o4, o5⟩ := (h.obj m bm cs hbm h1).resolve_left hne;have hil := (List.getElem?_eq_some_iff.1 h2).1;obtain ⟨x, hx⟩ : ∃ x, cur[i]? = some x := ⟨_, Array.getElem?_eq_getElem (by rw [o2]; exact hil)⟩;obtain ⟨r1, r2, r3⟩ := o5 i _ x h2 hx;cases r2 with
 | mp _ _ _ _ _ _ ho =>
  obtain ⟨b, es, rfl, e1, e2, e3, e4, e5, e6, e7⟩ := ho;cases hv with
  | mref _ b' hb' =>
   have : b' = b := by rw [e1] at hb'; simpa using hb'.symm
   subst this;exact ⟨b', es, rfl, e2, e3, e4, e5, e6, e7, e1⟩
 | flat _ _ _ hf => simp [D.flat] at hf
theorem Ok.putM {w : World} {g : Gh} {st : St} {val : Nat → Value} (h : Ok w g st val) {m i N : Nat} {kd : TypeDesc} {clock clock' : Nat} {kvs kvs' : List (Value × Nat × D)} (hh : kS st.obj m i N kd clock kvs) {b : Nat} {es es' : Array MapEntry} (hX : g.X b = some (.obj m, [i])) (hb : w.heap[b]? = some (.map es clock)) (hM : ∀ o, g.M b o = none) (hbs : g.bs[N]? = some b)
  (hsz : es'.size = kvs'.length) (hst : MapKept.Stamped es' clock' ∧ ∀ x ∈ es'.toList, MapKept.IsKey kd x.key)
  (hr : ∀ (i : Nat) (k : Value) (s : Nat) (d : D) (e : MapEntry), kvs'[i]? = some (k, s, d) → es'[i]? = some e → e.key = k ∧ e.born = s ∧ R g.M g.bs d e.val ∧ d.arr = true) :
  Ok { w with heap := w.heap.setIfInBounds b (.map es' clock') } g { st with obj := Go.Vm.putM st.obj m i N kd clock' kvs' } val ∧ Fr w g { w with heap := w.heap.setIfInBounds b (.map es' clock') } g := by
 obtain ⟨cs, h1, h2⟩ := hh;have hml := (List.getElem?_eq_some_iff.1 h1).1;have hgd : st.obj.getD m [] = cs := by rw [List.getD_eq_getElem?_getD, h1]; rfl
 obtain ⟨bm, hbm⟩ : ∃ bm, g.bs[m]? = some bm := ⟨_, List.getElem?_eq_getElem (by rw [h.ol]; exact hml)⟩;have hne : cs ≠ [] := by rintro rfl; simp at h2
 obtain ⟨cur, E, o1, o2, o3, o4, o5⟩ := (h.obj m bm cs hbm h1).resolve_left hne;have hil := (List.getElem?_eq_some_iff.1 h2).1;obtain ⟨hself, hoth⟩ := MapKept.heap_set (o' := .map es' clock') hb;have hbm2 : bm ≠ b := by intro e; subst e; rw [o1] at hb; cases hb
 obtain ⟨x, hx⟩ : ∃ x, cur[i]? = some x := ⟨_, Array.getElem?_eq_getElem (by rw [o2]; exact hil)⟩;have hxv : x = .map (some b) := by
  obtain ⟨r1, r2, r3⟩ := o5 i _ x h2 hx;cases r1 with
  | mp _ _ _ b' _ hb' => rw [hbs] at hb'; simp at hb'; rw [hb']
 have other : ∀ (hd : Holder) (b' : Nat) (q : List Nat), (hd, q) ≠ (Holder.obj m, [i]) → g.X b' = some (hd, q) → (w.heap.setIfInBounds b (.map es' clock'))[b']? = w.heap[b']? ∧ (∀ o, g.M b' o = none → g.M b' o = none) ∧ g.X b' = some (hd, q) := fun hd b' q hne' hq => by
  have : b' ≠ b := by rintro rfl; rw [hX] at hq; simp only [Option.some.injEq] at hq; exact hne' hq.symm
  exact ⟨hoth b' this, fun _ h => h, hq⟩
 have other' : ∀ (hd : Holder), hd ≠ .obj m → ∀ (b' : Nat) (q : List Nat), g.X b' = some (hd, q) → (w.heap.setIfInBounds b (.map es' clock'))[b']? = w.heap[b']? ∧ (∀ o, g.M b' o = none → g.M b' o = none) ∧ g.X b' = some (hd, q) := fun hd hne' b' q => other hd b' q (by simp [hne']);refine ⟨⟨fun b' o c hc => ?_, fun b' t ht => ?_, fun t => (h.slot t).keep (fun _ _ _ h => h) (fun _ _ h => h) (fun _ _ h => h) (other' _ (by simp)), h.ll, fun n b' ds a1 a2 => (h.loc n b' ds a1 a2).keep (fun _ _ _ h => h) (fun _ _ h => h) (other' _ (by simp)), by simp [Go.Vm.putM, h.ol], fun n b' ds a1 a2 => ?_⟩, ⟨rfl, rfl, rfl, by simp, fun b' hb' hx' => ?_, fun _ _ _ h => h, fun _ _ h => h⟩⟩
 ·have hne' : b' ≠ b := by intro e; subst e; rw [hM] at hc; cases hc
  rw [World.cell?_of_block (w := w) (a := ⟨b', o, none⟩) (hoth b' hne')];exact h.mem b' o c hc
 ·have := h.xlt b' t ht;simpa using this
 ·have a2' : (st.obj.set m (cs.set i (.mp N kd clock' kvs')))[n]? = some ds := by
   have a3 : (Go.Vm.putM st.obj m i N kd clock' kvs')[n]? = some ds := a2;unfold Go.Vm.putM at a3; rw [hgd] at a3; exact a3
  rw [List.getElem?_set] at a2';by_cases e : m = n
  ·subst e;simp only [if_true, hml] at a2';have eds : cs.set i (.mp N kd clock' kvs') = ds := by simpa using a2'
   subst eds;have ebm : b' = bm := by rw [hbm] at a1; simpa using a1.symm
   subst ebm;refine .inr ⟨cur, E, by rw [hoth b' hbm2]; exact o1, by simpa using o2, o3, o4, fun j d y c1 c2 => ?_⟩;rw [List.getElem?_set] at c1;by_cases ej : i = j
   ·subst ej;simp only [if_true, hil] at c1;have ed : D.mp N kd clock' kvs' = d := by simpa using c1
    subst ed;have ey : y = x := by rw [hx] at c2; simpa using c2.symm
    subst ey;subst hxv;exact ⟨.mp _ _ _ b _ hbs, .mp _ _ _ _ _ _ ⟨b, es', rfl, hbs, hX, hself, hM, hsz, hst, hr⟩, rfl⟩
   ·rw [if_neg ej] at c1;obtain ⟨r1, r2, r3⟩ := o5 j d y c1 c2;exact ⟨r1, r2.move (fun _ _ _ h => h) (fun _ _ h => h) [j] fun b'' q hq => other _ b'' _ (by simp; intro e; exact absurd e.symm ej) hq, r3⟩
  ·rw [if_neg e] at a2';exact (h.obj n b' ds a1 a2').keep (fun _ _ _ h => h) (fun _ _ h => h) (other' _ (by simp; exact fun e' => e e'.symm))
 ·have : b' ≠ b := by intro e; subst e; rw [hX] at hx'; cases hx'
  exact ⟨hoth b' this, hx', fun _ => rfl⟩
end Go.Vm

