import Derived.Test.YtighdhfgcdjmeaaDoorWkS6
namespace Go.Proofs.YtighdhfgcdjmeaaDoor
open Go Go.Vm
set_option maxRecDepth 20000
set_option linter.all false
set_option maxHeartbeats 8000000
def oQ (q : RC) (s : ByteArray) (x : Int) : Nat → Nat → Nat
 | 0, was => was
 | k + 1, was => if nI q.x k = x then dW s k else oQ q s x k was
def sQ (t : TN) (l : List EN) (x y : Int) (was : Nat) : Nat :=
 if kT t = true then was else if SI.fnd nE l t.ID = false then was else
 if t.kind = 1 then (if (dJ l t.ID).y = y then oQ (dJ l t.ID) t.text x t.text.size was else was)
 else if (33 ≤ lK t ∧ lK t ≤ 126) ∧ oY (dJ l t.ID) x y = true then (lK t).toNat else was
def kW (l : List EN) : Nat → TN → Int → Int → Nat → Nat
 | 0, _, _, _, was => was
 | n + 1, t, x, y, was => if kT t = true then sQ t l x y was else t.kids.foldl (fun a k => kW l n k x y a) (sQ t l x y was)
theorem xC (q : RC) (s : ByteArray) (x : Int) : ∀ (k was : Nat), was ≤ 255 → oQ q s x k was ≤ 255
 | 0, _, h => h
 | k + 1, was, h => by
  simp only [oQ];split
  ·exact sC s k
  ·exact xC q s x k was h
theorem vN (t : TN) (l : List EN) (x y : Int) (was : Nat) (h : was ≤ 255) : sQ t l x y was ≤ 255 := by
 unfold sQ
 repeat' split
 all_goals first | exact h | exact xC _ _ _ _ _ h | omega
theorem vS (l : List EN) : ∀ (n : Nat) (t : TN) (x y : Int) (was : Nat), was ≤ 255 → kW l n t x y was ≤ 255
 | 0, _, _, _, _, h => h
 | n + 1, t, x, y, was, h => by
  simp only [kW];split
  ·exact vN t l x y was h
  ·have hf : ∀ (ks : List TN) (a : Nat), a ≤ 255 → ks.foldl (fun a k => kW l n k x y a) a ≤ 255 := fun ks => by
    induction ks with
    | nil => exact fun _ h => h
    | cons k ks ih => exact fun a h => ih _ (vS l n k x y a h)
   exact hf _ _ (vN t l x y was h)
def Px (σ : List (List D)) (base w H : Nat) (P : Nat → Nat → Nat) : Prop := ∀ j i, j < H → i < w → (cY σ (base + j))[i]? = some (.v (.int .u8 (P j i : Nat)))
theorem Px.congr {σ : List (List D)} {base w H : Nat} {P P' : Nat → Nat → Nat} (h : Px σ base w H P) (e : ∀ j i, j < H → i < w → P j i = P' j i) : Px σ base w H P' := fun j i hj hi => by rw [← e j i hj hi]; exact h j i hj hi
theorem Bb {σ : List (List D)} {base w H : Nat} {P : Nat → Nat → Nat} (hr : eL σ base w H) (h : Px σ base w H P) (x y : Int) (b : Nat) : Px (mN σ base w H x y b) base w H (fun j i => if (j : Int) = y ∧ (i : Int) = x then b else P j i) := fun j i hj hi => by
 (try dsimp only)
 obtain ⟨h1, h2⟩ := hr j hj;unfold mN;split
 ·rename_i hc;have hlt : base + j < σ.length := (List.getElem?_eq_some_iff.1 h1).1;by_cases e : (j : Int) = y
  ·have ej : base + y.toNat = base + j := by omega
   have hrow : cY (σ.set (base + y.toNat) ((cY σ (base + y.toNat)).set x.toNat (.v (.int .u8 b)))) (base + j) = (cY σ (base + j)).set x.toNat (.v (.int .u8 b)) := by
    unfold cY;rw [ej, List.getElem?_set_self hlt]; rfl
   rw [hrow];by_cases e2 : (i : Int) = x
   ·rw [if_pos ⟨e, e2⟩, show x.toNat = i by omega, List.getElem?_set_self (by omega)]
   ·rw [if_neg (fun hh => e2 hh.2), List.getElem?_set_ne (by omega)];exact h j i hj hi
  ·have hrow : cY (σ.set (base + y.toNat) ((cY σ (base + y.toNat)).set x.toNat (.v (.int .u8 b)))) (base + j) = cY σ (base + j) := by
    unfold cY;rw [List.getElem?_set_ne (by omega)]
   rw [hrow, if_neg (fun hh => e hh.1)];exact h j i hj hi
 ·rename_i hc;rw [if_neg (fun hh => hc (by omega))];exact h j i hj hi
theorem sB {σ : List (List D)} {base w H : Nat} {P : Nat → Nat → Nat} (hr : eL σ base w H) (h : Px σ base w H P) (q : RC) (s : ByteArray) : ∀ k, Px (iV base w H q s σ k) base w H (fun j i => if q.y = j then oQ q s i k (P j i) else P j i)
 | 0 => h.congr fun j i _ _ => by (try dsimp only); split <;> rfl
 | k + 1 => (Bb (kP hr q s k) (sB hr h q s k) _ _ _).congr fun j i _ _ => by
  (try dsimp only)
  simp only [oQ];by_cases e : q.y = j
  ·by_cases e2 : nI q.x k = i
   ·simp [e, e2]
   ·have e3 : ¬ (i : Int) = nI q.x k := fun hh => e2 hh.symm;simp [e, e2, e3]
  ·have e3 : ¬ (j : Int) = q.y := fun hh => e hh.symm;simp [e, e3]
theorem vD {σ : List (List D)} {base w H : Nat} {P : Nat → Nat → Nat} (hr : eL σ base w H) (h : Px σ base w H P) (q : RC) (b y : Nat) : ∀ k, Px (iD base w H q b y σ k) base w H (fun j i => if j = y ∧ i < k ∧ oY q i y = true then b else P j i)
 | 0 => h.congr fun j i _ _ => by (try dsimp only); rw [if_neg (by omega)]
 | k + 1 => by
  have ih := vD hr h q b y k;simp only [iD];split
  ·rename_i hc;refine (Bb (kD hr q b y k) ih _ _ _).congr fun j i _ _ => ?_
   (try dsimp only)
   by_cases e : j = y
   ·subst e;by_cases e2 : i = k
    ·subst e2; simp [hc]
    ·have e3 : (i < k + 1) = (i < k) := by apply propext; omega
     have e4 : ¬ (i : Int) = k := by omega
     simp [e3, e4]
   ·have e4 : ¬ (j : Int) = y := by omega
    simp [e, e4]
  ·rename_i hc;refine ih.congr fun j i _ _ => ?_
   (try dsimp only)
   by_cases e2 : i = k
   ·subst e2; simp [hc]
   ·have e3 : (i < k + 1) = (i < k) := by apply propext; omega
    simp [e3]
theorem xL {σ : List (List D)} {base w H : Nat} {P : Nat → Nat → Nat} (hr : eL σ base w H) (h : Px σ base w H P) (q : RC) (b : Nat) : ∀ k, Px (jC base w H q b σ k) base w H (fun j i => if j < k ∧ oY q i j = true then b else P j i)
 | 0 => h.congr fun j i _ _ => by (try dsimp only); rw [if_neg (by omega)]
 | k + 1 => (vD (jI hr q b k) (xL hr h q b k) q b k w).congr fun j i _ hi => by
  (try dsimp only)
  by_cases e : j = k
  ·subst e; simp [hi]
  ·have e3 : (j < k + 1) = (j < k) := by apply propext; omega
   simp [e, e3]
theorem rU (q : RC) (s : ByteArray) (x : Int) (hq : 200 < q.x) (hx : x ≤ 200) : ∀ (k was : Nat), oQ q s x k was = was
 | 0, _ => rfl
 | k + 1, was => by
  have : ¬ nI q.x k = x := by unfold nI wR; omega
  simp only [oQ, if_neg this];exact rU q s x hq hx k was
theorem xF {σ : List (List D)} {base w H : Nat} {P : Nat → Nat → Nat} (hr : eL σ base w H) (h : Px σ base w H P) (hw : w ≤ 200) (t : TN) (l : List EN) : Px (fI base w H t l σ) base w H (fun j i => sQ t l i j (P j i)) := by
 unfold fI sQ;by_cases c1 : kT t = true
 ·simp only [c1, if_true]; exact h
 by_cases c2 : SI.fnd nE l t.ID = false
 ·simp only [c1, c2, if_true, if_false]; exact h
 by_cases c3 : t.kind = 1
 ·simp only [c1, c2, c3, if_true, if_false];by_cases c4 : (dJ l t.ID).x > 200 ∨ (dJ l t.ID).y < 0 ∨ (H : Int) ≤ (dJ l t.ID).y
  ·rw [if_pos c4];refine h.congr fun j i hj hi => ?_
   (try dsimp only)
   by_cases c5 : (dJ l t.ID).y = j
   ·rw [if_pos c5, rU _ _ _ (by omega) (by omega)]; simp
   ·rw [if_neg c5]; simp
  ·rw [if_neg c4];exact sB hr h _ _ _
 by_cases c4 : 33 ≤ lK t ∧ lK t ≤ 126
 ·simp only [c1, c2, c3, c4, and_self, true_and, if_true, if_false];exact (xL hr h _ _ _).congr fun j i hj hi => by (try dsimp only); simp [hj]
 ·simp only [c1, c2, c3, c4, false_and, if_false]; exact h
theorem vX {base w H : Nat} (hw : w ≤ 200) (l : List EN) : ∀ (n : Nat) (t : TN) {σ : List (List D)} {P : Nat → Nat → Nat}, eL σ base w H → Px σ base w H P → Px (fO base w H l n t σ) base w H (fun j i => kW l n t i j (P j i))
 | 0, _, _, _, _, h => h
 | n + 1, t, σ, P, hr, h => by
  simp only [fO, kW];by_cases c1 : kT t = true
  ·simp only [c1, if_true]; exact xF hr h hw t l
  ·simp only [c1, if_false];have hf : ∀ (ks : List TN) (τ : List (List D)) (P : Nat → Nat → Nat), eL τ base w H → Px τ base w H P → Px (ks.foldl (fun τ k => fO base w H l n k τ) τ) base w H (fun j i => ks.foldl (fun a k => kW l n k i j a) (P j i)) := fun ks => by
    induction ks with
    | nil => exact fun _ _ _ h => h
    | cons k ks ih => exact fun τ P h1 h2 => ih _ _ (mS l n k h1) (vX hw l n k h1 h2)
   exact hf t.kids _ _ (lX hr t l) (xF hr h hw t l)
def Eb (l : List EN) (n : Nat) (t : TN) (w j : Nat) : List UInt8 := (List.range w).map fun (i : Nat) => UInt8.ofNat (kW l n t i j 32)
def Mk (l : List EN) (n : Nat) (t : TN) (w j : Nat) : ByteArray := ⟨(Eb l n t w j).toArray⟩
def pK (x m : Int) : Nat := (pO x 0 m).toNat
def Av (l : List EN) (n : Nat) (t : TN) (wd hg : Int) : Ls := (List.range (pK hg 100)).map fun j => Mk l n t (pK wd 200) j
@[simp] theorem Ij (l : List EN) (n : Nat) (t : TN) (w j : Nat) : (Eb l n t w j).length = w := by simp [Eb]
theorem Jc (l : List EN) (n : Nat) (t : TN) (w j i : Nat) (x : UInt8) (h : (Eb l n t w j)[i]? = some x) : i < w ∧ (x.toNat : Int) = (kW l n t i j 32 : Nat) := by
 unfold Eb at h;rw [List.getElem?_map, Option.map_eq_some_iff] at h;obtain ⟨a, ha, rfl⟩ := h;obtain ⟨h1, h2⟩ := List.getElem?_eq_some_iff.1 ha;have hi : i < w := by simpa using h1
 have e : a = i := by simpa using h2.symm
 subst e;refine ⟨hi, ?_⟩;have := vS l n t a j 32 (by omega);rw [UInt8.toNat_ofNat_of_lt' (by simp [UInt8.size]; omega)]
theorem qV (x m : Int) (hm : 0 ≤ m) : pO x 0 m = (pK x m : Int) ∧ (pK x m : Int) ≤ m := by
 unfold pK pO;omega
end Go.Proofs.YtighdhfgcdjmeaaDoor

