import Derived.Test.YtighdhfgcdjmeaaGreatDoorWkS6
namespace Go.Proofs.YtighdhfgcdjmeaaGreatDoor
open Go Go.Vm
set_option maxRecDepth 20000
set_option linter.all false
set_option maxHeartbeats 8000000
def kM (q : RC) (s : ByteArray) (x : Int) : Nat → Nat → Nat
 | 0, was => was
 | k + 1, was => if kZ q.x k = x then iP s k else kM q s x k was
def bT (t : TN) (l : List EN) (x y : Int) (was : Nat) : Nat :=
 if cU t = true then was else if SI.fnd nE l t.ID = false then was else
 if t.kind = 1 then (if (bE l t.ID).y = y then kM (bE l t.ID) t.text x t.text.size was else was)
 else if (33 ≤ fJ t ∧ fJ t ≤ 126) ∧ inR (bE l t.ID) x y = true then (fJ t).toNat else was
def dG (l : List EN) : Nat → TN → Int → Int → Nat → Nat
 | 0, _, _, _, was => was
 | n + 1, t, x, y, was => if cU t = true then bT t l x y was else t.kids.foldl (fun a k => dG l n k x y a) (bT t l x y was)
theorem yC (q : RC) (s : ByteArray) (x : Int) : ∀ (k was : Nat), was ≤ 255 → kM q s x k was ≤ 255
 | 0, _, h => h
 | k + 1, was, h => by
  simp only [kM];split
  ·exact vH s k
  ·exact yC q s x k was h
theorem sM (t : TN) (l : List EN) (x y : Int) (was : Nat) (h : was ≤ 255) : bT t l x y was ≤ 255 := by
 unfold bT
 repeat' split
 all_goals first | exact h | exact yC _ _ _ _ _ h | omega
theorem oI (l : List EN) : ∀ (n : Nat) (t : TN) (x y : Int) (was : Nat), was ≤ 255 → dG l n t x y was ≤ 255
 | 0, _, _, _, _, h => h
 | n + 1, t, x, y, was, h => by
  simp only [dG];split
  ·exact sM t l x y was h
  ·have hf : ∀ (ks : List TN) (a : Nat), a ≤ 255 → ks.foldl (fun a k => dG l n k x y a) a ≤ 255 := fun ks => by
    induction ks with
    | nil => exact fun _ h => h
    | cons k ks ih => exact fun a h => ih _ (oI l n k x y a h)
   exact hf _ _ (sM t l x y was h)
def Px (σ : List (List D)) (base w H : Nat) (P : Nat → Nat → Nat) : Prop := ∀ j i, j < H → i < w → (dP σ (base + j))[i]? = some (.v (.int .u8 (P j i : Nat)))
theorem Px.congr {σ : List (List D)} {base w H : Nat} {P P' : Nat → Nat → Nat} (h : Px σ base w H P) (e : ∀ j i, j < H → i < w → P j i = P' j i) : Px σ base w H P' := fun j i hj hi => by rw [← e j i hj hi]; exact h j i hj hi
theorem Eb {σ : List (List D)} {base w H : Nat} {P : Nat → Nat → Nat} (hr : fH σ base w H) (h : Px σ base w H P) (x y : Int) (b : Nat) : Px (oJ σ base w H x y b) base w H (fun j i => if (j : Int) = y ∧ (i : Int) = x then b else P j i) := fun j i hj hi => by
 (try dsimp only)
 obtain ⟨h1, h2⟩ := hr j hj;unfold oJ;split
 ·rename_i hc;have hlt : base + j < σ.length := (List.getElem?_eq_some_iff.1 h1).1;by_cases e : (j : Int) = y
  ·have ej : base + y.toNat = base + j := by omega
   have hrow : dP (σ.set (base + y.toNat) ((dP σ (base + y.toNat)).set x.toNat (.v (.int .u8 b)))) (base + j) = (dP σ (base + j)).set x.toNat (.v (.int .u8 b)) := by
    unfold dP;rw [ej, List.getElem?_set_self hlt]; rfl
   rw [hrow];by_cases e2 : (i : Int) = x
   ·rw [if_pos ⟨e, e2⟩, show x.toNat = i by omega, List.getElem?_set_self (by omega)]
   ·rw [if_neg (fun hh => e2 hh.2), List.getElem?_set_ne (by omega)];exact h j i hj hi
  ·have hrow : dP (σ.set (base + y.toNat) ((dP σ (base + y.toNat)).set x.toNat (.v (.int .u8 b)))) (base + j) = dP σ (base + j) := by
    unfold dP;rw [List.getElem?_set_ne (by omega)]
   rw [hrow, if_neg (fun hh => e hh.1)];exact h j i hj hi
 ·rename_i hc;rw [if_neg (fun hh => hc (by omega))];exact h j i hj hi
theorem vE {σ : List (List D)} {base w H : Nat} {P : Nat → Nat → Nat} (hr : fH σ base w H) (h : Px σ base w H P) (q : RC) (s : ByteArray) : ∀ k, Px (kD base w H q s σ k) base w H (fun j i => if q.y = j then kM q s i k (P j i) else P j i)
 | 0 => h.congr fun j i _ _ => by (try dsimp only); split <;> rfl
 | k + 1 => (Eb (lR hr q s k) (vE hr h q s k) _ _ _).congr fun j i _ _ => by
  (try dsimp only)
  simp only [kM];by_cases e : q.y = j
  ·by_cases e2 : kZ q.x k = i
   ·simp [e, e2]
   ·have e3 : ¬ (i : Int) = kZ q.x k := fun hh => e2 hh.symm;simp [e, e2, e3]
  ·have e3 : ¬ (j : Int) = q.y := fun hh => e hh.symm;simp [e, e3]
theorem zD {σ : List (List D)} {base w H : Nat} {P : Nat → Nat → Nat} (hr : fH σ base w H) (h : Px σ base w H P) (q : RC) (b y : Nat) : ∀ k, Px (jM base w H q b y σ k) base w H (fun j i => if j = y ∧ i < k ∧ inR q i y = true then b else P j i)
 | 0 => h.congr fun j i _ _ => by (try dsimp only); rw [if_neg (by omega)]
 | k + 1 => by
  have ih := zD hr h q b y k;simp only [jM];split
  ·rename_i hc;refine (Eb (kV hr q b y k) ih _ _ _).congr fun j i _ _ => ?_
   (try dsimp only)
   by_cases e : j = y
   ·subst e;by_cases e2 : i = k
    ·subst e2; simp [hc]
    ·have e3 : (i < k + 1) = (i < k) := by apply propext; omega
     have e4 : ¬ (i : Int) = k := by omega
     simp [e3, e4]
   ·have e4 : ¬ (j : Int) = y := by omega
    simp [e, e4]
  ·rename_i hc;refine ih.congr fun j i _ _ => ?_
   (try dsimp only)
   by_cases e2 : i = k
   ·subst e2; simp [hc]
   ·have e3 : (i < k + 1) = (i < k) := by apply propext; omega
    simp [e3]
theorem yZ {σ : List (List D)} {base w H : Nat} {P : Nat → Nat → Nat} (hr : fH σ base w H) (h : Px σ base w H P) (q : RC) (b : Nat) : ∀ k, Px (kO base w H q b σ k) base w H (fun j i => if j < k ∧ inR q i j = true then b else P j i)
 | 0 => h.congr fun j i _ _ => by (try dsimp only); rw [if_neg (by omega)]
 | k + 1 => (zD (lL hr q b k) (yZ hr h q b k) q b k w).congr fun j i _ hi => by
  (try dsimp only)
  by_cases e : j = k
  ·subst e; simp [hi]
  ·have e3 : (j < k + 1) = (j < k) := by apply propext; omega
   simp [e, e3]
theorem uW (q : RC) (s : ByteArray) (x : Int) (hq : 200 < q.x) (hx : x ≤ 200) : ∀ (k was : Nat), kM q s x k was = was
 | 0, _ => rfl
 | k + 1, was => by
  have : ¬ kZ q.x k = x := by unfold kZ uA; omega
  simp only [kM, if_neg this];exact uW q s x hq hx k was
theorem zO {σ : List (List D)} {base w H : Nat} {P : Nat → Nat → Nat} (hr : fH σ base w H) (h : Px σ base w H P) (hw : w ≤ 200) (t : TN) (l : List EN) : Px (fY base w H t l σ) base w H (fun j i => bT t l i j (P j i)) := by
 unfold fY bT;by_cases c1 : cU t = true
 ·simp only [c1, if_true]; exact h
 by_cases c2 : SI.fnd nE l t.ID = false
 ·simp only [c1, c2, if_true, if_false]; exact h
 by_cases c3 : t.kind = 1
 ·simp only [c1, c2, c3, if_true, if_false];by_cases c4 : (bE l t.ID).x > 200 ∨ (bE l t.ID).y < 0 ∨ (H : Int) ≤ (bE l t.ID).y
  ·rw [if_pos c4];refine h.congr fun j i hj hi => ?_
   (try dsimp only)
   by_cases c5 : (bE l t.ID).y = j
   ·rw [if_pos c5, uW _ _ _ (by omega) (by omega)]; simp
   ·rw [if_neg c5]; simp
  ·rw [if_neg c4];exact vE hr h _ _ _
 by_cases c4 : 33 ≤ fJ t ∧ fJ t ≤ 126
 ·simp only [c1, c2, c3, c4, and_self, true_and, if_true, if_false];exact (yZ hr h _ _ _).congr fun j i hj hi => by (try dsimp only); simp [hj]
 ·simp only [c1, c2, c3, c4, false_and, if_false]; exact h
theorem yN {base w H : Nat} (hw : w ≤ 200) (l : List EN) : ∀ (n : Nat) (t : TN) {σ : List (List D)} {P : Nat → Nat → Nat}, fH σ base w H → Px σ base w H P → Px (gI base w H l n t σ) base w H (fun j i => dG l n t i j (P j i))
 | 0, _, _, _, _, h => h
 | n + 1, t, σ, P, hr, h => by
  simp only [gI, dG];by_cases c1 : cU t = true
  ·simp only [c1, if_true]; exact zO hr h hw t l
  ·simp only [c1, if_false];have hf : ∀ (ks : List TN) (τ : List (List D)) (P : Nat → Nat → Nat), fH τ base w H → Px τ base w H P → Px (ks.foldl (fun τ k => gI base w H l n k τ) τ) base w H (fun j i => ks.foldl (fun a k => dG l n k i j a) (P j i)) := fun ks => by
    induction ks with
    | nil => exact fun _ _ _ h => h
    | cons k ks ih => exact fun τ P h1 h2 => ih _ _ (nQ l n k h1) (yN hw l n k h1 h2)
   exact hf t.kids _ _ (nO hr t l) (zO hr h hw t l)
def vU (l : List EN) (n : Nat) (t : TN) (w j : Nat) : List UInt8 := (List.range w).map fun (i : Nat) => UInt8.ofNat (dG l n t i j 32)
def Jy (l : List EN) (n : Nat) (t : TN) (w j : Nat) : ByteArray := ⟨(vU l n t w j).toArray⟩
def lP (x m : Int) : Nat := (qW x 0 m).toNat
def mJ (l : List EN) (n : Nat) (t : TN) (wd hg : Int) : Ls := (List.range (lP hg 100)).map fun j => Jy l n t (lP wd 200) j
@[simp] theorem Mw (l : List EN) (n : Nat) (t : TN) (w j : Nat) : (vU l n t w j).length = w := by simp [vU]
theorem Pb (l : List EN) (n : Nat) (t : TN) (w j i : Nat) (x : UInt8) (h : (vU l n t w j)[i]? = some x) : i < w ∧ (x.toNat : Int) = (dG l n t i j 32 : Nat) := by
 unfold vU at h;rw [List.getElem?_map, Option.map_eq_some_iff] at h;obtain ⟨a, ha, rfl⟩ := h;obtain ⟨h1, h2⟩ := List.getElem?_eq_some_iff.1 ha;have hi : i < w := by simpa using h1
 have e : a = i := by simpa using h2.symm
 subst e;refine ⟨hi, ?_⟩;have := oI l n t a j 32 (by omega);rw [UInt8.toNat_ofNat_of_lt' (by simp [UInt8.size]; omega)]
theorem vL (x m : Int) (hm : 0 ≤ m) : max 0 (min x m) = (lP x m : Int) := by unfold lP qW; omega
theorem iC (x m : Int) (hm : 0 ≤ m) : qW x 0 m = (lP x m : Int) ∧ (lP x m : Int) ≤ m := by
 unfold lP qW;omega
end Go.Proofs.YtighdhfgcdjmeaaGreatDoor

