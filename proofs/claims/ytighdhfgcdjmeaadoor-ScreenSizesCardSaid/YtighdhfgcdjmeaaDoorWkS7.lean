import Derived.Test.YtighdhfgcdjmeaaDoorWkS6
namespace Go.Proofs.YtighdhfgcdjmeaaDoor
open Go Go.Vm
set_option maxRecDepth 20000
set_option linter.all false
set_option maxHeartbeats 8000000
def pE (q : RC) (s : ByteArray) (x : Int) : Nat → Nat → Nat
 | 0, was => was
 | k + 1, was => if nT q.x k = x then jK s k else pE q s x k was
def pQ (t : TN) (l : List EN) (x y : Int) (was : Nat) : Nat :=
 if lG t = true then was else if SI.fnd nE l t.ID = false then was else
 if t.kind = 1 then (if (dX l t.ID).y = y then pE (dX l t.ID) t.text x t.text.size was else was)
 else if (33 ≤ lO t ∧ lO t ≤ 126) ∧ qA (dX l t.ID) x y = true then (lO t).toNat else was
def iL (l : List EN) : Nat → TN → Int → Int → Nat → Nat
 | 0, _, _, _, was => was
 | n + 1, t, x, y, was => if lG t = true then pQ t l x y was else t.kids.foldl (fun a k => iL l n k x y a) (pQ t l x y was)
theorem xB (q : RC) (s : ByteArray) (x : Int) : ∀ (k was : Nat), was ≤ 255 → pE q s x k was ≤ 255
 | 0, _, h => h
 | k + 1, was, h => by
  simp only [pE];split
  ·exact tH s k
  ·exact xB q s x k was h
theorem wY (t : TN) (l : List EN) (x y : Int) (was : Nat) (h : was ≤ 255) : pQ t l x y was ≤ 255 := by
 unfold pQ
 repeat' split
 all_goals first | exact h | exact xB _ _ _ _ _ h | omega
theorem yZ (l : List EN) : ∀ (n : Nat) (t : TN) (x y : Int) (was : Nat), was ≤ 255 → iL l n t x y was ≤ 255
 | 0, _, _, _, _, h => h
 | n + 1, t, x, y, was, h => by
  simp only [iL];split
  ·exact wY t l x y was h
  ·have hf : ∀ (ks : List TN) (a : Nat), a ≤ 255 → ks.foldl (fun a k => iL l n k x y a) a ≤ 255 := fun ks => by
    induction ks with
    | nil => exact fun _ h => h
    | cons k ks ih => exact fun a h => ih _ (yZ l n k x y a h)
   exact hf _ _ (wY t l x y was h)
def Px (σ : List (List D)) (base w H : Nat) (P : Nat → Nat → Nat) : Prop := ∀ j i, j < H → i < w → (dF σ (base + j))[i]? = some (.v (.int .u8 (P j i : Nat)))
theorem Px.congr {σ : List (List D)} {base w H : Nat} {P P' : Nat → Nat → Nat} (h : Px σ base w H P) (e : ∀ j i, j < H → i < w → P j i = P' j i) : Px σ base w H P' := fun j i hj hi => by rw [← e j i hj hi]; exact h j i hj hi
theorem Bv {σ : List (List D)} {base w H : Nat} {P : Nat → Nat → Nat} (hr : eX σ base w H) (h : Px σ base w H P) (x y : Int) (b : Nat) : Px (mN σ base w H x y b) base w H (fun j i => if (j : Int) = y ∧ (i : Int) = x then b else P j i) := fun j i hj hi => by
 (try dsimp only)
 obtain ⟨h1, h2⟩ := hr j hj;unfold mN;split
 ·rename_i hc;have hlt : base + j < σ.length := (List.getElem?_eq_some_iff.1 h1).1;by_cases e : (j : Int) = y
  ·have ej : base + y.toNat = base + j := by omega
   have hrow : dF (σ.set (base + y.toNat) ((dF σ (base + y.toNat)).set x.toNat (.v (.int .u8 b)))) (base + j) = (dF σ (base + j)).set x.toNat (.v (.int .u8 b)) := by
    unfold dF;rw [ej, List.getElem?_set_self hlt]; rfl
   rw [hrow];by_cases e2 : (i : Int) = x
   ·rw [if_pos ⟨e, e2⟩, show x.toNat = i by omega, List.getElem?_set_self (by omega)]
   ·rw [if_neg (fun hh => e2 hh.2), List.getElem?_set_ne (by omega)];exact h j i hj hi
  ·have hrow : dF (σ.set (base + y.toNat) ((dF σ (base + y.toNat)).set x.toNat (.v (.int .u8 b)))) (base + j) = dF σ (base + j) := by
    unfold dF;rw [List.getElem?_set_ne (by omega)]
   rw [hrow, if_neg (fun hh => e hh.1)];exact h j i hj hi
 ·rename_i hc;rw [if_neg (fun hh => hc (by omega))];exact h j i hj hi
theorem tC {σ : List (List D)} {base w H : Nat} {P : Nat → Nat → Nat} (hr : eX σ base w H) (h : Px σ base w H P) (q : RC) (s : ByteArray) : ∀ k, Px (jL base w H q s σ k) base w H (fun j i => if q.y = j then pE q s i k (P j i) else P j i)
 | 0 => h.congr fun j i _ _ => by (try dsimp only); split <;> rfl
 | k + 1 => (Bv (kZ hr q s k) (tC hr h q s k) _ _ _).congr fun j i _ _ => by
  (try dsimp only)
  simp only [pE];by_cases e : q.y = j
  ·by_cases e2 : nT q.x k = i
   ·simp [e, e2]
   ·have e3 : ¬ (i : Int) = nT q.x k := fun hh => e2 hh.symm;simp [e, e2, e3]
  ·have e3 : ¬ (j : Int) = q.y := fun hh => e hh.symm;simp [e, e3]
theorem xZ {σ : List (List D)} {base w H : Nat} {P : Nat → Nat → Nat} (hr : eX σ base w H) (h : Px σ base w H P) (q : RC) (b y : Nat) : ∀ k, Px (iK base w H q b y σ k) base w H (fun j i => if j = y ∧ i < k ∧ qA q i y = true then b else P j i)
 | 0 => h.congr fun j i _ _ => by (try dsimp only); rw [if_neg (by omega)]
 | k + 1 => by
  have ih := xZ hr h q b y k;simp only [iK];split
  ·rename_i hc;refine (Bv (kF hr q b y k) ih _ _ _).congr fun j i _ _ => ?_
   (try dsimp only)
   by_cases e : j = y
   ·subst e;by_cases e2 : i = k
    ·subst e2; simp [hc]
    ·have e3 : (i < k + 1) = (i < k) := by apply propext; omega
     have e4 : ¬ (i : Int) = k := by omega
     simp [e3, e4]
   ·have e4 : ¬ (j : Int) = y := by omega
    simp [e, e4]
  ·rename_i hc;refine ih.congr fun j i _ _ => ?_
   (try dsimp only)
   by_cases e2 : i = k
   ·subst e2; simp [hc]
   ·have e3 : (i < k + 1) = (i < k) := by apply propext; omega
    simp [e3]
theorem xX {σ : List (List D)} {base w H : Nat} {P : Nat → Nat → Nat} (hr : eX σ base w H) (h : Px σ base w H P) (q : RC) (b : Nat) : ∀ k, Px (jO base w H q b σ k) base w H (fun j i => if j < k ∧ qA q i j = true then b else P j i)
 | 0 => h.congr fun j i _ _ => by (try dsimp only); rw [if_neg (by omega)]
 | k + 1 => (xZ (kL hr q b k) (xX hr h q b k) q b k w).congr fun j i _ hi => by
  (try dsimp only)
  by_cases e : j = k
  ·subst e; simp [hi]
  ·have e3 : (j < k + 1) = (j < k) := by apply propext; omega
   simp [e, e3]
theorem sZ (q : RC) (s : ByteArray) (x : Int) (hq : 200 < q.x) (hx : x ≤ 200) : ∀ (k was : Nat), pE q s x k was = was
 | 0, _ => rfl
 | k + 1, was => by
  have : ¬ nT q.x k = x := by unfold nT xU; omega
  simp only [pE, if_neg this];exact sZ q s x hq hx k was
theorem yQ {σ : List (List D)} {base w H : Nat} {P : Nat → Nat → Nat} (hr : eX σ base w H) (h : Px σ base w H P) (hw : w ≤ 200) (t : TN) (l : List EN) : Px (fN base w H t l σ) base w H (fun j i => pQ t l i j (P j i)) := by
 unfold fN pQ;by_cases c1 : lG t = true
 ·simp only [c1, if_true]; exact h
 by_cases c2 : SI.fnd nE l t.ID = false
 ·simp only [c1, c2, if_true, if_false]; exact h
 by_cases c3 : t.kind = 1
 ·simp only [c1, c2, c3, if_true, if_false];by_cases c4 : (dX l t.ID).x > 200 ∨ (dX l t.ID).y < 0 ∨ (H : Int) ≤ (dX l t.ID).y
  ·rw [if_pos c4];refine h.congr fun j i hj hi => ?_
   (try dsimp only)
   by_cases c5 : (dX l t.ID).y = j
   ·rw [if_pos c5, sZ _ _ _ (by omega) (by omega)]; simp
   ·rw [if_neg c5]; simp
  ·rw [if_neg c4];exact tC hr h _ _ _
 by_cases c4 : 33 ≤ lO t ∧ lO t ≤ 126
 ·simp only [c1, c2, c3, c4, and_self, true_and, if_true, if_false];exact (xX hr h _ _ _).congr fun j i hj hi => by (try dsimp only); simp [hj]
 ·simp only [c1, c2, c3, c4, false_and, if_false]; exact h
theorem wU {base w H : Nat} (hw : w ≤ 200) (l : List EN) : ∀ (n : Nat) (t : TN) {σ : List (List D)} {P : Nat → Nat → Nat}, eX σ base w H → Px σ base w H P → Px (fW base w H l n t σ) base w H (fun j i => iL l n t i j (P j i))
 | 0, _, _, _, _, h => h
 | n + 1, t, σ, P, hr, h => by
  simp only [fW, iL];by_cases c1 : lG t = true
  ·simp only [c1, if_true]; exact yQ hr h hw t l
  ·simp only [c1, if_false];have hf : ∀ (ks : List TN) (τ : List (List D)) (P : Nat → Nat → Nat), eX τ base w H → Px τ base w H P → Px (ks.foldl (fun τ k => fW base w H l n k τ) τ) base w H (fun j i => ks.foldl (fun a k => iL l n k i j a) (P j i)) := fun ks => by
    induction ks with
    | nil => exact fun _ _ _ h => h
    | cons k ks ih => exact fun τ P h1 h2 => ih _ _ (nF l n k h1) (wU hw l n k h1 h2)
   exact hf t.kids _ _ (nO hr t l) (yQ hr h hw t l)
def zS (l : List EN) (n : Nat) (t : TN) (w j : Nat) : List UInt8 := (List.range w).map fun (i : Nat) => UInt8.ofNat (iL l n t i j 32)
def Hh (l : List EN) (n : Nat) (t : TN) (w j : Nat) : ByteArray := ⟨(zS l n t w j).toArray⟩
def gW (x m : Int) : Nat := (pR x 0 m).toNat
def sY (l : List EN) (n : Nat) (t : TN) (wd hg : Int) : Ls := (List.range (gW hg 100)).map fun j => Hh l n t (gW wd 200) j
@[simp] theorem Hy (l : List EN) (n : Nat) (t : TN) (w j : Nat) : (zS l n t w j).length = w := by simp [zS]
theorem Mg (l : List EN) (n : Nat) (t : TN) (w j i : Nat) (x : UInt8) (h : (zS l n t w j)[i]? = some x) : i < w ∧ (x.toNat : Int) = (iL l n t i j 32 : Nat) := by
 unfold zS at h;rw [List.getElem?_map, Option.map_eq_some_iff] at h;obtain ⟨a, ha, rfl⟩ := h;obtain ⟨h1, h2⟩ := List.getElem?_eq_some_iff.1 ha;have hi : i < w := by simpa using h1
 have e : a = i := by simpa using h2.symm
 subst e;refine ⟨hi, ?_⟩;have := yZ l n t a j 32 (by omega);rw [UInt8.toNat_ofNat_of_lt' (by simp [UInt8.size]; omega)]
theorem qN (x m : Int) (hm : 0 ≤ m) : pR x 0 m = (gW x m : Int) ∧ (gW x m : Int) ≤ m := by
 unfold gW pR;omega
end Go.Proofs.YtighdhfgcdjmeaaDoor

