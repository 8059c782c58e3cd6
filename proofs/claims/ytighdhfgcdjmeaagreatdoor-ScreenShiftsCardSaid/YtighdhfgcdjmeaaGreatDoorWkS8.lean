import Derived.Test.YtighdhfgcdjmeaaGreatDoorWkS6
import Derived.Test.YtighdhfgcdjmeaaGreatDoorScRep
import Derived.Test.YtighdhfgcdjmeaaGreatDoorScJoin
import Derived.Test.YtighdhfgcdjmeaaGreatDoorVmS4
namespace Go.Proofs.YtighdhfgcdjmeaaGreatDoor
open Go Go.Vm
set_option maxRecDepth 20000
set_option linter.all false
set_option maxHeartbeats 8000000
def qG (q : RC) (s : ByteArray) (x : Int) : Nat → Nat → Nat
 | 0, was => was
 | k + 1, was => if iV q.x k = x then jS s k else qG q s x k was
def vW (t : TN) (l : List EN) (x y : Int) (was : Nat) : Nat :=
 if lZ t = true then was else if SI.fnd nE l t.ID = false then was else
 if t.kind = 1 then (if (bR l t.ID).y = y then qG (bR l t.ID) t.text x t.text.size was else was)
 else if (33 ≤ mU t ∧ mU t ≤ 126) ∧ rK (bR l t.ID) x y = true then (mU t).toNat else was
def lB (l : List EN) : Nat → TN → Int → Int → Nat → Nat
 | 0, _, _, _, was => was
 | n + 1, t, x, y, was => if lZ t = true then vW t l x y was else t.kids.foldl (fun a k => lB l n k x y a) (vW t l x y was)
theorem yU (q : RC) (s : ByteArray) (x : Int) : ∀ (k was : Nat), was ≤ 255 → qG q s x k was ≤ 255
 | 0, _, h => h
 | k + 1, was, h => by
  simp only [qG];split
  ·exact vR s k
  ·exact yU q s x k was h
theorem zY (t : TN) (l : List EN) (x y : Int) (was : Nat) (h : was ≤ 255) : vW t l x y was ≤ 255 := by
 unfold vW
 repeat' split
 all_goals first | exact h | exact yU _ _ _ _ _ h | omega
theorem yJ (l : List EN) : ∀ (n : Nat) (t : TN) (x y : Int) (was : Nat), was ≤ 255 → lB l n t x y was ≤ 255
 | 0, _, _, _, _, h => h
 | n + 1, t, x, y, was, h => by
  simp only [lB];split
  ·exact zY t l x y was h
  ·have hf : ∀ (ks : List TN) (a : Nat), a ≤ 255 → ks.foldl (fun a k => lB l n k x y a) a ≤ 255 := fun ks => by
    induction ks with
    | nil => exact fun _ h => h
    | cons k ks ih => exact fun a h => ih _ (yJ l n k x y a h)
   exact hf _ _ (zY t l x y was h)
def Px (σ : List (List D)) (base w H : Nat) (P : Nat → Nat → Nat) : Prop := ∀ j i, j < H → i < w → (dM σ (base + j))[i]? = some (.v (.int .u8 (P j i : Nat)))
theorem Px.congr {σ : List (List D)} {base w H : Nat} {P P' : Nat → Nat → Nat} (h : Px σ base w H P) (e : ∀ j i, j < H → i < w → P j i = P' j i) : Px σ base w H P' := fun j i hj hi => by rw [← e j i hj hi]; exact h j i hj hi
theorem Es {σ : List (List D)} {base w H : Nat} {P : Nat → Nat → Nat} (hr : fF σ base w H) (h : Px σ base w H P) (x y : Int) (b : Nat) : Px (nO σ base w H x y b) base w H (fun j i => if (j : Int) = y ∧ (i : Int) = x then b else P j i) := fun j i hj hi => by
 (try dsimp only)
 obtain ⟨h1, h2⟩ := hr j hj;unfold nO;split
 ·rename_i hc;have hlt : base + j < σ.length := (List.getElem?_eq_some_iff.1 h1).1;by_cases e : (j : Int) = y
  ·have ej : base + y.toNat = base + j := by omega
   have hrow : dM (σ.set (base + y.toNat) ((dM σ (base + y.toNat)).set x.toNat (.v (.int .u8 b)))) (base + j) = (dM σ (base + j)).set x.toNat (.v (.int .u8 b)) := by
    unfold dM;rw [ej, List.getElem?_set_self hlt]; rfl
   rw [hrow];by_cases e2 : (i : Int) = x
   ·rw [if_pos ⟨e, e2⟩, show x.toNat = i by omega, List.getElem?_set_self (by omega)]
   ·rw [if_neg (fun hh => e2 hh.2), List.getElem?_set_ne (by omega)];exact h j i hj hi
  ·have hrow : dM (σ.set (base + y.toNat) ((dM σ (base + y.toNat)).set x.toNat (.v (.int .u8 b)))) (base + j) = dM σ (base + j) := by
    unfold dM;rw [List.getElem?_set_ne (by omega)]
   rw [hrow, if_neg (fun hh => e hh.1)];exact h j i hj hi
 ·rename_i hc;rw [if_neg (fun hh => hc (by omega))];exact h j i hj hi
theorem uT {σ : List (List D)} {base w H : Nat} {P : Nat → Nat → Nat} (hr : fF σ base w H) (h : Px σ base w H P) (q : RC) (s : ByteArray) : ∀ k, Px (jQ base w H q s σ k) base w H (fun j i => if q.y = j then qG q s i k (P j i) else P j i)
 | 0 => h.congr fun j i _ _ => by (try dsimp only); split <;> rfl
 | k + 1 => (Es (lX hr q s k) (uT hr h q s k) _ _ _).congr fun j i _ _ => by
  (try dsimp only)
  simp only [qG];by_cases e : q.y = j
  ·by_cases e2 : iV q.x k = i
   ·simp [e, e2]
   ·have e3 : ¬ (i : Int) = iV q.x k := fun hh => e2 hh.symm;simp [e, e2, e3]
  ·have e3 : ¬ (j : Int) = q.y := fun hh => e hh.symm;simp [e, e3]
theorem Aw {σ : List (List D)} {base w H : Nat} {P : Nat → Nat → Nat} (hr : fF σ base w H) (h : Px σ base w H P) (q : RC) (b y : Nat) : ∀ k, Px (jD base w H q b y σ k) base w H (fun j i => if j = y ∧ i < k ∧ rK q i y = true then b else P j i)
 | 0 => h.congr fun j i _ _ => by (try dsimp only); rw [if_neg (by omega)]
 | k + 1 => by
  have ih := Aw hr h q b y k;simp only [jD];split
  ·rename_i hc;refine (Es (kY hr q b y k) ih _ _ _).congr fun j i _ _ => ?_
   (try dsimp only)
   by_cases e : j = y
   ·subst e;by_cases e2 : i = k
    ·subst e2; simp [hc]
    ·have e3 : (i < k + 1) = (i < k) := by apply propext; omega
     have e4 : ¬ (i : Int) = k := by omega
     simp [e3, e4]
   ·have e4 : ¬ (j : Int) = y := by omega
    simp [e, e4]
  ·rename_i hc;refine ih.congr fun j i _ _ => ?_
   (try dsimp only)
   by_cases e2 : i = k
   ·subst e2; simp [hc]
   ·have e3 : (i < k + 1) = (i < k) := by apply propext; omega
    simp [e3]
theorem zS {σ : List (List D)} {base w H : Nat} {P : Nat → Nat → Nat} (hr : fF σ base w H) (h : Px σ base w H P) (q : RC) (b : Nat) : ∀ k, Px (kJ base w H q b σ k) base w H (fun j i => if j < k ∧ rK q i j = true then b else P j i)
 | 0 => h.congr fun j i _ _ => by (try dsimp only); rw [if_neg (by omega)]
 | k + 1 => (Aw (lF hr q b k) (zS hr h q b k) q b k w).congr fun j i _ hi => by
  (try dsimp only)
  by_cases e : j = k
  ·subst e; simp [hi]
  ·have e3 : (j < k + 1) = (j < k) := by apply propext; omega
   simp [e, e3]
theorem vF (q : RC) (s : ByteArray) (x : Int) (hq : 200 < q.x) (hx : x ≤ 200) : ∀ (k was : Nat), qG q s x k was = was
 | 0, _ => rfl
 | k + 1, was => by
  have : ¬ iV q.x k = x := by unfold iV uF; omega
  simp only [qG, if_neg this];exact vF q s x hq hx k was
theorem yK {σ : List (List D)} {base w H : Nat} {P : Nat → Nat → Nat} (hr : fF σ base w H) (h : Px σ base w H P) (hw : w ≤ 200) (t : TN) (l : List EN) : Px (fZ base w H t l σ) base w H (fun j i => vW t l i j (P j i)) := by
 unfold fZ vW;by_cases c1 : lZ t = true
 ·simp only [c1, if_true]; exact h
 by_cases c2 : SI.fnd nE l t.ID = false
 ·simp only [c1, c2, if_true, if_false]; exact h
 by_cases c3 : t.kind = 1
 ·simp only [c1, c2, c3, if_true, if_false];by_cases c4 : (bR l t.ID).x > 200 ∨ (bR l t.ID).y < 0 ∨ (H : Int) ≤ (bR l t.ID).y
  ·rw [if_pos c4];refine h.congr fun j i hj hi => ?_
   (try dsimp only)
   by_cases c5 : (bR l t.ID).y = j
   ·rw [if_pos c5, vF _ _ _ (by omega) (by omega)]; simp
   ·rw [if_neg c5]; simp
  ·rw [if_neg c4];exact uT hr h _ _ _
 by_cases c4 : 33 ≤ mU t ∧ mU t ≤ 126
 ·simp only [c1, c2, c3, c4, and_self, true_and, if_true, if_false];exact (zS hr h _ _ _).congr fun j i hj hi => by (try dsimp only); simp [hj]
 ·simp only [c1, c2, c3, c4, false_and, if_false]; exact h
theorem yV {base w H : Nat} (hw : w ≤ 200) (l : List EN) : ∀ (n : Nat) (t : TN) {σ : List (List D)} {P : Nat → Nat → Nat}, fF σ base w H → Px σ base w H P → Px (gH base w H l n t σ) base w H (fun j i => lB l n t i j (P j i))
 | 0, _, _, _, _, h => h
 | n + 1, t, σ, P, hr, h => by
  simp only [gH, lB];by_cases c1 : lZ t = true
  ·simp only [c1, if_true]; exact yK hr h hw t l
  ·simp only [c1, if_false];have hf : ∀ (ks : List TN) (τ : List (List D)) (P : Nat → Nat → Nat), fF τ base w H → Px τ base w H P → Px (ks.foldl (fun τ k => gH base w H l n k τ) τ) base w H (fun j i => ks.foldl (fun a k => lB l n k i j a) (P j i)) := fun ks => by
    induction ks with
    | nil => exact fun _ _ _ h => h
    | cons k ks ih => exact fun τ P h1 h2 => ih _ _ (oL l n k h1) (yV hw l n k h1 h2)
   exact hf t.kids _ _ (nZ hr t l) (yK hr h hw t l)
def Iz (l : List EN) (n : Nat) (t : TN) (w j : Nat) : List UInt8 := (List.range w).map fun (i : Nat) => UInt8.ofNat (lB l n t i j 32)
def Sf (l : List EN) (n : Nat) (t : TN) (w j : Nat) : ByteArray := ⟨(Iz l n t w j).toArray⟩
def sW (x m : Int) : Nat := (tB x 0 m).toNat
def Dx (l : List EN) (n : Nat) (t : TN) (wd hg : Int) : Ls := (List.range (sW hg 100)).map fun j => Sf l n t (sW wd 200) j
@[simp] theorem Lg (l : List EN) (n : Nat) (t : TN) (w j : Nat) : (Iz l n t w j).length = w := by simp [Iz]
theorem Qq (l : List EN) (n : Nat) (t : TN) (w j i : Nat) (x : UInt8) (h : (Iz l n t w j)[i]? = some x) : i < w ∧ (x.toNat : Int) = (lB l n t i j 32 : Nat) := by
 unfold Iz at h;rw [List.getElem?_map, Option.map_eq_some_iff] at h;obtain ⟨a, ha, rfl⟩ := h;obtain ⟨h1, h2⟩ := List.getElem?_eq_some_iff.1 ha;have hi : i < w := by simpa using h1
 have e : a = i := by simpa using h2.symm
 subst e;refine ⟨hi, ?_⟩;have := yJ l n t a j 32 (by omega);rw [UInt8.toNat_ofNat_of_lt' (by simp [UInt8.size]; omega)]
theorem tJ (x m : Int) (hm : 0 ≤ m) : tB x 0 m = (sW x m : Int) ∧ (sW x m : Int) ≤ m := by
 unfold sW tB;omega
end Go.Proofs.YtighdhfgcdjmeaaGreatDoor
namespace Go.Proofs.YtighdhfgcdjmeaaGreatDoor
open Go Go.Vm
set_option maxRecDepth 20000
set_option linter.all false
set_option maxHeartbeats 8000000
@[simp] theorem zT (base w k : Nat) : tD base w (k + 1) = tD base w k ++ [.slo (base + k) 0 w w] := by simp [tD, List.range_succ]
@[simp] theorem Zk (base w k : Nat) : (∀ d, d ∈ tD base w k → d.ncells = 1) ↔ True := ⟨fun _ => trivial, fun _ d hd => by unfold tD at hd; obtain ⟨y, _, rfl⟩ := List.mem_map.1 hd; rfl⟩
@[simp] theorem Vh (base w : Nat) : tD base w 0 = [] := rfl
def RowsB (w : Nat) (X : List (List D)) : Prop := ∀ r ∈ X, ∃ row, r = List.replicate w iM ++ row
theorem RowsB.snoc {w : Nat} {X : List (List D)} (h : RowsB w X) (row : List D) : RowsB w (X ++ [List.replicate w iM ++ row]) := fun r hr => by
 rcases List.mem_append.1 hr with hr | hr
 ·exact h r hr
 ·simp at hr; exact ⟨row, hr⟩
theorem RowsB.at {w : Nat} {X : List (List D)} (h : RowsB w X) (σ Z : List (List D)) (j : Nat) (hj : j < X.length) : ∃ row, (σ ++ (X ++ Z))[σ.length + j]? = some (List.replicate w iM ++ row) := by
 obtain ⟨row, hr⟩ := h X[j] (List.getElem_mem hj);refine ⟨row, ?_⟩;rw [List.getElem?_append_right (by omega), show σ.length + j - σ.length = j by omega, List.getElem?_append_left hj, List.getElem?_eq_getElem hj, hr]
theorem RowsB.ok {w : Nat} {X : List (List D)} (h : RowsB w X) (σ Z : List (List D)) : fF (σ ++ (X ++ Z)) σ.length w X.length := fun j hj => by
 obtain ⟨row, hr⟩ := h.at σ Z j hj;have e : dM (σ ++ (X ++ Z)) (σ.length + j) = List.replicate w iM ++ row := by unfold dM; rw [hr]; rfl
 exact ⟨by rw [e]; exact hr, by rw [e]; simp⟩
theorem RowsB.px {w : Nat} {X : List (List D)} (h : RowsB w X) (σ Z : List (List D)) : Px (σ ++ (X ++ Z)) σ.length w X.length (fun _ _ => 32) := fun j i hj hi => by
 obtain ⟨row, hr⟩ := h.at σ Z j hj;unfold dM;rw [hr];show (List.replicate w iM ++ row)[i]? = _
 rw [List.getElem?_append_left (by simpa using hi), List.getElem?_replicate, if_pos hi];rfl
theorem Sh {σ Z τ : List (List D)} (h : ∀ m, m < σ.length → τ[m]? = (σ ++ Z)[m]?) : ∃ J, τ = σ ++ J := ⟨τ.drop σ.length, List.ext_getElem? fun i => by
 by_cases hi : i < σ.length
 ·rw [h i hi, List.getElem?_append_left hi, List.getElem?_append_left hi]
 ·rw [List.getElem?_append_right (by omega), List.getElem?_drop, show σ.length + (i - σ.length) = i by omega]⟩
theorem Kt : xV Tryz.prog 84 9 := ⟨5, Tryz.underlying84, Tryz.underlying5, Tryz.underlying9⟩
theorem Sm (σ X : List (List D)) (c : List D) : (σ ++ (X ++ [c]))[σ.length + X.length]? = some c := by
 rw [← List.append_assoc, ← List.length_append]; simp
theorem Ix (n : Nat) (t : TN) (l : List EN) (wd hg : Int) (σ : List (List D)) (hn : n ≤ 1000) (hgt : TG t) (hct : dJ t ≤ n) (hl : l.length ≤ 999999) : Ct Tryz.prog 10 [gF t, .sl false (l.map bP), D.int wd, D.int hg] σ (fun r σ' => r = .sl false ((Dx (SI.ofL nE l) n t wd hg).map D.str) ∧ ∃ J, σ' = σ ++ J) := by
 refine zf (rs:=[.tmp 8]) Tryz.func10 Tryz.ntmps10 Tryz.results10 ?_;simp only [aQ];obtain ⟨hw1, hw2⟩ := tJ wd 200 (by omega);obtain ⟨hh1, hh2⟩ := tJ hg 100 (by omega);unfold Dx;generalize sW wd 200 = w at hw1 hw2 ⊢;generalize sW hg 100 = h at hh1 hh2 ⊢;refine zr ⟨[10,22,39],[],[],[],[41]⟩ fun _ _ Z=>?_;simp (disch:=omega)[hw1,hh1,dA];and_intros<;>(try omega);apply Z;refine zr ⟨[10,22,39],[],[],[],[41]⟩ fun _ _ Z=>?_;refine aB 1 fun _ Y=>?_;simp (disch:=omega)[hw1,hh1,dA];and_intros<;>(try omega);apply Y;simp only [List.drop];refine aH fun _ Y=>?_;simp (disch:=omega)[hw1,hh1,dA];refine dW (Ep wd 0 200 _) ?_;apply Y;refine aB 1 fun _ Y=>?_;simp (disch:=omega)[hw1,hh1,dA];and_intros<;>(try omega);apply Y;simp only [List.drop];refine aH fun _ Y=>?_;simp (disch:=omega)[hw1,hh1,dA];refine dW (Ep hg 0 100 _) ?_;apply Y;simp (disch:=omega)[hw1,hh1,dA];and_intros<;>(try omega);apply Z;refine zr ⟨[10,22,39],[],[],[],[41]⟩ fun _ _ Z=>?_;refine aB 1 fun _ Y=>?_;simp (disch:=omega)[hw1,hh1,dA];and_intros<;>(try omega);apply Y;simp only [List.drop];refine aH fun _ Y=>?_;simp (disch:=omega)[hw1,hh1,dA];refine dW (xU l _ hl) ?_;apply Y;simp (disch:=omega)[hw1,hh1,dA];and_intros<;>(try omega);apply Z;refine zr ⟨[10,22,39],[],[],[],[41]⟩ fun _ _ Z=>?_;simp (disch:=omega)[hw1,hh1,dA];and_intros<;>(try omega);apply Z;apply aE;refine zk [1,2,3,4,8,9] ?_;refine zr ⟨[10,22,39],[],[],[],[41]⟩ fun _ _ Z=>?_;simp (disch:=omega)[hw1,hh1,dA];and_intros<;>(try omega);apply Z;apply aI;refine zk [1,2,4,8,9,19,20] ?_;refine fS (fun (X : List (List D)) => [(20, .d (.v (.int .i64 (X.length : Int))))]) (fun (X : List (List D)) => [[D.int t.ID, D.int t.kind, D.str t.tag, D.str t.text, .sl false (t.classes.map D.str), .sl false (t.attrs.map bY), .sl false (t.styles.map bS), .sl false (t.kids.map mX)], [.sl true (tD σ.length w X.length)]]) (fun (X : List (List D)) => σ ++ X) [20, 21, 22, 23, 24, 25, 26, 27, 28] (fun (X : List (List D)) => X.length ≤ h ∧ RowsB w X) (fun (X : List (List D)) => h - X.length) ([]) (by simp <;> rfl) ?_ (by simp) (by simp) ?_ ?_
 ·simp [Vh]
 ·simp [RowsB]
 rintro X ⟨hX1, hX2⟩;simp only [List.cons_append, List.nil_append];refine zr ⟨[10,22,39],[],[],[],[41]⟩ fun _ _ Z=>?_;simp (disch:=omega)[hw1,hh1,dA];and_intros<;>(try omega);apply Z;apply aE;refine zi ?_;refine ⟨fun c1=>?_,fun c1=>?_⟩
 ·try simp at c1
  apply aG;apply aC;apply aE;apply aI;refine zeN ⟨[10,22,39],[],[],[],[41]⟩ [0,1,2,3,4,5,6] 3 [.op {rL:=true,wL:=true},.op {},.op {},.nd,.op {},.op {},.op {rL:=true,wL:=true}] (fun all hall _ Z=>?_) (by simp only [bC, List.filterMap_cons, List.filterMap_nil, List.getElem?_cons_succ, List.getElem?_cons_zero, eY, fY] <;> rfl);refine aL 3 (by simp) fun _ Y=>?_;simp (disch:=omega)[hw1,hh1,dA];and_intros<;>(try omega);apply Y;simp only [List.drop];refine bH fun _ Y=>?_;simp (disch:=omega)[hw1,hh1,dA];refine zdn (Gx w _ (by omega)) ⟨_, _, rfl, [], rfl⟩ ?_;rintro _ τ1 ⟨hr9, row, hs9⟩;subst hr9;subst hs9;apply Y;simp (disch:=omega)[hw1,hh1,dA];and_intros<;>(try omega);apply Z;apply aN;apply aC;refine zk [1,2,4,8,9,19,20] ?_;refine zt ⟨[10,22,39],[],[],[],[41]⟩ fun _ _ Z=>?_;simp (disch:=omega)[hw1,hh1,dA];and_intros<;>(try omega);apply Z;refine bJ (X ++ [List.replicate w iM ++ row]) ?_ ?_ (aV rfl ?_ (by simp) (by simp [zT]))
  ·exact ⟨by simp; omega, hX2.snoc row⟩
  ·simp; omega
  ·simp (disch:=omega)[hw1,hh1,dA,zT]
 ·try simp at c1
  obtain rfl : h = X.length := by omega
  have hpg := hX2.ok σ [[.sl true (tD σ.length w X.length)]];have hqm := Sm σ X [.sl true (tD σ.length w X.length)];have hol := SI.ofL_len nE l;apply bD;apply bE;apply bG;apply aY;apply aC;refine Bl 9 1 (by simp <;> rfl) (by simp <;> rfl) ?_;simp only [List.set_cons_succ, List.set_cons_zero];refine zr ⟨[10,22,39],[],[],[],[41]⟩ fun _ _ Z=>?_;refine aB 3 fun _ Y=>?_;simp (disch:=omega)[hw1,hh1,dA];and_intros<;>(try omega);apply Y;simp only [List.drop];refine aH fun _ Y=>?_;simp (disch:=omega)[hw1,hh1,dA];refine dW (Eo (σ.length + X.length) σ.length w X.length (SI.ofL nE l) (by omega) (SI.ofL_sorted nE l) (by omega) (by omega) (.inr (by omega)) n t hn hgt hct (σ ++ (X ++ [[.sl true (tD σ.length w X.length)]])) hpg hqm) ?_;obtain ⟨τ, hE1, hE2, hE3, hE4, hE5⟩ : ∃ τ, gH σ.length w X.length (SI.ofL nE l) n t (σ ++ (X ++ [[.sl true (tD σ.length w X.length)]])) = τ ∧ fF τ σ.length w X.length ∧ τ[σ.length + X.length]? = some [.sl true (tD σ.length w X.length)] ∧ Px τ σ.length w X.length (fun j i => lB (SI.ofL nE l) n t i j 32) ∧ ∃ J, τ = σ ++ J := ⟨_, rfl, oL _ n t hpg, (rG w X.length _ (.inr (by omega)) n t _).trans hqm, yV (by omega) _ n t hpg (hX2.px σ _), Sh fun m hm => rG w X.length _ (.inl hm) n t _⟩;rw [hE1];clear hE1;apply Y;simp only [eX];apply Z;refine zk [8,9] ?_;refine zr ⟨[10,22,39],[],[],[],[41]⟩ fun _ _ Z=>?_;simp (disch:=omega)[hw1,hh1,dA,hE3];and_intros<;>(try omega);apply Z;apply aE;refine zr ⟨[10,22,39],[],[],[],[41]⟩ fun _ _ Z=>?_;simp (disch:=omega)[hw1,hh1,dA,hE3];and_intros<;>(try omega);apply Z;apply aI;refine zk [8,10,33,34,35] ?_;refine cM (fun (k : Nat) => [(35, .d (.v (.int .i64 (k : Int)))), (10, .d (.sl true (((List.range k).map (Sf (SI.ofL nE l) n t w)).map D.str))), (12, .d (.any))]) [10, 12, 35, 36, 37, 38, 39, 40, 41, 42, 43, 44] (fun (k : Nat) => k ≤ X.length) (fun (k : Nat) => X.length - k) (0) (by simp <;> rfl) ?_ ?_ ?_
  ·simp
  ·simp
  rintro k hk;simp only [List.cons_append, List.nil_append];refine zr ⟨[10,22,39],[],[],[],[41]⟩ fun _ _ Z=>?_;simp (disch:=omega)[hw1,hh1,dA,hE3];and_intros<;>(try omega);apply Z;apply aE;refine zi ?_;refine ⟨fun c2=>?_,fun c2=>?_⟩
  ·try simp at c2
   apply aG;apply aC;apply aE;apply aI;refine zr ⟨[10,22,39],[],[],[],[41]⟩ fun _ _ Z=>?_;simp (disch:=omega)[hw1,hh1,dA,hE3];and_intros<;>(try omega);apply Z;refine zt ⟨[10,22,39],[],[],[],[41]⟩ fun _ _ Z=>?_;refine aB 3 fun _ Y=>?_;simp (disch:=omega)[hw1,hh1,dA,hE3];refine ⟨Iz (SI.ofL nE l) n t w k, ⟨Kt, Lg _ _ _ _ _, ⟨_, (hE2 k (by omega)).1, fun i x hx => ?_⟩⟩, ?_⟩
   ·obtain ⟨hi, hx2⟩ := Qq _ _ _ _ _ _ _ hx;have := hE4 k i (by omega) hi;rw [hx2]; simpa using this
   and_intros<;>(try omega);apply Y;simp only [List.drop];simp (disch:=omega)[hw1,hh1,dA,hE3];and_intros<;>(try omega);apply Z;apply aN;apply aC;refine zk [8,10,12,33,34,35] ?_;refine zt ⟨[10,22,39],[],[],[],[41]⟩ fun _ _ Z=>?_;simp (disch:=omega)[hw1,hh1,dA,hE3];and_intros<;>(try omega);apply Z;refine bJ (k + 1) ?_ ?_ (aV rfl ?_ (by simp) (by simp))
   ·omega
   ·try dsimp only
    omega
   ·simp (disch:=omega)[hw1,hh1,dA,List.range_succ,Sf,hE3]
  ·try simp at c2
   apply bD;apply bE;apply bG;apply aY;apply aC;refine zr ⟨[10,22,39],[],[],[],[41]⟩ fun _ _ Z=>?_;simp (disch:=omega)[hw1,hh1,dA,hE3];and_intros<;>(try omega);apply Z;apply aF;simp [aS];obtain rfl : k = X.length := by omega
   exact ⟨rfl, hE5⟩
theorem Li (n : Nat) (t : TN) (l : List EN) (wd hg : Int) (σ : List (List D)) (hn : n ≤ 1000) (hgt : TG t) (hct : dJ t ≤ n) (hl : l.length ≤ 999999) : Ct Tryz.prog 10 [gF t, .sl false (l.map bP), D.int wd, D.int hg] σ (fun r σ' => r = dl (Dx (SI.ofL nE l) n t wd hg) ∧ σ' = σ) :=
 (Ix n t l wd hg σ hn hgt hct hl).trim fun r σ' ⟨hr, J, hs⟩ => ⟨σ, J, hs, rfl, by
  rw [hr];exact Sc.sl fun d hd => by
   obtain ⟨s, _, rfl⟩ := List.mem_map.1 hd;exact Sc.v _, fun n cs h => .inl h, hr, rfl⟩
end Go.Proofs.YtighdhfgcdjmeaaGreatDoor

