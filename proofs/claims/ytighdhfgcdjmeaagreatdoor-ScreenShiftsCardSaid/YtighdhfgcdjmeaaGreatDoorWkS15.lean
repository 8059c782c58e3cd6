import Derived.Test.YtighdhfgcdjmeaaGreatDoorWkS9
namespace Go.Proofs.YtighdhfgcdjmeaaGreatDoor
open Go Go.Vm
set_option maxRecDepth 20000
set_option linter.all false
set_option maxHeartbeats 8000000
def gX (x0 : Int) : Int := if x0 > 2147483647 then 2147483647
 else if x0 < (-2147483648) then (-2147483648)
  else x0
theorem Pu (x0 : Int) (σ : List (List D))  : Ct Tryz.prog 82 [.v (.int .i64 x0)] σ (fun r σ' => r = .v (.int .i64 (gX x0)) ∧ σ' = σ) := by
 refine zf (rs:=[.tmp 2]) Tryz.func82 Tryz.ntmps82 Tryz.results82 ?_;simp only [aQ];refine bV fun all K Z=>?_;simp;and_intros<;>(try omega);apply Z;clear Z K all;apply aE;refine bV fun all K Z=>?_;simp;and_intros<;>(try omega);apply Z;clear Z K all;refine zi ?_;refine ⟨fun c1=>?_,fun c1=>?_⟩
 ·try simp at c1
  all_goals try (exfalso; omega)
  all_goals
   refine bV fun all K Z=>?_;simp;and_intros<;>(try omega);apply Z;clear Z K all;apply aF;apply bK;first | (simp [aS, gX, c1]; done) | (simp [aS, gX]; done) | (simp [aS]; unfold gX; (repeat' split) <;> first | (exfalso; omega) | (simp_all; done)) | (simp [aS, gX, *]; done) | (simp_all [aS, gX]; done) | (simp_all [aS, gX]; omega) | (simp [aS, gX] <;> split <;> omega)
 ·try simp at c1
  all_goals try (exfalso; omega)
  all_goals
   apply aG;apply aC;apply aE;refine bV fun all K Z=>?_;simp;and_intros<;>(try omega);apply Z;clear Z K all;refine zi ?_;refine ⟨fun c2=>?_,fun c2=>?_⟩
   ·try simp at c2
    all_goals try (exfalso; omega)
    all_goals
     refine bV fun all K Z=>?_;simp;and_intros<;>(try omega);apply Z;clear Z K all;apply aF;apply bK;first | (simp [aS, gX, c1, c2]; done) | (simp [aS, gX]; done) | (simp [aS]; unfold gX; (repeat' split) <;> first | (exfalso; omega) | (simp_all; done)) | (simp [aS, gX, *]; done) | (simp_all [aS, gX]; done) | (simp_all [aS, gX]; omega) | (simp [aS, gX] <;> split <;> omega)
   ·try simp at c2
    all_goals try (exfalso; omega)
    all_goals
     apply aG;apply aC;refine bV fun all K Z=>?_;simp;and_intros<;>(try omega);apply Z;clear Z K all;apply aF;first | (simp [aS, gX, c1, c2]; done) | (simp [aS, gX]; done) | (simp [aS]; unfold gX; (repeat' split) <;> first | (exfalso; omega) | (simp_all; done)) | (simp [aS, gX, *]; done) | (simp_all [aS, gX]; done) | (simp_all [aS, gX]; omega) | (simp [aS, gX] <;> split <;> omega)
theorem Qm (x : Int) : gX x = uF x := by unfold gX uF; omega
theorem tO (x : Int) (σ : List (List D)) : Ct Tryz.prog 82 [D.int x] σ (fun r σ' => r = .v (.int .i64 (uF x)) ∧ σ' = σ) := Qm x ▸ Pu x σ
theorem Ez (a b : Int) (σ : List (List D))  : Ct Tryz.prog 57 [D.int a, D.int b] σ (fun r σ' => r = .int (iV a b) ∧ σ' = σ) := by
 refine zf (rs:=[.tmp 4]) Tryz.func57 Tryz.ntmps57 Tryz.results57 ?_;simp only [aQ];have hA := vZ a;have hB := vZ b;refine bV fun _ _ Z=>?_;simp;and_intros<;>(try omega);apply Z;refine bV fun _ _ Z=>?_;refine aB 1 fun _ Y=>?_;simp;and_intros<;>(try omega);apply Y;simp only [List.drop];refine aH fun _ Y=>?_;simp;refine dW (tO a _) ?_;apply Y;refine aB 1 fun _ Y=>?_;simp;and_intros<;>(try omega);apply Y;simp only [List.drop];refine aH fun _ Y=>?_;simp;refine dW (tO b _) ?_;apply Y;refine aB 1 fun _ Y=>?_;simp;and_intros<;>(try omega);apply Y;simp only [List.drop];refine aH fun _ Y=>?_;simp;refine dW (tO (uF a + uF b) _) ?_;apply Y;simp;and_intros<;>(try omega);apply Z;apply aF;simp [aS, iV]
def gG (l : List EN) (c : Int) : Option EN := l.foldl (fun a e => if e.ID = c then some e else a) none
theorem Bc (l : List EN) (e : EN) (c : Int) : gG (l ++ [e]) c = if e.ID = c then some e else gG l c := by simp [gG, List.foldl_append]
theorem kD (l : List EN) (k : Nat) (c : Int) (h : k < l.length) : gG (l.take (k + 1)) c = if l[k].ID = c then some l[k] else gG (l.take k) c := by rw [cF l k h, Bc]
def lA (l : List EN) (c : Int) : Option EN := if SI.fnd nE l c = true then l[SI.posL nE l c]? else none
theorem vN : ∀ (l : List EN) (e : EN) (c : Int), SI.Sorted nE l → lA (SI.putL nE l e) c = if e.ID = c then some e else lA l c
 | [], e, c, _ => by
  unfold lA;by_cases h : e.ID = c
  ·subst h; simp [SI.putL, SI.fnd, SI.posL, nE, SI.lessI]
  ·by_cases h2 : e.ID < c
   ·simp [SI.putL, SI.fnd, SI.posL, nE, SI.lessI, h, h2]
   ·simp [SI.putL, SI.fnd, SI.posL, nE, SI.lessI, h, h2]
 | a :: l, e, c, hs => by
  have ih := vN l e c (List.Pairwise.of_cons hs);unfold lA at ih ⊢;by_cases h1 : a.ID < e.ID
  ·simp only [SI.putL, nE, SI.lessI, h1, decide_true, if_true];by_cases h2 : a.ID < c
   ·simpa [SI.fnd, SI.posL, nE, SI.lessI, h2] using ih
   ·have h3 : ¬ e.ID = c := by omega
    simp [SI.fnd, SI.posL, nE, SI.lessI, h2, h3]
  ·by_cases h0 : a.ID = e.ID
   ·by_cases h2 : a.ID < c
    ·have h3 : ¬ e.ID = c := by omega
     have h4 : e.ID < c := by omega
     simp [SI.putL, SI.fnd, SI.posL, nE, SI.lessI, h1, h0, h2, h3, h4]
    ·by_cases h3 : e.ID = c
     ·simp [SI.putL, SI.fnd, SI.posL, nE, SI.lessI, h1, h0, h3]
     ·have h4 : ¬ e.ID < c := by omega
      have h5 : ¬ a.ID = c := by omega
      simp [SI.putL, SI.fnd, SI.posL, nE, SI.lessI, h1, h0, h2, h3, h4, h5]
   ·by_cases h2 : e.ID < c
    ·have h3 : ¬ e.ID = c := by omega
     simp [SI.putL, SI.fnd, SI.posL, nE, SI.lessI, h1, h0, h2, h3]
    ·by_cases h3 : e.ID = c
     ·subst h3; simp [SI.putL, SI.fnd, SI.posL, nE, SI.lessI, h1, h0]
     ·have h4 : ¬ a.ID < c := by omega
      have h5 : ¬ a.ID = c := by omega
      simp [SI.putL, SI.fnd, SI.posL, nE, SI.lessI, h1, h0, h2, h3, h4, h5]
theorem oT (l : List EN) (c : Int) : lA (SI.ofL nE l) c = gG l c := by
 have key : ∀ k, k ≤ l.length → lA (SI.ofL nE (l.take k)) c = gG (l.take k) c := fun k => by
  induction k with
  | zero => intro _; simp [SI.ofL, gG, lA, SI.fnd]
  | succ k ih =>
   intro h;rw [SI.ofL_take nE l k (by omega), vN _ _ _ (SI.ofL_sorted nE _), kD l k c (by omega), ih (by omega)]
 have := key l.length (Nat.le_refl _)
 rwa [List.take_length] at this
theorem Ai (l : List EN) (c : Int) : SI.fnd nE (SI.ofL nE l) c = (gG l c).isSome := by
 rw [← oT];unfold lA;cases h : SI.fnd nE (SI.ofL nE l) c with
 | true =>
  have := SI.fnd_lt nE h;simp [this]
 | false => simp
theorem Gw (l : List EN) (c : Int) : bR (SI.ofL nE l) c = ((gG l c).map EN.rect).getD ⟨0, 0, 0, 0⟩ := by
 rw [← oT];unfold bR lA;cases SI.fnd nE (SI.ofL nE l) c <;> simp
def iT (l : List PI) (c : ByteArray) : Option Int := l.foldl (fun a p => if p.name = c then some p.value else a) none
theorem Dj (l : List PI) (p : PI) (c : ByteArray) : iT (l ++ [p]) c = if p.name = c then some p.value else iT l c := by simp [iT, List.foldl_append]
theorem jR (l : List PI) (k : Nat) (c : ByteArray) (h : k < l.length) : iT (l.take (k + 1)) c = if l[k].name = c then some l[k].value else iT (l.take k) c := by
 rw [cF l k h, Dj]
theorem Ap (l : List EN) (c : Int) (σ : List (List D)) (hl : l.length ≤ 999999) : Ct Tryz.prog 55 [.sl false (l.map bP), D.int c] σ (fun r σ' => r = .tup [oS (((gG l c).map EN.rect).getD ⟨0, 0, 0, 0⟩), .bool (gG l c).isSome] ∧ σ' = σ) := by
 refine zf (rs:=[.cell 4 77,.tmp 5]) Tryz.func55 Tryz.ntmps55 Tryz.results55 ?_;simp only [aQ];refine bV fun _ _ Z=>?_;simp (disch:=omega)[Nat.sub_add_cancel];and_intros<;>(try omega);apply Z;apply aE;refine bV fun _ _ Z=>?_;simp (disch:=omega)[Nat.sub_add_cancel];and_intros<;>(try omega);apply Z;apply aI;refine zk [0,1,4,5,6] ?_;refine cM (fun (k : Nat) => [(6, .d (.int ((k : Int) - 1)))]) [5, 6, 10, 11, 12, 13, 14, 15, 16, 17, 18, 19, 20, 21, 22, 23, 24, 25] (fun (k : Nat) => k ≤ l.length ∧ gG l c = gG (l.take k) c) (fun (k : Nat) => k) (l.length) (by simp <;> rfl) ?_ ?_ ?_
 ·simp
 ·simp
 rintro k ⟨hk, hh⟩;simp only [List.cons_append, List.nil_append];have htn : 1 ≤ k → ((k : Int) - 1).toNat = k - 1 := fun h => by omega
 apply aE;refine bV fun _ _ Z=>?_;simp (disch:=omega)[Nat.sub_add_cancel];and_intros<;>(try omega);apply Z;refine zi ?_;refine ⟨fun c1=>?_,fun c1=>?_⟩
 ·try simp at c1
  have hk1 : 1 ≤ k := by omega
  have htn1 := htn hk1;apply aG;apply aC;apply aE;apply aI;refine bV fun _ _ Z=>?_;simp (disch:=omega)[Nat.sub_add_cancel];and_intros<;>(try omega);apply Z;refine zi ?_;refine ⟨fun c2=>?_,fun c2=>?_⟩
  ·try simp at c2
   have hz := kD l (k - 1) c (by omega);rw [Nat.sub_add_cancel hk1, if_pos c2] at hz;rw [hz] at hh;refine zk [0,1,4,6] ?_;refine bV fun _ _ Z=>?_;simp (disch:=omega)[Nat.sub_add_cancel];and_intros<;>(try omega);apply Z;apply aF;apply fR;apply bK;apply oI;apply fR;apply bK;simp [aS, hh]
  ·try simp at c2
   apply aG;apply aN;apply aC;refine zk [0,1,4,6] ?_;refine Fe fun _ _ Z=>?_;simp (disch:=omega)[Nat.sub_add_cancel];and_intros<;>(try omega);apply Z;refine bJ (k - 1) ?_ ?_ (aV rfl ?_ (by simp) (by simp))
   ·exact ⟨by omega, by have := kD l (k - 1) c (by omega); rw [Nat.sub_add_cancel hk1, if_neg c2] at this; rw [hh, this]⟩
   ·try dsimp only
    omega
   ·simp [qH]; omega
 ·try simp at c1
  obtain rfl : k = 0 := by omega
  have hz : gG l c = none := hh.trans (by rw [List.take_zero]; rfl);apply bD;apply bE;apply bG;apply aY;apply aC;refine bV fun _ _ Z=>?_;simp (disch:=omega)[Nat.sub_add_cancel];and_intros<;>(try omega);apply Z;apply aF;simp [aS, hz]
theorem Nx (l : List PI) (c : ByteArray) (σ : List (List D)) (hl : l.length ≤ 999999) : Ct Tryz.prog 56 [.sl false (l.map bS), D.str c] σ (fun r σ' => r = .tup [D.int ((iT l c).getD 0), .bool (iT l c).isSome] ∧ σ' = σ) := by
 refine zf (rs:=[.tmp 4,.tmp 5]) Tryz.func56 Tryz.ntmps56 Tryz.results56 ?_;simp only [aQ];refine bV fun _ _ Z=>?_;simp (disch:=omega)[Nat.sub_add_cancel];and_intros<;>(try omega);apply Z;apply aE;refine bV fun _ _ Z=>?_;simp (disch:=omega)[Nat.sub_add_cancel];and_intros<;>(try omega);apply Z;apply aI;refine zk [0,1,4,5,6] ?_;refine cM (fun (k : Nat) => [(6, .d (.int ((k : Int) - 1)))]) [4, 5, 6, 10, 11, 12, 13, 14, 15, 16, 17, 18, 19, 20, 21, 22, 23, 24, 25] (fun (k : Nat) => k ≤ l.length ∧ iT l c = iT (l.take k) c) (fun (k : Nat) => k) (l.length) (by simp <;> rfl) ?_ ?_ ?_
 ·simp
 ·simp
 rintro k ⟨hk, hh⟩;simp only [List.cons_append, List.nil_append];have htn : 1 ≤ k → ((k : Int) - 1).toNat = k - 1 := fun h => by omega
 apply aE;refine bV fun _ _ Z=>?_;simp (disch:=omega)[Nat.sub_add_cancel];and_intros<;>(try omega);apply Z;refine zi ?_;refine ⟨fun c1=>?_,fun c1=>?_⟩
 ·try simp at c1
  have hk1 : 1 ≤ k := by omega
  have htn1 := htn hk1;apply aG;apply aC;apply aE;apply aI;refine bV fun _ _ Z=>?_;simp (disch:=omega)[Nat.sub_add_cancel];and_intros<;>(try omega);apply Z;refine zi ?_;refine ⟨fun c2=>?_,fun c2=>?_⟩
  ·try simp at c2
   have hz := jR l (k - 1) c (by omega);rw [Nat.sub_add_cancel hk1, if_pos c2] at hz;rw [hz] at hh;refine zk [0,1,6] ?_;refine bV fun _ _ Z=>?_;simp (disch:=omega)[Nat.sub_add_cancel];and_intros<;>(try omega);apply Z;apply aF;apply fR;apply bK;apply oI;apply fR;apply bK;simp [aS, hh]
  ·try simp at c2
   apply aG;apply aN;apply aC;refine zk [0,1,6] ?_;refine Fe fun _ _ Z=>?_;simp (disch:=omega)[Nat.sub_add_cancel];and_intros<;>(try omega);apply Z;refine bJ (k - 1) ?_ ?_ (aV rfl ?_ (by simp) (by simp))
   ·exact ⟨by omega, by have := jR l (k - 1) c (by omega); rw [Nat.sub_add_cancel hk1, if_neg c2] at this; rw [hh, this]⟩
   ·try dsimp only
    omega
   ·simp [qH]; omega
 ·try simp at c1
  obtain rfl : k = 0 := by omega
  have hz : iT l c = none := hh.trans (by rw [List.take_zero]; rfl);apply bD;apply bE;apply bG;apply aY;apply aC;refine bV fun _ _ Z=>?_;simp (disch:=omega)[Nat.sub_add_cancel];and_intros<;>(try omega);apply Z;apply aF;simp [aS, hz]
end Go.Proofs.YtighdhfgcdjmeaaGreatDoor
namespace Go.Proofs.YtighdhfgcdjmeaaGreatDoor
open Go Go.Vm
set_option maxRecDepth 20000
set_option linter.all false
set_option maxHeartbeats 8000000
theorem mL {c : ByteArray} : ∀ (l : List PI), (∀ p ∈ l, p.name ≠ c) → ∀ (k : Nat), iT (l.take k) c = none
 | l, h, 0 => rfl
 | l, h, k + 1 => by
  by_cases hk : k < l.length
  ·rw [jR l k c hk, if_neg (h _ (List.getElem_mem _)), mL l h k]
  ·rw [List.take_of_length_le (by omega), ← List.take_of_length_le (show l.length ≤ k by omega)]; exact mL l h k
theorem rZ {l : List PI} {c : ByteArray} {j : Nat} (hj : j < l.length) (hn : l[j].name = c) (hu : ∀ i (h : i < l.length), i ≠ j → l[i].name ≠ c) : ∀ k, k ≤ l.length → iT (l.take k) c = if j < k then some l[j].value else none
 | 0, _ => by rw [if_neg (by omega)]; rfl
 | k + 1, h => by
  rw [jR l k c (by omega), rZ hj hn hu k (by omega)];by_cases e : k = j
  ·subst e; rw [if_pos hn, if_pos (by omega)]
  ·rw [if_neg (hu k (by omega) e)];by_cases h2 : j < k
   ·rw [if_pos h2, if_pos (by omega)]
   ·rw [if_neg h2, if_neg (by omega)]
theorem Ip {l : List PI} (hs : Sorted nP l) (i j : Nat) (hi : i < l.length) (hj : j < l.length) (h : i ≠ j) : l[i].name ≠ l[j].name := fun e => by
 have key : ∀ a b (ha : a < l.length) (hb : b < l.length), a < b → l[a].name ≠ l[b].name := fun a b ha hb hab e => by
  have := List.pairwise_iff_getElem.1 hs a b ha hb hab;exact gW this e
 rcases Nat.lt_or_gt_of_ne h with h | h
 ·exact key i j hi hj h e
 ·exact key j i hj hi h e.symm
theorem Hx {l : List PI} (hs : Sorted nP l) (c : ByteArray) : (iT l c).getD 0 = gI l c := by
 have hall := List.take_length (l := l);cases hf : fnd nP l c with
 | true =>
  have hlt := fnd_lt nP hf;have hn : l[posL nP l c].name = c := by
   have := fnd_at nP l c hlt;rw [hf] at this;simpa using this.symm
  have := rZ hlt hn (fun i hi hne e => Ip hs i _ hi hlt hne (e.trans hn.symm)) l.length (Nat.le_refl _);rw [hall, if_pos hlt] at this;rw [this, ← uC hs hlt hf];rfl
 | false =>
  have hno : ∀ p ∈ l, p.name ≠ c := fun p hp e => by
   rw [rH nP hs] at hf;unfold nM at hf;rw [List.any_eq_false] at hf;exact hf p hp (by simpa using e)
  have := mL l hno l.length;rw [hall] at this;rw [this];unfold gI;rw [List.find?_eq_none.2 fun p hp => by simpa using hno p hp];rfl
theorem yG (l : List EN) (c : Int) (σ : List (List D)) (hl : l.length ≤ 999999) : Ct Tryz.prog 55 [.sl false (l.map bP), D.int c] σ (fun r σ' => r = .tup [.agg [D.int (bR (SI.ofL nE l) c).x, D.int (bR (SI.ofL nE l) c).y, D.int (bR (SI.ofL nE l) c).w, D.int (bR (SI.ofL nE l) c).h], .bool (SI.fnd nE (SI.ofL nE l) c)] ∧ σ' = σ) := by
 have := Ap l c σ hl;rw [← Gw, ← Ai] at this;exact this
def zP (l : List EN) (k : Nat) : List EN := l.take k
theorem Ru (l : List EN) : zP l 0 = [] := rfl
theorem yO (l : List EN) (k : Nat) (h : k < l.length) : zP l (k + 1) = zP l k ++ [l[k]] := cF l k h
theorem Oq (l : List EN) (k : Nat) : (zP l k).length ≤ k := by unfold zP; simp; omega
theorem Dz (l : List EN) (k n : Nat) (h1 : k ≤ l.length) (h2 : k ≤ n) (h : ¬ (k < l.length ∧ k < n)) : zP l k = l.take n := by
 unfold zP;by_cases e : k = n
 ·subst e; rfl
 ·rw [List.take_of_length_le (by omega), List.take_of_length_le (by omega)]
abbrev Rr (t : TN) : Prop := ∀ τ : List (List D), Ct Tryz.prog 12 [gF t] τ (fun r τ' => r = gF t ∧ τ' = τ)
theorem Sx (l : List EN) (n : Nat) (σ : List (List D)) (hl : l.length ≤ 9223372036854775807) (hn : n ≤ 1000) : Ct Tryz.prog 8 [.sl false (l.map bP), D.int n] σ (fun r σ' => r = .tup [.sl true ((l.take n).map bP), .sl true ((l.take n).map bP)] ∧ σ' = σ) := by
 refine zf (rs:=[.tmp 4,.tmp 5]) Tryz.func8 Tryz.ntmps8 Tryz.results8 ?_;simp only [aQ];refine zr ⟨[4,5,6,7,20,34,41,42],[],[],[],[]⟩ fun _ _ Z=>?_;simp (disch:=omega);and_intros<;>(try omega);apply Z;refine zr ⟨[4,5,6,7,20,34,41,42],[],[],[],[]⟩ fun _ _ Z=>?_;simp (disch:=omega);and_intros<;>(try omega);apply Z;refine zr ⟨[4,5,6,7,20,34,41,42],[],[],[],[]⟩ fun _ _ Z=>?_;simp (disch:=omega);and_intros<;>(try omega);apply Z;apply aE;refine zr ⟨[4,5,6,7,20,34,41,42],[],[],[],[]⟩ fun _ _ Z=>?_;simp (disch:=omega);and_intros<;>(try omega);apply Z;apply aI;refine zk [0,1,4,5,6,7,8] ?_;refine cM (fun (k : Nat) => [(8, .d (.v (.int .i64 (k : Int)))), (6, .d (.sl true ((zP l k).map bP))), (7, .d (.sl true ((zP l k).map bP)))]) [6, 7, 8, 9, 10, 11, 12, 13, 14, 15, 16, 17, 18, 19, 20, 21, 22, 23, 24, 25, 26, 27, 28, 29, 30, 31, 32, 33, 34, 35, 36, 37, 38, 39, 40] (fun (k : Nat) => k ≤ l.length ∧ k ≤ n) (fun (k : Nat) => n - k) (0) (by simp <;> rfl) ?_ ?_ ?_
 ·simp [Ru]
 ·simp
 rintro k ⟨hk, hk2⟩;simp only [List.cons_append, List.nil_append];have htl := Oq l k;apply aE;refine Du ⟨[4,5,6,7,20,34,41,42],[],[],[],[]⟩ fun all hall _ Z=>?_;have ga4 : bA all 4 = some 13 := hall 4;refine aB 5 fun _ Y=>?_;simp (disch:=omega)[ga4];and_intros<;>(try omega);apply Y;simp only [List.drop];refine cJ 13 (by simp <;> rfl) ?_;refine ⟨fun g1 => ?_, fun g1 => ?_⟩
 ·try simp at g1
  simp (disch:=omega)[ga4];and_intros<;>(try omega);apply Z;refine zi ?_;refine ⟨fun c2=>?_,fun c2=>?_⟩
  ·try simp at c2
   apply aG;apply aC;apply aE;apply aI;refine zk [0,1,4,5,6,7,8] ?_;refine ze ⟨[4,5,6,7,20,34,41,42],[],[],[],[]⟩ [.op {},.op {},.op {},.op {},.op {},.op {},.op {},.op {},.op {},.op {},.op {},.op {},.op {},.op {},.op {},.op {},.op {},.op {},.op {},.op {},.op {},.op {},.op {}] fun all hall _ Z=>?_;refine aL 8 (by simp) fun _ Y=>?_;simp (disch:=omega);and_intros<;>(try omega);apply Y;simp only [List.drop];refine aL 8 (by simp) fun _ Y=>?_;simp (disch:=omega);and_intros<;>(try omega);apply Y;simp only [List.drop];simp (disch:=omega);and_intros<;>(try omega);apply Z;apply aN;apply aC;refine zk [0,1,4,5,6,7,8] ?_;refine zt ⟨[4,5,6,7,20,34,41,42],[],[],[],[]⟩ fun _ _ Z=>?_;simp (disch:=omega);and_intros<;>(try omega);apply Z;refine bJ (k + 1) ?_ ?_ (aV rfl ?_ (by simp) (by simp))
   ·omega
   ·try dsimp only
    omega
   ·simp (disch:=omega)[yO]
  ·try simp at c2
   apply bD;apply bE;apply bG;apply aY;apply aC;refine zk [4,5,6,7] ?_;refine zr ⟨[4,5,6,7,20,34,41,42],[],[],[],[]⟩ fun _ _ Z=>?_;simp (disch:=omega);and_intros<;>(try omega);apply Z;apply aF;simp [aS];have := Dz l k n hk hk2 (by omega);simp [this]
 ·try simp at g1
  simp (disch:=omega)[ga4];and_intros<;>(try omega);apply Z;refine cI (t := false) (by simp) (fun h => by cases h) (fun _ => ?_);apply bD;apply bE;apply bG;apply aY;apply aC;refine zk [4,5,6,7] ?_;refine zr ⟨[4,5,6,7,20,34,41,42],[],[],[],[]⟩ fun _ _ Z=>?_;simp (disch:=omega);and_intros<;>(try omega);apply Z;apply aF;simp [aS];have := Dz l k n hk hk2 (by omega);simp [this]
end Go.Proofs.YtighdhfgcdjmeaaGreatDoor
namespace Go.Proofs.YtighdhfgcdjmeaaGreatDoor
open Go Go.Vm
set_option maxRecDepth 20000
set_option linter.all false
set_option maxHeartbeats 8000000
def Qp (L : List EN) (n : Nat) (t : TN) (j i : Nat) : List D := (List.range i).map fun (i : Nat) => D.v (.int .u8 ((lB L n t i j 32 : Nat) : Int))
@[simp] theorem Vf (L : List EN) (n : Nat) (t : TN) (j i : Nat) : (Qp L n t j i).length = i := by simp [Qp]
@[simp] theorem Wx (L : List EN) (n : Nat) (t : TN) (j i : Nat) : (∀ d, d ∈ Qp L n t j i → d.ncells = 1) ↔ True := ⟨fun _ => trivial, fun _ d hd => by unfold Qp at hd; obtain ⟨y, _, rfl⟩ := List.mem_map.1 hd; rfl⟩
end Go.Proofs.YtighdhfgcdjmeaaGreatDoor
namespace Go.Proofs.YtighdhfgcdjmeaaGreatDoor
open Go Go.Vm
set_option maxRecDepth 20000
set_option linter.all false
set_option maxHeartbeats 8000000
def Uj (l : List AT) (k : Nat) : List AT := l.take k
theorem Rz (l : List AT) : Uj l 0 = [] := rfl
theorem yX (l : List AT) (k : Nat) (h : k < l.length) : Uj l (k + 1) = Uj l k ++ [l[k]] := cF l k h
theorem Rh (l : List AT) (k : Nat) : (Uj l k).length ≤ k := by unfold Uj; simp; omega
theorem Qw (l : List AT) : Uj l l.length = l := List.take_length
def Ta (l : List TN) (k : Nat) : List TN := l.take k
theorem Ry (l : List TN) : Ta l 0 = [] := rfl
theorem Ad (l : List TN) (k : Nat) (h : k < l.length) : Ta l (k + 1) = Ta l k ++ [l[k]] := cF l k h
theorem Re (l : List TN) (k : Nat) : (Ta l k).length ≤ k := by unfold Ta; simp; omega
theorem Ri (l : List TN) : Ta l l.length = l := List.take_length
theorem Ln (t : TN) (σ : List (List D)) (hc : t.classes.length ≤ 1000) (ha : t.attrs.length ≤ 1000) (hs : t.styles.length ≤ 1000) (hk1 : t.kids.length ≤ 1000) (ih : ∀ k ∈ t.kids, Rr k) : Ct Tryz.prog 12 [gF t] σ (fun r σ' => r = gF t ∧ ∃ J, σ' = σ ++ J) := by
 refine zf (rs:=[.cell 2 53]) Tryz.func12 Tryz.ntmps12 Tryz.results12 ?_;simp only [aQ];refine zr ⟨[31,45,59],[],[3],[],[]⟩ fun _ _ Z=>?_;simp (disch:=omega)[aD,aA];and_intros<;>(try omega);apply Z;refine zd ⟨[31,45,59],[],[3],[],[]⟩ [.op {},.op {rL:=true},.op {},.op {rL:=true},.op {},.op {rL:=true},.op {},.op {rL:=true},.op {},.op {},.op {rL:=true},.op {},.op {},.op {rO:=true,wO:=true},.op {rO:=true,wO:=true}] fun all hall _ Z=>?_;refine aL 8 (by simp) fun _ Y=>?_;simp (disch:=omega)[aD,aA];and_intros<;>(try omega);apply Y;simp only [List.drop];simp (disch:=omega)[aD,aA];and_intros<;>(try omega);apply Z;apply aE;refine zk [1,2,3] ?_;refine zr ⟨[31,45,59],[],[3],[],[]⟩ fun _ _ Z=>?_;simp (disch:=omega)[aD,aA];and_intros<;>(try omega);apply Z;apply aI;refine zk [1,2,3,24,25,26] ?_;refine iA (fun (k : Nat) => [(26, .d (.v (.int .i64 (k : Int)))), (5, .d (.any))]) (fun (k : Nat) => []) (fun (k : Nat) => [(σ.length, [D.int t.ID, D.int t.kind, D.str t.tag, D.str t.text, .sl false (t.classes.map D.str), .sl true ((Uj t.attrs k).map bY), .sl true (([]).map bS), .sl true (([]).map mX)])]) [5, 26, 27, 28, 29, 30, 31, 32, 33, 34, 35, 36] (fun (k : Nat) => k ≤ t.attrs.length) (fun (k : Nat) => t.attrs.length - k) (0) (by simp <;> rfl) ?_ (by simp) (by simp [aD, Rz]) ?_ ?_
 ·simp [Rz]
 ·simp
 rintro k hk;simp only [List.cons_append, List.nil_append, iE, gJ, List.set_cons_zero, List.set_cons_succ];have htl := Rh t.attrs k;refine zr ⟨[31,45,59],[],[3],[],[]⟩ fun _ _ Z=>?_;simp (disch:=omega)[aD,aA];and_intros<;>(try omega);apply Z;apply aE;refine zi ?_;refine ⟨fun c1=>?_,fun c1=>?_⟩
 ·try simp at c1
  apply aG;apply aC;apply aE;apply aI;refine zr ⟨[31,45,59],[],[3],[],[]⟩ fun _ _ Z=>?_;simp (disch:=omega)[aD,aA];and_intros<;>(try omega);apply Z;refine zt ⟨[31,45,59],[],[3],[],[]⟩ fun _ _ Z=>?_;simp (disch:=omega)[aD,aA];and_intros<;>(try omega);apply Z;apply aN;apply aC;refine zk [1,2,3,5,24,25,26] ?_;refine zt ⟨[31,45,59],[],[3],[],[]⟩ fun _ _ Z=>?_;simp (disch:=omega)[aD,aA];and_intros<;>(try omega);apply Z;refine bJ (k + 1) ?_ ?_ (aV rfl ?_ (by simp) (by simp [yX, *]))
  ·omega
  ·try dsimp only
   omega
  ·simp (disch:=omega)[aD,aA,yX]
 ·try simp at c1
  obtain rfl : k = t.attrs.length := by omega
  simp only [Qw];apply bD;apply bE;apply bG;apply aY;apply aC;apply aE;refine zr ⟨[31,45,59],[],[3],[],[]⟩ fun _ _ Z=>?_;simp (disch:=omega)[aD,aA];and_intros<;>(try omega);apply Z;apply aI;refine zk [1,2,3,38,39,40] ?_;refine iA (fun (k : Nat) => [(40, .d (.v (.int .i64 (k : Int)))), (7, .d (.any)), (5, .d (.any))]) (fun (k : Nat) => []) (fun (k : Nat) => [(σ.length, [D.int t.ID, D.int t.kind, D.str t.tag, D.str t.text, .sl false (t.classes.map D.str), .sl true ((t.attrs).map bY), .sl true ((Rt t.styles k).map bS), .sl true (([]).map mX)])]) [5, 7, 40, 41, 42, 43, 44, 45, 46, 47, 48, 49, 50] (fun (k : Nat) => k ≤ t.styles.length) (fun (k : Nat) => t.styles.length - k) (0) (by simp <;> rfl) ?_ (by simp) (by simp [aD, Kg]) ?_ ?_
  ·simp [Kg]
  ·simp
  rintro k hk;simp only [List.cons_append, List.nil_append, iE, gJ, List.set_cons_zero, List.set_cons_succ];have htl := Ec t.styles k;refine zr ⟨[31,45,59],[],[3],[],[]⟩ fun _ _ Z=>?_;simp (disch:=omega)[aD,aA];and_intros<;>(try omega);apply Z;apply aE;refine zi ?_;refine ⟨fun c2=>?_,fun c2=>?_⟩
  ·try simp at c2
   apply aG;apply aC;apply aE;apply aI;refine zr ⟨[31,45,59],[],[3],[],[]⟩ fun _ _ Z=>?_;simp (disch:=omega)[aD,aA];and_intros<;>(try omega);apply Z;refine zk [1,2,3,5,7,38,39,40] ?_;refine zt ⟨[31,45,59],[],[3],[],[]⟩ fun _ _ Z=>?_;simp (disch:=omega)[aD,aA];and_intros<;>(try omega);apply Z;apply aN;apply aC;refine zk [1,2,3,5,7,38,39,40] ?_;refine zt ⟨[31,45,59],[],[3],[],[]⟩ fun _ _ Z=>?_;simp (disch:=omega)[aD,aA];and_intros<;>(try omega);apply Z;refine bJ (k + 1) ?_ ?_ (aV rfl ?_ (by simp) (by simp [tC, *]))
   ·omega
   ·try dsimp only
    omega
   ·simp (disch:=omega)[aD,aA,tC]
  ·try simp at c2
   obtain rfl : k = t.styles.length := by omega
   simp only [Dv];apply bD;apply bE;apply bG;apply aY;apply aC;apply aE;refine zr ⟨[31,45,59],[],[3],[],[]⟩ fun _ _ Z=>?_;simp (disch:=omega)[aD,aA];and_intros<;>(try omega);apply Z;apply aI;refine zk [2,3,52,53,54] ?_;refine iA (fun (k : Nat) => [(54, .d (.v (.int .i64 (k : Int)))), (9, .d (.any)), (5, .d (.any)), (7, .d (.any))]) (fun (k : Nat) => []) (fun (k : Nat) => [(σ.length, [D.int t.ID, D.int t.kind, D.str t.tag, D.str t.text, .sl false (t.classes.map D.str), .sl true ((t.attrs).map bY), .sl true ((t.styles).map bS), .sl true ((Ta t.kids k).map mX)])]) [5, 7, 9, 54, 55, 56, 57, 58, 59, 60, 61, 62, 63, 64, 65] (fun (k : Nat) => k ≤ t.kids.length) (fun (k : Nat) => t.kids.length - k) (0) (by simp <;> rfl) ?_ (by simp) (by simp [aD, Ry]) ?_ ?_
   ·simp [Ry]
   ·simp
   rintro k hk;simp only [List.cons_append, List.nil_append, iE, gJ, List.set_cons_zero, List.set_cons_succ];have htl := Re t.kids k;refine zr ⟨[31,45,59],[],[3],[],[]⟩ fun _ _ Z=>?_;simp (disch:=omega)[aD,aA];and_intros<;>(try omega);apply Z;apply aE;refine zi ?_;refine ⟨fun c3=>?_,fun c3=>?_⟩
   ·try simp at c3
    apply aG;apply aC;apply aE;apply aI;refine zr ⟨[31,45,59],[],[3],[],[]⟩ fun _ _ Z=>?_;simp (disch:=omega)[aD,aA];and_intros<;>(try omega);apply Z;refine zk [2,3,5,7,9,52,53,54] ?_;refine ze ⟨[31,45,59],[],[3],[],[]⟩ [.op {},.op {rO:=true,wO:=true},.op {rL:=true},.pure,.op {},.op {},.op {},.op {rO:=true,wO:=true}] fun all hall _ Z=>?_;refine aL 3 (by simp) fun _ Y=>?_;simp (disch:=omega)[aD,aA];and_intros<;>(try omega);apply Y;simp only [List.drop];refine bH fun _ Y=>?_;simp (disch:=omega)[aD,aA];refine nG (fun _ => (ih t.kids[k] (List.getElem_mem _) _)) ?_;apply Y;simp (disch:=omega)[aD,aA];and_intros<;>(try omega);apply Z;apply aN;apply aC;refine zk [2,3,5,7,9,52,53,54] ?_;refine zt ⟨[31,45,59],[],[3],[],[]⟩ fun _ _ Z=>?_;simp (disch:=omega)[aD,aA];and_intros<;>(try omega);apply Z;refine bJ (k + 1) ?_ ?_ (aV rfl ?_ (by simp) (by simp [Ad, *]))
    ·omega
    ·try dsimp only
     omega
    ·simp (disch:=omega)[aD,aA,Ad]
   ·try simp at c3
    obtain rfl : k = t.kids.length := by omega
    simp only [Ri];apply bD;apply bE;apply bG;apply aY;apply aC;refine zr ⟨[31,45,59],[],[3],[],[]⟩ fun _ _ Z=>?_;simp (disch:=omega)[aD,aA];and_intros<;>(try omega);apply Z;apply aF;simp [aS]
end Go.Proofs.YtighdhfgcdjmeaaGreatDoor
namespace Go.Proofs.YtighdhfgcdjmeaaGreatDoor
open Go Go.Vm
set_option maxRecDepth 20000
set_option linter.all false
set_option maxHeartbeats 8000000
theorem Qn {v : VN} (h : VG v) : Rq v := by
 induction h with
 | mk v h hk ih =>
  exact fun i σ hi => (My v i σ h hi (fun k hk' => ⟨hk k hk', ih k hk'⟩)).trim fun r σ' ⟨⟨t, hr, hg, hc⟩, J, hs⟩ => ⟨σ, J, hs, rfl, by
   rw [hr];exact Sc.tup fun d hd => by
    simp only [List.mem_cons, List.not_mem_nil, or_false] at hd;rcases hd with rfl | rfl
    ·exact Mi _ t
    ·exact Sc.v _, fun n cs h => .inl h, ⟨t, hr, hg, hc⟩, rfl⟩
theorem Eb : ∀ (n : Nat) (t : TN), n ≤ 1000 → TG t → dJ t ≤ n → Rr t
 | 0, t, _, _, h => absurd (dF t) (by omega)
 | n + 1, t, hn, hg, h => fun σ => by
  cases hg with
  | mk _ hf hk =>
   have hc := dF t;have hkl : ∀ ks : List TN, ks.length ≤ (ks.map dJ).sum := fun ks => by
    induction ks with
    | nil => exact Nat.le_refl _
    | cons a ks ih => have := dF a; simp only [List.map_cons, List.sum_cons, List.length_cons]; omega
   have hkm : ∀ (ks : List TN) (k : TN), k ∈ ks → dJ k ≤ (ks.map dJ).sum := fun ks => by
    induction ks with
    | nil => intro k hk; cases hk
    | cons a ks ih =>
     intro k hk;rcases List.mem_cons.1 hk with rfl | hk
     ·simp
     ·have := ih k hk; simp only [List.map_cons, List.sum_cons]; omega
   have hl2 := hkl t.kids;exact (Ln t σ (by have := hf.2.2.2; omega) (by have := hf.2.1.1; omega) (by have := hf.1.1; omega) (by omega) fun k hk' => Eb n k (by omega) (hk k hk') (by have := hkm t.kids k hk'; omega)).trim fun r σ' ⟨hr, J, hs⟩ => ⟨σ, J, hs, rfl, by rw [hr]; exact Mi _ t, fun n cs h => .inl h, hr, rfl⟩
end Go.Proofs.YtighdhfgcdjmeaaGreatDoor

