import Derived.Test.YtighdhfgcdjmeaaGreatDoorWkS9
namespace Go.Proofs.YtighdhfgcdjmeaaGreatDoor
open Go Go.Vm
set_option maxRecDepth 20000
set_option linter.all false
set_option maxHeartbeats 8000000
theorem wB (l : Ls) (c : ByteArray) (σ : List (List D)) (hl : l.length ≤ 9223372036854775807) : Ct Tryz.prog 54 [dl l, D.str c] σ (fun r σ' => r = .bool (rC c l) ∧ σ' = σ) := by
 refine zf (rs:=[.tmp 4]) Tryz.func54 Tryz.ntmps54 Tryz.results54 ?_;simp only [aU];refine bP fun _ _ Z=>?_;simp (disch:=omega);and_intros<;>(try omega);apply Z;apply aE;refine bP fun _ _ Z=>?_;simp (disch:=omega);and_intros<;>(try omega);apply Z;apply aH;refine zk [1,4,7,8,9] ?_;refine cR (fun (k : Nat) => [(9, .d (.int k))]) [4, 6, 9, 10, 11, 12, 13, 14, 15, 16] (fun (k : Nat) => k ≤ l.length ∧ rC c (l.take k) = false) (fun (k : Nat) => l.length - k) (0) (by simp <;> rfl) ?_ ?_ ?_
 ·simp
 ·simp [rC]
 rintro k ⟨hk, hh⟩;simp only [List.cons_append, List.nil_append];refine bP fun _ _ Z=>?_;simp (disch:=omega);and_intros<;>(try omega);apply Z;apply aE;refine zi ?_;refine ⟨fun c1=>?_,fun c1=>?_⟩
 ·try simp at c1
  apply aF;apply aB;apply aE;apply aH;refine bP fun _ _ Z=>?_;simp (disch:=omega);and_intros<;>(try omega);apply Z;refine bP fun _ _ Z=>?_;simp (disch:=omega);and_intros<;>(try omega);apply Z;refine zi ?_;refine ⟨fun c2=>?_,fun c2=>?_⟩
  ·try simp at c2
   refine bP fun _ _ Z=>?_;simp (disch:=omega);and_intros<;>(try omega);apply Z;apply aG;apply eK;apply bG;apply lN;apply eK;apply bG;simp [aQ];exact sG c1 c2
  ·try simp at c2
   apply aF;apply aN;apply aB;refine mW fun _ _ Z=>?_;simp (disch:=omega);and_intros<;>(try omega);apply Z;refine bL (k + 1) ?_ ?_ (aW rfl ?_ (by simp) (by simp))
   ·exact ⟨by omega, by rw [cG l k (by omega), xW, hh]; simp [*]⟩
   ·try dsimp only
    omega
   ·simp (disch:=omega)
 ·try simp at c1
  apply bB;apply bC;apply bA;apply aS;apply aB;refine bP fun _ _ Z=>?_;simp (disch:=omega);and_intros<;>(try omega);apply Z;apply aG;simp [aQ];rw [List.take_of_length_le (by omega)] at hh; exact hh
theorem Pr (a b : Ls) (σ : List (List D)) (ha : a.length ≤ 9223372036854775807) (hb : b.length ≤ 9223372036854775807) : Ct Tryz.prog 9 [dl a, dl b] σ (fun r σ' => r = .bool (decide (a = b)) ∧ σ' = σ) := by
 refine zf (rs:=[.tmp 4]) Tryz.func9 Tryz.ntmps9 Tryz.results9 ?_;simp only [aU];refine bP fun _ _ Z=>?_;simp (disch:=omega);and_intros<;>(try omega);apply Z;apply aE;refine bP fun _ _ Z=>?_;simp (disch:=omega);and_intros<;>(try omega);apply Z;refine zi ?_;refine ⟨fun c1=>?_,fun c1=>?_⟩
 ·try simp at c1
  refine bP fun _ _ Z=>?_;simp (disch:=omega);and_intros<;>(try omega);apply Z;apply aG;apply bG;simp [aQ];intro e; subst e; exact absurd rfl c1
 ·try simp at c1
  apply aF;apply aB;apply aE;refine bP fun _ _ Z=>?_;simp (disch:=omega);and_intros<;>(try omega);apply Z;apply aH;refine zk [0,1,4,12,13] ?_;refine cR (fun (k : Nat) => [(13, .d (.int k))]) [4, 5, 13, 14, 15, 16, 17, 18, 19, 20, 21, 22, 23, 24, 25] (fun (k : Nat) => k ≤ a.length ∧ a.take k = b.take k) (fun (k : Nat) => a.length - k) (0) (by simp <;> rfl) ?_ ?_ ?_
  ·simp
  ·simp
  rintro k ⟨hk, hh⟩;simp only [List.cons_append, List.nil_append];refine bP fun _ _ Z=>?_;simp (disch:=omega);and_intros<;>(try omega);apply Z;apply aE;refine zi ?_;refine ⟨fun c2=>?_,fun c2=>?_⟩
  ·try simp at c2
   apply aF;apply aB;apply aE;apply aH;refine bP fun _ _ Z=>?_;simp (disch:=omega);and_intros<;>(try omega);apply Z;refine zd ⟨[],[],[],[],[]⟩ [.op {},.op {},.op {},.op {},.op {},.op {},.op {},.op {},.op {}] fun all hall _ Z=>?_;refine bJ 8 (by simp) fun _ Y=>?_;simp (disch:=omega);and_intros<;>(try omega);apply Y;simp only [List.drop];simp (disch:=omega);and_intros<;>(try omega);apply Z;refine zi ?_;refine ⟨fun c3=>?_,fun c3=>?_⟩
   ·try simp at c3
    refine zk [0,1,12,13] ?_;refine bP fun _ _ Z=>?_;simp (disch:=omega);and_intros<;>(try omega);apply Z;apply aG;apply eK;apply bG;apply lN;apply eK;apply bG;simp [aQ];intro e; subst e; exact c3 rfl
   ·try simp at c3
    apply aF;apply aN;apply aB;refine zk [0,1,12,13] ?_;refine mW fun _ _ Z=>?_;simp (disch:=omega);and_intros<;>(try omega);apply Z;refine bL (k + 1) ?_ ?_ (aW rfl ?_ (by simp) (by simp))
    ·exact ⟨by omega, by rw [cG a k (by omega), cG b k (by omega), hh]; simp [*]⟩
    ·try dsimp only
     omega
    ·simp (disch:=omega)
  ·try simp at c2
   apply bB;apply bC;apply bA;apply aS;apply aB;refine bP fun _ _ Z=>?_;simp (disch:=omega);and_intros<;>(try omega);apply Z;apply aG;simp [aQ]
   rwa [List.take_of_length_le (by omega), List.take_of_length_le (by omega)] at hh
def hP (x0 : Int) : Int := if x0 > 2147483647 then 2147483647
 else if x0 < (-2147483648) then (-2147483648)
  else x0
theorem Ny (x0 : Int) (σ : List (List D))  : Ct Tryz.prog 82 [.v (.int .i64 x0)] σ (fun r σ' => r = .v (.int .i64 (hP x0)) ∧ σ' = σ) := by
 refine zf (rs:=[.tmp 2]) Tryz.func82 Tryz.ntmps82 Tryz.results82 ?_;simp only [aU];refine bP fun all K Z=>?_;simp;and_intros<;>(try omega);apply Z;clear Z K all;apply aE;refine bP fun all K Z=>?_;simp;and_intros<;>(try omega);apply Z;clear Z K all;refine zi ?_;refine ⟨fun c1=>?_,fun c1=>?_⟩
 ·try simp at c1
  all_goals try (exfalso; omega)
  all_goals
   refine bP fun all K Z=>?_;simp;and_intros<;>(try omega);apply Z;clear Z K all;apply aG;apply bG;first | (simp [aQ, hP, c1]; done) | (simp [aQ, hP]; done) | (simp [aQ]; unfold hP; (repeat' split) <;> first | (exfalso; omega) | (simp_all; done)) | (simp [aQ, hP, *]; done) | (simp_all [aQ, hP]; done) | (simp_all [aQ, hP]; omega) | (simp [aQ, hP] <;> split <;> omega)
 ·try simp at c1
  all_goals try (exfalso; omega)
  all_goals
   apply aF;apply aB;apply aE;refine bP fun all K Z=>?_;simp;and_intros<;>(try omega);apply Z;clear Z K all;refine zi ?_;refine ⟨fun c2=>?_,fun c2=>?_⟩
   ·try simp at c2
    all_goals try (exfalso; omega)
    all_goals
     refine bP fun all K Z=>?_;simp;and_intros<;>(try omega);apply Z;clear Z K all;apply aG;apply bG;first | (simp [aQ, hP, c1, c2]; done) | (simp [aQ, hP]; done) | (simp [aQ]; unfold hP; (repeat' split) <;> first | (exfalso; omega) | (simp_all; done)) | (simp [aQ, hP, *]; done) | (simp_all [aQ, hP]; done) | (simp_all [aQ, hP]; omega) | (simp [aQ, hP] <;> split <;> omega)
   ·try simp at c2
    all_goals try (exfalso; omega)
    all_goals
     apply aF;apply aB;refine bP fun all K Z=>?_;simp;and_intros<;>(try omega);apply Z;clear Z K all;apply aG;first | (simp [aQ, hP, c1, c2]; done) | (simp [aQ, hP]; done) | (simp [aQ]; unfold hP; (repeat' split) <;> first | (exfalso; omega) | (simp_all; done)) | (simp [aQ, hP, *]; done) | (simp_all [aQ, hP]; done) | (simp_all [aQ, hP]; omega) | (simp [aQ, hP] <;> split <;> omega)
theorem Pn (x : Int) : hP x = uA x := by unfold hP uA; omega
theorem sT (x : Int) (σ : List (List D)) : Ct Tryz.prog 82 [D.int x] σ (fun r σ' => r = .v (.int .i64 (uA x)) ∧ σ' = σ) := Pn x ▸ Ny x σ
theorem wW (a b : Int) (σ : List (List D))  : Ct Tryz.prog 57 [D.int a, D.int b] σ (fun r σ' => r = .int (kZ a b) ∧ σ' = σ) := by
 refine zf (rs:=[.tmp 4]) Tryz.func57 Tryz.ntmps57 Tryz.results57 ?_;simp only [aU];have hA := wP a;have hB := wP b;refine bP fun _ _ Z=>?_;simp;and_intros<;>(try omega);apply Z;refine bP fun _ _ Z=>?_;refine aA 1 fun _ Y=>?_;simp;and_intros<;>(try omega);apply Y;simp only [List.drop];refine aI fun _ Y=>?_;simp;refine dO (sT a _) ?_;apply Y;refine aA 1 fun _ Y=>?_;simp;and_intros<;>(try omega);apply Y;simp only [List.drop];refine aI fun _ Y=>?_;simp;refine dO (sT b _) ?_;apply Y;refine aA 1 fun _ Y=>?_;simp;and_intros<;>(try omega);apply Y;simp only [List.drop];refine aI fun _ Y=>?_;simp;refine dO (sT (uA a + uA b) _) ?_;apply Y;simp;and_intros<;>(try omega);apply Z;apply aG;simp [aQ, kZ]
theorem rE (q : RC) (x y : Int) : inR q x y = (decide (q.x ≤ x) && decide (q.y ≤ y) && decide (x < kZ q.x q.w) && decide (y < kZ q.y q.h)) := by
 unfold inR;rw [Bool.eq_iff_iff]; simp; omega
def iL (l : List EN) (c : Int) : Option EN := l.foldl (fun a e => if e.ID = c then some e else a) none
theorem Bs (l : List EN) (e : EN) (c : Int) : iL (l ++ [e]) c = if e.ID = c then some e else iL l c := by simp [iL, List.foldl_append]
theorem mN (l : List EN) (k : Nat) (c : Int) (h : k < l.length) : iL (l.take (k + 1)) c = if l[k].ID = c then some l[k] else iL (l.take k) c := by rw [cG l k h, Bs]
def oT (l : List EN) (c : Int) : Option EN := if SI.fnd nE l c = true then l[SI.posL nE l c]? else none
theorem vO : ∀ (l : List EN) (e : EN) (c : Int), SI.Sorted nE l → oT (SI.putL nE l e) c = if e.ID = c then some e else oT l c
 | [], e, c, _ => by
  unfold oT;by_cases h : e.ID = c
  ·subst h; simp [SI.putL, SI.fnd, SI.posL, nE, SI.lessI]
  ·by_cases h2 : e.ID < c
   ·simp [SI.putL, SI.fnd, SI.posL, nE, SI.lessI, h, h2]
   ·simp [SI.putL, SI.fnd, SI.posL, nE, SI.lessI, h, h2]
 | a :: l, e, c, hs => by
  have ih := vO l e c (List.Pairwise.of_cons hs);unfold oT at ih ⊢;by_cases h1 : a.ID < e.ID
  ·simp only [SI.putL, nE, SI.lessI, h1, decide_true, if_true];by_cases h2 : a.ID < c
   ·simpa [SI.fnd, SI.posL, nE, SI.lessI, h2] using ih
   ·have h3 : ¬ e.ID = c := by omega
    simp [SI.fnd, SI.posL, nE, SI.lessI, h2, h3]
  ·by_cases h0 : a.ID = e.ID
   ·by_cases h2 : a.ID < c
    ·have h3 : ¬ e.ID = c := by omega
     have h4 : e.ID < c := by omega
     simp [SI.putL, SI.fnd, SI.posL, nE, SI.lessI, h1, h0, h2, h3, h4]
    ·by_cases h3 : e.ID = c
     ·simp [SI.putL, SI.fnd, SI.posL, nE, SI.lessI, h1, h0, h3]
     ·have h4 : ¬ e.ID < c := by omega
      have h5 : ¬ a.ID = c := by omega
      simp [SI.putL, SI.fnd, SI.posL, nE, SI.lessI, h1, h0, h2, h3, h4, h5]
   ·by_cases h2 : e.ID < c
    ·have h3 : ¬ e.ID = c := by omega
     simp [SI.putL, SI.fnd, SI.posL, nE, SI.lessI, h1, h0, h2, h3]
    ·by_cases h3 : e.ID = c
     ·subst h3; simp [SI.putL, SI.fnd, SI.posL, nE, SI.lessI, h1, h0]
     ·have h4 : ¬ a.ID < c := by omega
      have h5 : ¬ a.ID = c := by omega
      simp [SI.putL, SI.fnd, SI.posL, nE, SI.lessI, h1, h0, h2, h3, h4, h5]
theorem uK (l : List EN) (c : Int) : oT (SI.ofL nE l) c = iL l c := by
 have key : ∀ k, k ≤ l.length → oT (SI.ofL nE (l.take k)) c = iL (l.take k) c := fun k => by
  induction k with
  | zero => intro _; simp [SI.ofL, iL, oT, SI.fnd]
  | succ k ih =>
   intro h;rw [SI.ofL_take nE l k (by omega), vO _ _ _ (SI.ofL_sorted nE _), mN l k c (by omega), ih (by omega)]
 have := key l.length (Nat.le_refl _)
 rwa [List.take_length] at this
theorem Mt (l : List EN) (c : Int) : SI.fnd nE (SI.ofL nE l) c = (iL l c).isSome := by
 rw [← uK];unfold oT;cases h : SI.fnd nE (SI.ofL nE l) c with
 | true =>
  have := SI.fnd_lt nE h;simp [this]
 | false => simp
theorem Gv (l : List EN) (c : Int) : bE (SI.ofL nE l) c = ((iL l c).map EN.rect).getD ⟨0, 0, 0, 0⟩ := by
 rw [← uK];unfold bE oT;cases SI.fnd nE (SI.ofL nE l) c <;> simp
def iZ (l : List PI) (c : ByteArray) : Option Int := l.foldl (fun a p => if p.name = c then some p.value else a) none
theorem Bm (l : List PI) (p : PI) (c : ByteArray) : iZ (l ++ [p]) c = if p.name = c then some p.value else iZ l c := by simp [iZ, List.foldl_append]
theorem kG (l : List PI) (k : Nat) (c : ByteArray) (h : k < l.length) : iZ (l.take (k + 1)) c = if l[k].name = c then some l[k].value else iZ (l.take k) c := by
 rw [cG l k h, Bm]
theorem Lf (l : List EN) (c : Int) (σ : List (List D)) (hl : l.length ≤ 999999) : Ct Tryz.prog 55 [.sl false (l.map cH), D.int c] σ (fun r σ' => r = .tup [xS (((iL l c).map EN.rect).getD ⟨0, 0, 0, 0⟩), .bool (iL l c).isSome] ∧ σ' = σ) := by
 refine zf (rs:=[.cell 4 77,.tmp 5]) Tryz.func55 Tryz.ntmps55 Tryz.results55 ?_;simp only [aU];refine bP fun _ _ Z=>?_;simp (disch:=omega)[Nat.sub_add_cancel];and_intros<;>(try omega);apply Z;apply aE;refine bP fun _ _ Z=>?_;simp (disch:=omega)[Nat.sub_add_cancel];and_intros<;>(try omega);apply Z;apply aH;refine zk [0,1,4,5,6] ?_;refine cR (fun (k : Nat) => [(6, .d (.int ((k : Int) - 1)))]) [5, 6, 10, 11, 12, 13, 14, 15, 16, 17, 18, 19, 20, 21, 22, 23, 24, 25] (fun (k : Nat) => k ≤ l.length ∧ iL l c = iL (l.take k) c) (fun (k : Nat) => k) (l.length) (by simp <;> rfl) ?_ ?_ ?_
 ·simp
 ·simp
 rintro k ⟨hk, hh⟩;simp only [List.cons_append, List.nil_append];have htn : 1 ≤ k → ((k : Int) - 1).toNat = k - 1 := fun h => by omega
 apply aE;refine bP fun _ _ Z=>?_;simp (disch:=omega)[Nat.sub_add_cancel];and_intros<;>(try omega);apply Z;refine zi ?_;refine ⟨fun c1=>?_,fun c1=>?_⟩
 ·try simp at c1
  have hk1 : 1 ≤ k := by omega
  have htn1 := htn hk1;apply aF;apply aB;apply aE;apply aH;refine bP fun _ _ Z=>?_;simp (disch:=omega)[Nat.sub_add_cancel];and_intros<;>(try omega);apply Z;refine zi ?_;refine ⟨fun c2=>?_,fun c2=>?_⟩
  ·try simp at c2
   have hz := mN l (k - 1) c (by omega);rw [Nat.sub_add_cancel hk1, if_pos c2] at hz;rw [hz] at hh;refine zk [0,1,4,6] ?_;refine bP fun _ _ Z=>?_;simp (disch:=omega)[Nat.sub_add_cancel];and_intros<;>(try omega);apply Z;apply aG;apply eK;apply bG;apply lN;apply eK;apply bG;simp [aQ, hh]
  ·try simp at c2
   apply aF;apply aN;apply aB;refine zk [0,1,4,6] ?_;refine mW fun _ _ Z=>?_;simp (disch:=omega)[Nat.sub_add_cancel];and_intros<;>(try omega);apply Z;refine bL (k - 1) ?_ ?_ (aW rfl ?_ (by simp) (by simp))
   ·exact ⟨by omega, by have := mN l (k - 1) c (by omega); rw [Nat.sub_add_cancel hk1, if_neg c2] at this; rw [hh, this]⟩
   ·try dsimp only
    omega
   ·simp [wK]; omega
 ·try simp at c1
  obtain rfl : k = 0 := by omega
  have hz : iL l c = none := hh.trans (by rw [List.take_zero]; rfl);apply bB;apply bC;apply bA;apply aS;apply aB;refine bP fun _ _ Z=>?_;simp (disch:=omega)[Nat.sub_add_cancel];and_intros<;>(try omega);apply Z;apply aG;simp [aQ, hz]
theorem Ky (l : List PI) (c : ByteArray) (σ : List (List D)) (hl : l.length ≤ 999999) : Ct Tryz.prog 56 [.sl false (l.map bR), D.str c] σ (fun r σ' => r = .tup [D.int ((iZ l c).getD 0), .bool (iZ l c).isSome] ∧ σ' = σ) := by
 refine zf (rs:=[.tmp 4,.tmp 5]) Tryz.func56 Tryz.ntmps56 Tryz.results56 ?_;simp only [aU];refine bP fun _ _ Z=>?_;simp (disch:=omega)[Nat.sub_add_cancel];and_intros<;>(try omega);apply Z;apply aE;refine bP fun _ _ Z=>?_;simp (disch:=omega)[Nat.sub_add_cancel];and_intros<;>(try omega);apply Z;apply aH;refine zk [0,1,4,5,6] ?_;refine cR (fun (k : Nat) => [(6, .d (.int ((k : Int) - 1)))]) [4, 5, 6, 10, 11, 12, 13, 14, 15, 16, 17, 18, 19, 20, 21, 22, 23, 24, 25] (fun (k : Nat) => k ≤ l.length ∧ iZ l c = iZ (l.take k) c) (fun (k : Nat) => k) (l.length) (by simp <;> rfl) ?_ ?_ ?_
 ·simp
 ·simp
 rintro k ⟨hk, hh⟩;simp only [List.cons_append, List.nil_append];have htn : 1 ≤ k → ((k : Int) - 1).toNat = k - 1 := fun h => by omega
 apply aE;refine bP fun _ _ Z=>?_;simp (disch:=omega)[Nat.sub_add_cancel];and_intros<;>(try omega);apply Z;refine zi ?_;refine ⟨fun c1=>?_,fun c1=>?_⟩
 ·try simp at c1
  have hk1 : 1 ≤ k := by omega
  have htn1 := htn hk1;apply aF;apply aB;apply aE;apply aH;refine bP fun _ _ Z=>?_;simp (disch:=omega)[Nat.sub_add_cancel];and_intros<;>(try omega);apply Z;refine zi ?_;refine ⟨fun c2=>?_,fun c2=>?_⟩
  ·try simp at c2
   have hz := kG l (k - 1) c (by omega);rw [Nat.sub_add_cancel hk1, if_pos c2] at hz;rw [hz] at hh;refine zk [0,1,6] ?_;refine bP fun _ _ Z=>?_;simp (disch:=omega)[Nat.sub_add_cancel];and_intros<;>(try omega);apply Z;apply aG;apply eK;apply bG;apply lN;apply eK;apply bG;simp [aQ, hh]
  ·try simp at c2
   apply aF;apply aN;apply aB;refine zk [0,1,6] ?_;refine mW fun _ _ Z=>?_;simp (disch:=omega)[Nat.sub_add_cancel];and_intros<;>(try omega);apply Z;refine bL (k - 1) ?_ ?_ (aW rfl ?_ (by simp) (by simp))
   ·exact ⟨by omega, by have := kG l (k - 1) c (by omega); rw [Nat.sub_add_cancel hk1, if_neg c2] at this; rw [hh, this]⟩
   ·try dsimp only
    omega
   ·simp [wK]; omega
 ·try simp at c1
  obtain rfl : k = 0 := by omega
  have hz : iZ l c = none := hh.trans (by rw [List.take_zero]; rfl);apply bB;apply bC;apply bA;apply aS;apply aB;refine bP fun _ _ Z=>?_;simp (disch:=omega)[Nat.sub_add_cancel];and_intros<;>(try omega);apply Z;apply aG;simp [aQ, hz]
theorem Gu (q : RC) (x y : Int) (σ : List (List D))  : Ct Tryz.prog 58 [xS q, D.int x, D.int y] σ (fun r σ' => r = .bool (inR q x y) ∧ σ' = σ) := by
 refine zf (rs:=[.tmp 6]) Tryz.func58 Tryz.ntmps58 Tryz.results58 ?_;simp only [aU];refine bP fun _ _ Z=>?_;simp;and_intros<;>(try omega);apply Z;refine oA ⟨[],[],[],[],[]⟩ fun all hall _ Z=>?_;have ga4 : aL all 4 = some 11 := hall 4;have ga10 : aL all 10 = some 17 := hall 10;have ga19 : aL all 19 = some 26 := hall 19;refine aA 5 fun _ Y=>?_;simp[ga4,ga10,ga19];and_intros<;>(try omega);apply Y;simp only [List.drop];refine aX 11 (by simp <;> rfl) ?_;refine ⟨fun g1 => ?_, fun g1 => ?_⟩
 ·try simp at g1
  refine aA 6 fun _ Y=>?_;simp[ga4,ga10,ga19];and_intros<;>(try omega);apply Y;simp only [List.drop];refine aX 17 (by simp <;> rfl) ?_;refine ⟨fun g2 => ?_, fun g2 => ?_⟩
  ·try simp at g2
   refine aA 5 fun _ Y=>?_;simp[ga4,ga10,ga19];and_intros<;>(try omega);apply Y;simp only [List.drop];refine zg ga10 fun _ Y=>?_;simp[ga4,ga10,ga19];refine dO (wW q.x q.w _) ?_;apply Y;refine aA 3 fun _ Y=>?_;simp[ga4,ga10,ga19];and_intros<;>(try omega);apply Y;simp only [List.drop];refine aX 26 (by simp <;> rfl) ?_;refine ⟨fun g3 => ?_, fun g3 => ?_⟩
   ·try simp at g3
    refine aA 5 fun _ Y=>?_;simp[ga4,ga10,ga19];and_intros<;>(try omega);apply Y;simp only [List.drop];refine zg ga19 fun _ Y=>?_;simp[ga4,ga10,ga19];refine dO (wW q.y q.h _) ?_;apply Y;simp[ga4,ga10,ga19];and_intros<;>(try omega);apply Z;apply aG;simp [aQ, rE, *] <;> omega
   ·try simp at g3
    refine aA 8 fun _ Y=>?_;simp[ga4,ga10,ga19];and_intros<;>(try omega);apply Y;simp only [List.drop];simp[ga4,ga10,ga19];and_intros<;>(try omega);apply Z;apply aG;simp [aQ, rE, *] <;> omega
  ·try simp at g2
   refine aA 8 fun _ Y=>?_;simp[ga4,ga10,ga19];and_intros<;>(try omega);apply Y;simp only [List.drop];refine aA 1 fun _ Y=>?_;simp[ga4,ga10,ga19];and_intros<;>(try omega);apply Y;simp only [List.drop];refine aA 8 fun _ Y=>?_;simp[ga4,ga10,ga19];and_intros<;>(try omega);apply Y;simp only [List.drop];simp[ga4,ga10,ga19];and_intros<;>(try omega);apply Z;apply aG;simp [aQ, rE, *] <;> omega
 ·try simp at g1
  refine aA 6 fun _ Y=>?_;simp[ga4,ga10,ga19];and_intros<;>(try omega);apply Y;simp only [List.drop];refine aA 8 fun _ Y=>?_;simp[ga4,ga10,ga19];and_intros<;>(try omega);apply Y;simp only [List.drop];refine aA 1 fun _ Y=>?_;simp[ga4,ga10,ga19];and_intros<;>(try omega);apply Y;simp only [List.drop];refine aA 8 fun _ Y=>?_;simp[ga4,ga10,ga19];and_intros<;>(try omega);apply Y;simp only [List.drop];simp[ga4,ga10,ga19];and_intros<;>(try omega);apply Z;apply aG;simp [aQ, rE, *] <;> omega
end Go.Proofs.YtighdhfgcdjmeaaGreatDoor
namespace Go.Proofs.YtighdhfgcdjmeaaGreatDoor
open Go Go.Vm
set_option maxRecDepth 20000
set_option linter.all false
set_option maxHeartbeats 8000000
theorem mR {c : ByteArray} : ∀ (l : List PI), (∀ p ∈ l, p.name ≠ c) → ∀ (k : Nat), iZ (l.take k) c = none
 | l, h, 0 => rfl
 | l, h, k + 1 => by
  by_cases hk : k < l.length
  ·rw [kG l k c hk, if_neg (h _ (List.getElem_mem _)), mR l h k]
  ·rw [List.take_of_length_le (by omega), ← List.take_of_length_le (show l.length ≤ k by omega)]; exact mR l h k
theorem tM {l : List PI} {c : ByteArray} {j : Nat} (hj : j < l.length) (hn : l[j].name = c) (hu : ∀ i (h : i < l.length), i ≠ j → l[i].name ≠ c) : ∀ k, k ≤ l.length → iZ (l.take k) c = if j < k then some l[j].value else none
 | 0, _ => by rw [if_neg (by omega)]; rfl
 | k + 1, h => by
  rw [kG l k c (by omega), tM hj hn hu k (by omega)];by_cases e : k = j
  ·subst e; rw [if_pos hn, if_pos (by omega)]
  ·rw [if_neg (hu k (by omega) e)];by_cases h2 : j < k
   ·rw [if_pos h2, if_pos (by omega)]
   ·rw [if_neg h2, if_neg (by omega)]
theorem Ge {l : List PI} (hs : Sorted nP l) (i j : Nat) (hi : i < l.length) (hj : j < l.length) (h : i ≠ j) : l[i].name ≠ l[j].name := fun e => by
 have key : ∀ a b (ha : a < l.length) (hb : b < l.length), a < b → l[a].name ≠ l[b].name := fun a b ha hb hab e => by
  have := List.pairwise_iff_getElem.1 hs a b ha hb hab;exact gX this e
 rcases Nat.lt_or_gt_of_ne h with h | h
 ·exact key i j hi hj h e
 ·exact key j i hj hi h e.symm
theorem Ib {l : List PI} (hs : Sorted nP l) (c : ByteArray) : (iZ l c).getD 0 = lK l c := by
 have hall := List.take_length (l := l);cases hf : fnd nP l c with
 | true =>
  have hlt := fnd_lt nP hf;have hn : l[posL nP l c].name = c := by
   have := fnd_at nP l c hlt;rw [hf] at this;simpa using this.symm
  have := tM hlt hn (fun i hi hne e => Ge hs i _ hi hlt hne (e.trans hn.symm)) l.length (Nat.le_refl _);rw [hall, if_pos hlt] at this;rw [this, ← tI hs hlt hf];rfl
 | false =>
  have hno : ∀ p ∈ l, p.name ≠ c := fun p hp e => by
   rw [rH nP hs] at hf;unfold nX at hf;rw [List.any_eq_false] at hf;exact hf p hp (by simpa using e)
  have := mR l hno l.length;rw [hall] at this;rw [this];unfold lK;rw [List.find?_eq_none.2 fun p hp => by simpa using hno p hp];rfl
theorem rG (t : TN) (σ : List (List D)) (h : SO t) : Ct Tryz.prog 56 [.sl false (t.styles.map bR), D.str oH] σ (fun r σ' => r = .tup [D.int (fJ t), .bool (iZ t.styles oH).isSome] ∧ σ' = σ) := by
 have := Ky t.styles oH σ (by have := h.1; omega);rw [Ib h.2] at this;exact this
theorem nY (l : List EN) (c : Int) (σ : List (List D)) (hl : l.length ≤ 999999) : Ct Tryz.prog 55 [.sl false (l.map cH), D.int c] σ (fun r σ' => r = .tup [.agg [D.int (bE (SI.ofL nE l) c).x, D.int (bE (SI.ofL nE l) c).y, D.int (bE (SI.ofL nE l) c).w, D.int (bE (SI.ofL nE l) c).h], .bool (SI.fnd nE (SI.ofL nE l) c)] ∧ σ' = σ) := by
 have := Lf l c σ hl;rw [← Gv, ← Mt] at this;exact this
def Nk (l : List EN) (k : Nat) : List EN := l.take k
theorem Tp (l : List EN) : Nk l 0 = [] := rfl
theorem Lg (l : List EN) (k : Nat) (h : k < l.length) : Nk l (k + 1) = Nk l k ++ [l[k]] := cG l k h
theorem Qd (l : List EN) (k : Nat) : (Nk l k).length ≤ k := by unfold Nk; simp; omega
theorem Dj (l : List EN) (k n : Nat) (h1 : k ≤ l.length) (h2 : k ≤ n) (h : ¬ (k < l.length ∧ k < n)) : Nk l k = l.take n := by
 unfold Nk;by_cases e : k = n
 ·subst e; rfl
 ·rw [List.take_of_length_le (by omega), List.take_of_length_le (by omega)]
def Az (L : List EN) (n : Nat) (t : TN) (x y : Int) (was k : Nat) : Nat := (t.kids.take k).foldl (fun a k => dG L n k x y a) (bT t L x y was)
theorem dI (L : List EN) (n : Nat) (t : TN) (x y : Int) (was : Nat) : Az L n t x y was 0 = bT t L x y was := rfl
theorem gE (L : List EN) (n : Nat) (t : TN) (x y : Int) (was k : Nat) (h : k < t.kids.length) : Az L n t x y was (k + 1) = dG L n t.kids[k] x y (Az L n t x y was k) := by
 unfold Az; rw [cG _ _ h, List.foldl_append]; rfl
theorem hC (L : List EN) (n : Nat) (t : TN) (x y : Int) (was : Nat) (h : cU t = false) : Az L n t x y was t.kids.length = dG L (n + 1) t x y was := by
 unfold Az; rw [List.take_length]; simp only [dG, h]; rfl
theorem kB (L : List EN) (n : Nat) (t : TN) (x y : Int) (was : Nat) (h : was ≤ 255) : ∀ k, k ≤ t.kids.length → Az L n t x y was k ≤ 255
 | 0, _ => sM t L x y was h
 | k + 1, hk => by rw [gE _ _ _ _ _ _ _ (by omega)]; exact oI L n _ x y _ (kB L n t x y was h k (by omega))
abbrev qK (l : List EN) (n : Nat) (t : TN) : Prop := ∀ (x y : Int) (was : Nat) (τ : List (List D)), was ≤ 255 → Ct Tryz.prog 28 [iT t, .sl false (l.map cH), D.int x, D.int y, .v (.int .u8 was)] τ (fun r τ' => r = .v (.int .u8 (dG (SI.ofL nE l) n t x y was : Nat)) ∧ τ' = τ)
abbrev Qp (t : TN) : Prop := ∀ τ : List (List D), Ct Tryz.prog 12 [iT t] τ (fun r τ' => r = iT t ∧ τ' = τ)
theorem Qt (l : List EN) (n : Nat) (σ : List (List D)) (hl : l.length ≤ 9223372036854775807) (hn : n ≤ 1000) : Ct Tryz.prog 8 [.sl false (l.map cH), D.int n] σ (fun r σ' => r = .tup [.sl true ((l.take n).map cH), .sl true ((l.take n).map cH)] ∧ σ' = σ) := by
 refine zf (rs:=[.tmp 4,.tmp 5]) Tryz.func8 Tryz.ntmps8 Tryz.results8 ?_;simp only [aU];refine zr ⟨[4,5,6,7,20,34,41,42],[],[],[],[]⟩ fun _ _ Z=>?_;simp (disch:=omega);and_intros<;>(try omega);apply Z;refine zr ⟨[4,5,6,7,20,34,41,42],[],[],[],[]⟩ fun _ _ Z=>?_;simp (disch:=omega);and_intros<;>(try omega);apply Z;refine zr ⟨[4,5,6,7,20,34,41,42],[],[],[],[]⟩ fun _ _ Z=>?_;simp (disch:=omega);and_intros<;>(try omega);apply Z;apply aE;refine zr ⟨[4,5,6,7,20,34,41,42],[],[],[],[]⟩ fun _ _ Z=>?_;simp (disch:=omega);and_intros<;>(try omega);apply Z;apply aH;refine zk [0,1,4,5,6,7,8] ?_;refine cR (fun (k : Nat) => [(8, .d (.v (.int .i64 (k : Int)))), (6, .d (.sl true ((Nk l k).map cH))), (7, .d (.sl true ((Nk l k).map cH)))]) [6, 7, 8, 9, 10, 11, 12, 13, 14, 15, 16, 17, 18, 19, 20, 21, 22, 23, 24, 25, 26, 27, 28, 29, 30, 31, 32, 33, 34, 35, 36, 37, 38, 39, 40] (fun (k : Nat) => k ≤ l.length ∧ k ≤ n) (fun (k : Nat) => n - k) (0) (by simp <;> rfl) ?_ ?_ ?_
 ·simp [Tp]
 ·simp
 rintro k ⟨hk, hk2⟩;simp only [List.cons_append, List.nil_append];have htl := Qd l k;apply aE;refine oA ⟨[4,5,6,7,20,34,41,42],[],[],[],[]⟩ fun all hall _ Z=>?_;have ga4 : aL all 4 = some 13 := hall 4;refine aA 5 fun _ Y=>?_;simp (disch:=omega)[ga4];and_intros<;>(try omega);apply Y;simp only [List.drop];refine aX 13 (by simp <;> rfl) ?_;refine ⟨fun g1 => ?_, fun g1 => ?_⟩
 ·try simp at g1
  simp (disch:=omega)[ga4];and_intros<;>(try omega);apply Z;refine zi ?_;refine ⟨fun c2=>?_,fun c2=>?_⟩
  ·try simp at c2
   apply aF;apply aB;apply aE;apply aH;refine zk [0,1,4,5,6,7,8] ?_;refine ze ⟨[4,5,6,7,20,34,41,42],[],[],[],[]⟩ [.op {},.op {},.op {},.op {},.op {},.op {},.op {},.op {},.op {},.op {},.op {},.op {},.op {},.op {},.op {},.op {},.op {},.op {},.op {},.op {},.op {},.op {},.op {}] fun all hall _ Z=>?_;refine bJ 8 (by simp) fun _ Y=>?_;simp (disch:=omega);and_intros<;>(try omega);apply Y;simp only [List.drop];refine bJ 8 (by simp) fun _ Y=>?_;simp (disch:=omega);and_intros<;>(try omega);apply Y;simp only [List.drop];simp (disch:=omega);and_intros<;>(try omega);apply Z;apply aN;apply aB;refine zk [0,1,4,5,6,7,8] ?_;refine zt ⟨[4,5,6,7,20,34,41,42],[],[],[],[]⟩ fun _ _ Z=>?_;simp (disch:=omega);and_intros<;>(try omega);apply Z;refine bL (k + 1) ?_ ?_ (aW rfl ?_ (by simp) (by simp))
   ·omega
   ·try dsimp only
    omega
   ·simp (disch:=omega)[Lg]
  ·try simp at c2
   apply bB;apply bC;apply bA;apply aS;apply aB;refine zk [4,5,6,7] ?_;refine zr ⟨[4,5,6,7,20,34,41,42],[],[],[],[]⟩ fun _ _ Z=>?_;simp (disch:=omega);and_intros<;>(try omega);apply Z;apply aG;simp [aQ];have := Dj l k n hk hk2 (by omega);simp [this]
 ·try simp at g1
  simp (disch:=omega)[ga4];and_intros<;>(try omega);apply Z;refine bZ (t := false) (by simp) (fun h => by cases h) (fun _ => ?_);apply bB;apply bC;apply bA;apply aS;apply aB;refine zk [4,5,6,7] ?_;refine zr ⟨[4,5,6,7,20,34,41,42],[],[],[],[]⟩ fun _ _ Z=>?_;simp (disch:=omega);and_intros<;>(try omega);apply Z;apply aG;simp [aQ];have := Dj l k n hk hk2 (by omega);simp [this]
theorem Mz (n : Nat) (t : TN) (l : List EN) (x y : Int) (was : Nat) (σ : List (List D)) (h : SO t) (hc : t.classes.length ≤ 1000000) (htx : t.text.size ≤ 1000000) (hl : l.length ≤ 999999) (hk1 : t.kids.length ≤ 1000) (hwas : was ≤ 255) (ih : ∀ k ∈ t.kids, qK l n k) (hq : ¬ t.kind = 1) (hh : rC oN t.classes = true) : Ct Tryz.prog 28 [iT t, .sl false (l.map cH), D.int x, D.int y, .v (.int .u8 was)] σ (fun r σ' => r = .v (.int .u8 (dG (SI.ofL nE l) (n + 1) t x y was : Nat)) ∧ σ' = σ) := by
 refine zf (rs:=[.tmp 10]) Tryz.func28 Tryz.ntmps28 Tryz.results28 ?_;simp only [aU];refine bP fun _ _ Z=>?_;simp (disch:=omega)[hq,hh];and_intros<;>(try omega);apply Z;apply aE;refine oA ⟨[],[],[],[],[]⟩ fun all hall _ Z=>?_;have ga3 : aL all 3 = some 21 := hall 3;refine aA 4 fun _ Y=>?_;simp (disch:=omega)[hq,hh,ga3];and_intros<;>(try omega);apply Y;simp only [List.drop];refine aX 21 (by simp <;> rfl) ?_;refine ⟨fun g1 => ?_, fun g1 => ?_⟩
 ·try simp at g1
  refine aA 2 fun _ Y=>?_;simp (disch:=omega)[hq,hh,ga3];and_intros<;>(try omega);apply Y;simp only [List.drop];refine zg ga3 fun _ Y=>?_;simp (disch:=omega)[hq,hh,ga3];refine dO (wB t.classes oN _ (by omega)) ?_;apply Y;simp (disch:=omega)[hq,hh,ga3];and_intros<;>(try omega);apply Z;refine zi ?_;refine ⟨fun c2=>?_,fun c2=>?_⟩
  ·try simp at c2
   refine bP fun _ _ Z=>?_;simp (disch:=omega)[hq,hh];and_intros<;>(try omega);apply Z;apply aG;apply bG;first | (simp [aQ, dG, bT, cU, *]; done) | (have e9 := (show k = t.kids.length from (by omega)); subst e9; simp [aQ, hC (SI.ofL nE l) n t x y was hid])
  ·simp at c2
 ·simp at g1
theorem Gk (n : Nat) (t : TN) (l : List EN) (x y : Int) (was : Nat) (σ : List (List D)) (h : SO t) (hc : t.classes.length ≤ 1000000) (htx : t.text.size ≤ 1000000) (hl : l.length ≤ 999999) (hk1 : t.kids.length ≤ 1000) (hwas : was ≤ 255) (ih : ∀ k ∈ t.kids, qK l n k) (hq : t.kind = 1) (hf : SI.fnd nE (SI.ofL nE l) t.ID = false) (hid : cU t = false) : Ct Tryz.prog 28 [iT t, .sl false (l.map cH), D.int x, D.int y, .v (.int .u8 was)] σ (fun r σ' => r = .v (.int .u8 (dG (SI.ofL nE l) (n + 1) t x y was : Nat)) ∧ σ' = σ) := by
 refine zf (rs:=[.tmp 10]) Tryz.func28 Tryz.ntmps28 Tryz.results28 ?_;simp only [aU];have hq1 : t.kind = 1 ↔ True := ⟨fun _ => trivial, fun _ => hq⟩;refine bP fun _ _ Z=>?_;simp (disch:=omega)[hq1,hf];and_intros<;>(try omega);apply Z;apply aE;refine oA ⟨[],[],[],[],[]⟩ fun all hall _ Z=>?_;have ga3 : aL all 3 = some 21 := hall 3;refine aA 4 fun _ Y=>?_;simp (disch:=omega)[hq1,hf,ga3];and_intros<;>(try omega);apply Y;simp only [List.drop];refine aX 21 (by simp <;> rfl) ?_;refine ⟨fun g1 => ?_, fun g1 => ?_⟩
 ·simp at g1
 ·try simp at g1
  simp (disch:=omega)[hq1,hf,ga3];and_intros<;>(try omega);apply Z;refine bZ (t := false) (by simp) (fun h => by cases h) (fun _ => ?_);apply aF;apply aB;refine bP fun _ _ Z=>?_;refine aA 3 fun _ Y=>?_;simp (disch:=omega)[hq1,hf];and_intros<;>(try omega);apply Y;simp only [List.drop];refine aI fun _ Y=>?_;simp (disch:=omega)[hq1,hf];refine dO (nY l t.ID _ hl) ?_;apply Y;simp (disch:=omega)[hq1,hf];and_intros<;>(try omega);apply Z;refine zk [1,2,3,4,5,10,11,12] ?_;refine bP fun _ _ Z=>?_;refine aA 2 fun _ Y=>?_;simp (disch:=omega)[hq1,hf];and_intros<;>(try omega);apply Y;simp only [List.drop];refine aI fun _ Y=>?_;simp (disch:=omega)[hq1,hf];refine dO (rG t _ h) ?_;apply Y;simp (disch:=omega)[hq1,hf];and_intros<;>(try omega);apply Z;apply aE;refine zk [1,2,3,4,5,10,11,12,13] ?_;refine oA ⟨[],[],[],[],[]⟩ fun all hall _ Z=>?_;have ga1 : aL all 1 = some 41 := hall 1;have ga6 : aL all 6 = some 46 := hall 6;refine aA 2 fun _ Y=>?_;simp (disch:=omega)[hq1,hf,ga1,ga6];and_intros<;>(try omega);apply Y;simp only [List.drop];refine aX 41 (by simp <;> rfl) ?_;refine ⟨fun g2 => ?_, fun g2 => ?_⟩
  ·simp at g2
  ·try simp at g2
   refine aA 5 fun _ Y=>?_;simp (disch:=omega)[hq1,hf,ga1,ga6];and_intros<;>(try omega);apply Y;simp only [List.drop];simp (disch:=omega)[hq1,hf,ga1,ga6];and_intros<;>(try omega);apply Z;refine bZ (t := false) (by simp) (fun h => by cases h) (fun _ => ?_);apply aF;apply aB;apply aE;refine zk [1,2,3,4,5,10,11,12,13] ?_;refine oA ⟨[],[],[],[],[]⟩ fun all hall _ Z=>?_;have ga1 : aL all 1 = some 70 := hall 1;have ga6 : aL all 6 = some 75 := hall 6;have ga10 : aL all 10 = some 79 := hall 10;have ga14 : aL all 14 = some 83 := hall 14;refine aA 2 fun _ Y=>?_;simp (disch:=omega)[hq1,hf,ga1,ga6,ga10,ga14];and_intros<;>(try omega);apply Y;simp only [List.drop];refine aX 70 (by simp <;> rfl) ?_;refine ⟨fun g3 => ?_, fun g3 => ?_⟩
   ·simp at g3
   ·try simp at g3
    refine aA 5 fun _ Y=>?_;simp (disch:=omega)[hq1,hf,ga1,ga6,ga10,ga14];and_intros<;>(try omega);apply Y;simp only [List.drop];refine aA 4 fun _ Y=>?_;simp (disch:=omega)[hq1,hf,ga1,ga6,ga10,ga14];and_intros<;>(try omega);apply Y;simp only [List.drop];refine aA 4 fun _ Y=>?_;simp (disch:=omega)[hq1,hf,ga1,ga6,ga10,ga14];and_intros<;>(try omega);apply Y;simp only [List.drop];simp (disch:=omega)[hq1,hf,ga1,ga6,ga10,ga14];and_intros<;>(try omega);apply Z;refine bZ (t := false) (by simp) (fun h => by cases h) (fun _ => ?_);apply aF;apply aB;apply aE;refine zk [1,2,3,4,5,10] ?_;refine bP fun _ _ Z=>?_;simp (disch:=omega)[hq1,hf];and_intros<;>(try omega);apply Z;apply aH;refine zk [1,2,3,4,10,92,93,94] ?_;refine dY (fun (k : Nat) => [(94, .d (.v (.int .i64 (k : Int)))), (4, .d (.v (.int .u8 (Az (SI.ofL nE l) n t x y was k : Nat)))), (17, .d (.any))]) (fun (k : Nat) => [[D.int t.ID, D.int t.kind, D.str t.tag, D.str t.text, .sl false (t.classes.map D.str), .sl false (t.attrs.map bW), .sl false (t.styles.map bR), .sl false (t.kids.map iX)], [D.int (bE (SI.ofL nE l) t.ID).x, D.int (bE (SI.ofL nE l) t.ID).y, D.int (bE (SI.ofL nE l) t.ID).w, D.int (bE (SI.ofL nE l) t.ID).h]]) [4, 17, 94, 95, 96, 97, 98, 99, 100, 101, 102, 103, 104] (fun (k : Nat) => k ≤ t.kids.length) (fun (k : Nat) => t.kids.length - k) (0) (by simp <;> rfl) ?_ (by simp) ?_ ?_
    ·first | (simp [dI, bT, cU, *]; done) | (have e9 := (show j = t.text.size from (by omega)); subst e9; simp [dI, bT, cU, *]; done) | (have e9 := (show max (fJ t) 0 = fJ t from (by omega)); simp [dI, bT, cU, *]; done) | (have e9 : bT t (SI.ofL nE l) x y was = was := (by unfold bT; rw [if_neg (by rw [hid]; decide), if_neg (by rw [hf]; decide), if_neg hq, if_neg (by omega)]); simp [dI, e9]; done)
    ·simp
    rintro k hk;simp only [List.cons_append, List.nil_append];have hkl := kB (SI.ofL nE l) n t x y was hwas k hk;refine bP fun _ _ Z=>?_;simp (disch:=omega)[hq1,hf];and_intros<;>(try omega);apply Z;apply aE;refine zi ?_;refine ⟨fun c4=>?_,fun c4=>?_⟩
    ·try simp at c4
     apply aF;apply aB;apply aE;apply aH;refine bP fun _ _ Z=>?_;simp (disch:=omega)[hq1,hf];and_intros<;>(try omega);apply Z;refine zk [1,2,3,4,10,17,92,93,94] ?_;refine mW fun _ _ Z=>?_;refine aA 5 fun _ Y=>?_;simp (disch:=omega)[hq1,hf];and_intros<;>(try omega);apply Y;simp only [List.drop];refine aI fun _ Y=>?_;simp (disch:=omega)[hq1,hf];refine dO (ih t.kids[k] (List.getElem_mem _) x y _ _ hkl) ?_;apply Y;simp (disch:=omega)[hq1,hf];and_intros<;>(try omega);apply Z;apply aN;apply aB;refine zk [1,2,3,4,10,17,92,93,94] ?_;refine mW fun _ _ Z=>?_;simp (disch:=omega)[hq1,hf];and_intros<;>(try omega);apply Z;refine bL (k + 1) ?_ ?_ (aW rfl ?_ (by simp) (by simp))
     ·omega
     ·try dsimp only
      omega
     ·simp (disch:=omega)[hq1,hf,gE]
    ·try simp at c4
     apply bB;apply bC;apply bA;apply aS;apply aB;refine bP fun _ _ Z=>?_;simp (disch:=omega)[hq1,hf];and_intros<;>(try omega);apply Z;apply aG;first | (simp [aQ, dG, bT, cU, *]; done) | (have e9 := (show k = t.kids.length from (by omega)); subst e9; simp [aQ, hC (SI.ofL nE l) n t x y was hid])
theorem Ii (n : Nat) (t : TN) (l : List EN) (x y : Int) (was : Nat) (σ : List (List D)) (h : SO t) (hc : t.classes.length ≤ 1000000) (htx : t.text.size ≤ 1000000) (hl : l.length ≤ 999999) (hk1 : t.kids.length ≤ 1000) (hwas : was ≤ 255) (ih : ∀ k ∈ t.kids, qK l n k) (hq : t.kind = 1) (hf : SI.fnd nE (SI.ofL nE l) t.ID = true) (hid : cU t = false) : Ct Tryz.prog 28 [iT t, .sl false (l.map cH), D.int x, D.int y, .v (.int .u8 was)] σ (fun r σ' => r = .v (.int .u8 (dG (SI.ofL nE l) (n + 1) t x y was : Nat)) ∧ σ' = σ) := by
 refine zf (rs:=[.tmp 10]) Tryz.func28 Tryz.ntmps28 Tryz.results28 ?_;simp only [aU];have hq1 : t.kind = 1 ↔ True := ⟨fun _ => trivial, fun _ => hq⟩;refine bP fun _ _ Z=>?_;simp (disch:=omega)[hq1,hf];and_intros<;>(try omega);apply Z;apply aE;refine oA ⟨[],[],[],[],[]⟩ fun all hall _ Z=>?_;have ga3 : aL all 3 = some 21 := hall 3;refine aA 4 fun _ Y=>?_;simp (disch:=omega)[hq1,hf,ga3];and_intros<;>(try omega);apply Y;simp only [List.drop];refine aX 21 (by simp <;> rfl) ?_;refine ⟨fun g1 => ?_, fun g1 => ?_⟩
 ·simp at g1
 ·try simp at g1
  simp (disch:=omega)[hq1,hf,ga3];and_intros<;>(try omega);apply Z;refine bZ (t := false) (by simp) (fun h => by cases h) (fun _ => ?_);apply aF;apply aB;refine bP fun _ _ Z=>?_;refine aA 3 fun _ Y=>?_;simp (disch:=omega)[hq1,hf];and_intros<;>(try omega);apply Y;simp only [List.drop];refine aI fun _ Y=>?_;simp (disch:=omega)[hq1,hf];refine dO (nY l t.ID _ hl) ?_;apply Y;simp (disch:=omega)[hq1,hf];and_intros<;>(try omega);apply Z;refine zk [1,2,3,4,5,10,11,12] ?_;refine bP fun _ _ Z=>?_;refine aA 2 fun _ Y=>?_;simp (disch:=omega)[hq1,hf];and_intros<;>(try omega);apply Y;simp only [List.drop];refine aI fun _ Y=>?_;simp (disch:=omega)[hq1,hf];refine dO (rG t _ h) ?_;apply Y;simp (disch:=omega)[hq1,hf];and_intros<;>(try omega);apply Z;apply aE;refine zk [1,2,3,4,5,10,11,12,13] ?_;refine oA ⟨[],[],[],[],[]⟩ fun all hall _ Z=>?_;have ga1 : aL all 1 = some 41 := hall 1;have ga6 : aL all 6 = some 46 := hall 6;refine aA 2 fun _ Y=>?_;simp (disch:=omega)[hq1,hf,ga1,ga6];and_intros<;>(try omega);apply Y;simp only [List.drop];refine aX 41 (by simp <;> rfl) ?_;refine ⟨fun g2 => ?_, fun g2 => ?_⟩
  ·try simp at g2
   refine aA 5 fun _ Y=>?_;simp (disch:=omega)[hq1,hf,ga1,ga6];and_intros<;>(try omega);apply Y;simp only [List.drop];refine aX 46 (by simp <;> rfl) ?_;refine ⟨fun g3 => ?_, fun g3 => ?_⟩
   ·try simp at g3
    simp (disch:=omega)[hq1,hf,ga1,ga6];and_intros<;>(try omega);apply Z;refine zi ?_;refine ⟨fun c4=>?_,fun c4=>?_⟩
    ·try simp at c4
     refine zk [1,2,3,4,5,10,11,12,13] ?_;refine bP fun _ _ Z=>?_;simp (disch:=omega)[hq1,hf];and_intros<;>(try omega);apply Z;apply aH;refine zk [1,2,3,4,5,10,11,12,13,15] ?_;refine dY (fun (j : Nat) => [(15, .d (.v (.int .i64 (j : Int)))), (4, .d (.v (.int .u8 (kM (bE (SI.ofL nE l) t.ID) t.text x j was : Nat))))]) (fun (j : Nat) => [[D.int t.ID, D.int t.kind, D.str t.tag, D.str t.text, .sl false (t.classes.map D.str), .sl false (t.attrs.map bW), .sl false (t.styles.map bR), .sl false (t.kids.map iX)], [D.int (bE (SI.ofL nE l) t.ID).x, D.int (bE (SI.ofL nE l) t.ID).y, D.int (bE (SI.ofL nE l) t.ID).w, D.int (bE (SI.ofL nE l) t.ID).h]]) [4, 15, 52, 53, 54, 55, 56, 57, 58, 59, 60, 61, 62, 63, 64, 65, 66, 67, 68] (fun (j : Nat) => j ≤ t.text.size) (fun (j : Nat) => t.text.size - j) (0) (by simp <;> rfl) ?_ (by simp) ?_ ?_
     ·simp [kM]
     ·simp
     rintro j hj;simp only [List.cons_append, List.nil_append];apply aE;refine bP fun _ _ Z=>?_;simp (disch:=omega)[hq1,hf];and_intros<;>(try omega);apply Z;refine zi ?_;refine ⟨fun c5=>?_,fun c5=>?_⟩
     ·try simp at c5
      apply aF;apply aB;apply aE;apply aH;refine zk [1,2,3,4,5,10,11,12,13,15] ?_;refine bP fun _ _ Z=>?_;refine aA 3 fun _ Y=>?_;simp (disch:=omega)[hq1,hf];and_intros<;>(try omega);apply Y;simp only [List.drop];refine aI fun _ Y=>?_;simp (disch:=omega)[hq1,hf];refine dO (wW (bE (SI.ofL nE l) t.ID).x j _) ?_;apply Y;simp (disch:=omega)[hq1,hf];and_intros<;>(try omega);apply Z;refine zi ?_;refine ⟨fun c6=>?_,fun c6=>?_⟩
      ·try simp at c6
       refine zk [1,2,3,4,5,10,11,12,13,15] ?_;refine mW fun _ _ Z=>?_;simp (disch:=omega)[hq1,hf];and_intros<;>(try omega);apply Z;apply aN;apply aB;refine zk [1,2,3,4,5,10,11,12,13,15] ?_;refine mW fun _ _ Z=>?_;simp (disch:=omega)[hq1,hf];and_intros<;>(try omega);apply Z;refine bL (j + 1) ?_ ?_ (aW rfl ?_ (by simp) (by simp))
       ·omega
       ·try dsimp only
        omega
       ·simp (disch:=omega)[hq1,hf,kM,iP, *]
      ·try simp at c6
       apply aF;apply aN;apply aB;refine zk [1,2,3,4,5,10,11,12,13,15] ?_;refine mW fun _ _ Z=>?_;simp (disch:=omega)[hq1,hf];and_intros<;>(try omega);apply Z;refine bL (j + 1) ?_ ?_ (aW rfl ?_ (by simp) (by simp))
       ·omega
       ·try dsimp only
        omega
       ·simp (disch:=omega)[hq1,hf,kM,iP, *]
     ·try simp at c5
      apply bB;apply bC;apply bA;apply aS;apply aB;apply aE;refine zk [1,2,3,4,5,10,11,12,13] ?_;refine oA ⟨[],[],[],[],[]⟩ fun all hall _ Z=>?_;have ga1 : aL all 1 = some 70 := hall 1;have ga6 : aL all 6 = some 75 := hall 6;have ga10 : aL all 10 = some 79 := hall 10;have ga14 : aL all 14 = some 83 := hall 14;refine aA 2 fun _ Y=>?_;simp (disch:=omega)[hq1,hf,ga1,ga6,ga10,ga14];and_intros<;>(try omega);apply Y;simp only [List.drop];refine aX 70 (by simp <;> rfl) ?_;refine ⟨fun g7 => ?_, fun g7 => ?_⟩
      ·try simp at g7
       refine aA 5 fun _ Y=>?_;simp (disch:=omega)[hq1,hf,ga1,ga6,ga10,ga14];and_intros<;>(try omega);apply Y;simp only [List.drop];refine aX 75 (by simp <;> rfl) ?_;refine ⟨fun g8 => ?_, fun g8 => ?_⟩
       ·simp at g8
       ·try simp at g8
        refine aA 4 fun _ Y=>?_;simp (disch:=omega)[hq1,hf,ga1,ga6,ga10,ga14];and_intros<;>(try omega);apply Y;simp only [List.drop];refine aA 4 fun _ Y=>?_;simp (disch:=omega)[hq1,hf,ga1,ga6,ga10,ga14];and_intros<;>(try omega);apply Y;simp only [List.drop];simp (disch:=omega)[hq1,hf,ga1,ga6,ga10,ga14];and_intros<;>(try omega);apply Z;refine bZ (t := false) (by simp) (fun h => by cases h) (fun _ => ?_);apply aF;apply aB;apply aE;refine zk [1,2,3,4,5,10] ?_;refine bP fun _ _ Z=>?_;simp (disch:=omega)[hq1,hf];and_intros<;>(try omega);apply Z;apply aH;refine zk [1,2,3,4,10,92,93,94] ?_;refine dY (fun (k : Nat) => [(94, .d (.v (.int .i64 (k : Int)))), (4, .d (.v (.int .u8 (Az (SI.ofL nE l) n t x y was k : Nat)))), (17, .d (.any))]) (fun (k : Nat) => [[D.int t.ID, D.int t.kind, D.str t.tag, D.str t.text, .sl false (t.classes.map D.str), .sl false (t.attrs.map bW), .sl false (t.styles.map bR), .sl false (t.kids.map iX)], [D.int (bE (SI.ofL nE l) t.ID).x, D.int (bE (SI.ofL nE l) t.ID).y, D.int (bE (SI.ofL nE l) t.ID).w, D.int (bE (SI.ofL nE l) t.ID).h]]) [4, 17, 94, 95, 96, 97, 98, 99, 100, 101, 102, 103, 104] (fun (k : Nat) => k ≤ t.kids.length) (fun (k : Nat) => t.kids.length - k) (0) (by simp <;> rfl) ?_ (by simp) ?_ ?_
        ·first | (simp [dI, bT, cU, *]; done) | (have e9 := (show j = t.text.size from (by omega)); subst e9; simp [dI, bT, cU, *]; done) | (have e9 := (show max (fJ t) 0 = fJ t from (by omega)); simp [dI, bT, cU, *]; done) | (have e9 : bT t (SI.ofL nE l) x y was = was := (by unfold bT; rw [if_neg (by rw [hid]; decide), if_neg (by rw [hf]; decide), if_neg hq, if_neg (by omega)]); simp [dI, e9]; done)
        ·simp
        rintro k hk;simp only [List.cons_append, List.nil_append];have hkl := kB (SI.ofL nE l) n t x y was hwas k hk;refine bP fun _ _ Z=>?_;simp (disch:=omega)[hq1,hf];and_intros<;>(try omega);apply Z;apply aE;refine zi ?_;refine ⟨fun c9=>?_,fun c9=>?_⟩
        ·try simp at c9
         apply aF;apply aB;apply aE;apply aH;refine bP fun _ _ Z=>?_;simp (disch:=omega)[hq1,hf];and_intros<;>(try omega);apply Z;refine zk [1,2,3,4,10,17,92,93,94] ?_;refine mW fun _ _ Z=>?_;refine aA 5 fun _ Y=>?_;simp (disch:=omega)[hq1,hf];and_intros<;>(try omega);apply Y;simp only [List.drop];refine aI fun _ Y=>?_;simp (disch:=omega)[hq1,hf];refine dO (ih t.kids[k] (List.getElem_mem _) x y _ _ hkl) ?_;apply Y;simp (disch:=omega)[hq1,hf];and_intros<;>(try omega);apply Z;apply aN;apply aB;refine zk [1,2,3,4,10,17,92,93,94] ?_;refine mW fun _ _ Z=>?_;simp (disch:=omega)[hq1,hf];and_intros<;>(try omega);apply Z;refine bL (k + 1) ?_ ?_ (aW rfl ?_ (by simp) (by simp))
         ·omega
         ·try dsimp only
          omega
         ·simp (disch:=omega)[hq1,hf,gE]
        ·try simp at c9
         apply bB;apply bC;apply bA;apply aS;apply aB;refine bP fun _ _ Z=>?_;simp (disch:=omega)[hq1,hf];and_intros<;>(try omega);apply Z;apply aG;first | (simp [aQ, dG, bT, cU, *]; done) | (have e9 := (show k = t.kids.length from (by omega)); subst e9; simp [aQ, hC (SI.ofL nE l) n t x y was hid])
      ·simp at g7
    ·try simp at c4
     apply aF;apply aB;apply aE;refine zk [1,2,3,4,5,10,11,12,13] ?_;refine oA ⟨[],[],[],[],[]⟩ fun all hall _ Z=>?_;have ga1 : aL all 1 = some 70 := hall 1;have ga6 : aL all 6 = some 75 := hall 6;have ga10 : aL all 10 = some 79 := hall 10;have ga14 : aL all 14 = some 83 := hall 14;refine aA 2 fun _ Y=>?_;simp (disch:=omega)[hq1,hf,ga1,ga6,ga10,ga14];and_intros<;>(try omega);apply Y;simp only [List.drop];refine aX 70 (by simp <;> rfl) ?_;refine ⟨fun g10 => ?_, fun g10 => ?_⟩
     ·try simp at g10
      refine aA 5 fun _ Y=>?_;simp (disch:=omega)[hq1,hf,ga1,ga6,ga10,ga14];and_intros<;>(try omega);apply Y;simp only [List.drop];refine aX 75 (by simp <;> rfl) ?_;refine ⟨fun g11 => ?_, fun g11 => ?_⟩
      ·simp at g11
      ·try simp at g11
       refine aA 4 fun _ Y=>?_;simp (disch:=omega)[hq1,hf,ga1,ga6,ga10,ga14];and_intros<;>(try omega);apply Y;simp only [List.drop];refine aA 4 fun _ Y=>?_;simp (disch:=omega)[hq1,hf,ga1,ga6,ga10,ga14];and_intros<;>(try omega);apply Y;simp only [List.drop];simp (disch:=omega)[hq1,hf,ga1,ga6,ga10,ga14];and_intros<;>(try omega);apply Z;refine bZ (t := false) (by simp) (fun h => by cases h) (fun _ => ?_);apply aF;apply aB;apply aE;refine zk [1,2,3,4,5,10] ?_;refine bP fun _ _ Z=>?_;simp (disch:=omega)[hq1,hf];and_intros<;>(try omega);apply Z;apply aH;refine zk [1,2,3,4,10,92,93,94] ?_;refine dY (fun (k : Nat) => [(94, .d (.v (.int .i64 (k : Int)))), (4, .d (.v (.int .u8 (Az (SI.ofL nE l) n t x y was k : Nat)))), (17, .d (.any))]) (fun (k : Nat) => [[D.int t.ID, D.int t.kind, D.str t.tag, D.str t.text, .sl false (t.classes.map D.str), .sl false (t.attrs.map bW), .sl false (t.styles.map bR), .sl false (t.kids.map iX)], [D.int (bE (SI.ofL nE l) t.ID).x, D.int (bE (SI.ofL nE l) t.ID).y, D.int (bE (SI.ofL nE l) t.ID).w, D.int (bE (SI.ofL nE l) t.ID).h]]) [4, 17, 94, 95, 96, 97, 98, 99, 100, 101, 102, 103, 104] (fun (k : Nat) => k ≤ t.kids.length) (fun (k : Nat) => t.kids.length - k) (0) (by simp <;> rfl) ?_ (by simp) ?_ ?_
       ·first | (simp [dI, bT, cU, *]; done) | (have e9 := (show j = t.text.size from (by omega)); subst e9; simp [dI, bT, cU, *]; done) | (have e9 := (show max (fJ t) 0 = fJ t from (by omega)); simp [dI, bT, cU, *]; done) | (have e9 : bT t (SI.ofL nE l) x y was = was := (by unfold bT; rw [if_neg (by rw [hid]; decide), if_neg (by rw [hf]; decide), if_neg hq, if_neg (by omega)]); simp [dI, e9]; done)
       ·simp
       rintro k hk;simp only [List.cons_append, List.nil_append];have hkl := kB (SI.ofL nE l) n t x y was hwas k hk;refine bP fun _ _ Z=>?_;simp (disch:=omega)[hq1,hf];and_intros<;>(try omega);apply Z;apply aE;refine zi ?_;refine ⟨fun c12=>?_,fun c12=>?_⟩
       ·try simp at c12
        apply aF;apply aB;apply aE;apply aH;refine bP fun _ _ Z=>?_;simp (disch:=omega)[hq1,hf];and_intros<;>(try omega);apply Z;refine zk [1,2,3,4,10,17,92,93,94] ?_;refine mW fun _ _ Z=>?_;refine aA 5 fun _ Y=>?_;simp (disch:=omega)[hq1,hf];and_intros<;>(try omega);apply Y;simp only [List.drop];refine aI fun _ Y=>?_;simp (disch:=omega)[hq1,hf];refine dO (ih t.kids[k] (List.getElem_mem _) x y _ _ hkl) ?_;apply Y;simp (disch:=omega)[hq1,hf];and_intros<;>(try omega);apply Z;apply aN;apply aB;refine zk [1,2,3,4,10,17,92,93,94] ?_;refine mW fun _ _ Z=>?_;simp (disch:=omega)[hq1,hf];and_intros<;>(try omega);apply Z;refine bL (k + 1) ?_ ?_ (aW rfl ?_ (by simp) (by simp))
        ·omega
        ·try dsimp only
         omega
        ·simp (disch:=omega)[hq1,hf,gE]
       ·try simp at c12
        apply bB;apply bC;apply bA;apply aS;apply aB;refine bP fun _ _ Z=>?_;simp (disch:=omega)[hq1,hf];and_intros<;>(try omega);apply Z;apply aG;first | (simp [aQ, dG, bT, cU, *]; done) | (have e9 := (show k = t.kids.length from (by omega)); subst e9; simp [aQ, hC (SI.ofL nE l) n t x y was hid])
     ·simp at g10
   ·simp at g3
  ·simp at g2
theorem Hr (n : Nat) (t : TN) (l : List EN) (x y : Int) (was : Nat) (σ : List (List D)) (h : SO t) (hc : t.classes.length ≤ 1000000) (htx : t.text.size ≤ 1000000) (hl : l.length ≤ 999999) (hk1 : t.kids.length ≤ 1000) (hwas : was ≤ 255) (ih : ∀ k ∈ t.kids, qK l n k) (hq : ¬ t.kind = 1) (hh : rC oN t.classes = false) (hf : SI.fnd nE (SI.ofL nE l) t.ID = false) (hid : cU t = false) : Ct Tryz.prog 28 [iT t, .sl false (l.map cH), D.int x, D.int y, .v (.int .u8 was)] σ (fun r σ' => r = .v (.int .u8 (dG (SI.ofL nE l) (n + 1) t x y was : Nat)) ∧ σ' = σ) := by
 refine zf (rs:=[.tmp 10]) Tryz.func28 Tryz.ntmps28 Tryz.results28 ?_;simp only [aU];refine bP fun _ _ Z=>?_;simp (disch:=omega)[hq,hh,hf];and_intros<;>(try omega);apply Z;apply aE;refine oA ⟨[],[],[],[],[]⟩ fun all hall _ Z=>?_;have ga3 : aL all 3 = some 21 := hall 3;refine aA 4 fun _ Y=>?_;simp (disch:=omega)[hq,hh,hf,ga3];and_intros<;>(try omega);apply Y;simp only [List.drop];refine aX 21 (by simp <;> rfl) ?_;refine ⟨fun g1 => ?_, fun g1 => ?_⟩
 ·try simp at g1
  refine aA 2 fun _ Y=>?_;simp (disch:=omega)[hq,hh,hf,ga3];and_intros<;>(try omega);apply Y;simp only [List.drop];refine zg ga3 fun _ Y=>?_;simp (disch:=omega)[hq,hh,hf,ga3];refine dO (wB t.classes oN _ (by omega)) ?_;apply Y;simp (disch:=omega)[hq,hh,hf,ga3];and_intros<;>(try omega);apply Z;refine zi ?_;refine ⟨fun c2=>?_,fun c2=>?_⟩
  ·simp at c2
  ·try simp at c2
   apply aF;apply aB;refine bP fun _ _ Z=>?_;refine aA 3 fun _ Y=>?_;simp (disch:=omega)[hq,hh,hf];and_intros<;>(try omega);apply Y;simp only [List.drop];refine aI fun _ Y=>?_;simp (disch:=omega)[hq,hh,hf];refine dO (nY l t.ID _ hl) ?_;apply Y;simp (disch:=omega)[hq,hh,hf];and_intros<;>(try omega);apply Z;refine zk [1,2,3,4,5,10,11,12] ?_;refine bP fun _ _ Z=>?_;refine aA 2 fun _ Y=>?_;simp (disch:=omega)[hq,hh,hf];and_intros<;>(try omega);apply Y;simp only [List.drop];refine aI fun _ Y=>?_;simp (disch:=omega)[hq,hh,hf];refine dO (rG t _ h) ?_;apply Y;simp (disch:=omega)[hq,hh,hf];and_intros<;>(try omega);apply Z;apply aE;refine zk [1,2,3,4,5,10,11,12,13] ?_;refine oA ⟨[],[],[],[],[]⟩ fun all hall _ Z=>?_;have ga1 : aL all 1 = some 41 := hall 1;have ga6 : aL all 6 = some 46 := hall 6;refine aA 2 fun _ Y=>?_;simp (disch:=omega)[hq,hh,hf,ga1,ga6];and_intros<;>(try omega);apply Y;simp only [List.drop];refine aX 41 (by simp <;> rfl) ?_;refine ⟨fun g3 => ?_, fun g3 => ?_⟩
   ·simp at g3
   ·try simp at g3
    refine aA 5 fun _ Y=>?_;simp (disch:=omega)[hq,hh,hf,ga1,ga6];and_intros<;>(try omega);apply Y;simp only [List.drop];simp (disch:=omega)[hq,hh,hf,ga1,ga6];and_intros<;>(try omega);apply Z;refine bZ (t := false) (by simp) (fun h => by cases h) (fun _ => ?_);apply aF;apply aB;apply aE;refine zk [1,2,3,4,5,10,11,12,13] ?_;refine oA ⟨[],[],[],[],[]⟩ fun all hall _ Z=>?_;have ga1 : aL all 1 = some 70 := hall 1;have ga6 : aL all 6 = some 75 := hall 6;have ga10 : aL all 10 = some 79 := hall 10;have ga14 : aL all 14 = some 83 := hall 14;refine aA 2 fun _ Y=>?_;simp (disch:=omega)[hq,hh,hf,ga1,ga6,ga10,ga14];and_intros<;>(try omega);apply Y;simp only [List.drop];refine aX 70 (by simp <;> rfl) ?_;refine ⟨fun g4 => ?_, fun g4 => ?_⟩
    ·simp at g4
    ·try simp at g4
     refine aA 5 fun _ Y=>?_;simp (disch:=omega)[hq,hh,hf,ga1,ga6,ga10,ga14];and_intros<;>(try omega);apply Y;simp only [List.drop];refine aA 4 fun _ Y=>?_;simp (disch:=omega)[hq,hh,hf,ga1,ga6,ga10,ga14];and_intros<;>(try omega);apply Y;simp only [List.drop];refine aA 4 fun _ Y=>?_;simp (disch:=omega)[hq,hh,hf,ga1,ga6,ga10,ga14];and_intros<;>(try omega);apply Y;simp only [List.drop];simp (disch:=omega)[hq,hh,hf,ga1,ga6,ga10,ga14];and_intros<;>(try omega);apply Z;refine bZ (t := false) (by simp) (fun h => by cases h) (fun _ => ?_);apply aF;apply aB;apply aE;refine zk [1,2,3,4,5,10] ?_;refine bP fun _ _ Z=>?_;simp (disch:=omega)[hq,hh,hf];and_intros<;>(try omega);apply Z;apply aH;refine zk [1,2,3,4,10,92,93,94] ?_;refine dY (fun (k : Nat) => [(94, .d (.v (.int .i64 (k : Int)))), (4, .d (.v (.int .u8 (Az (SI.ofL nE l) n t x y was k : Nat)))), (17, .d (.any))]) (fun (k : Nat) => [[D.int t.ID, D.int t.kind, D.str t.tag, D.str t.text, .sl false (t.classes.map D.str), .sl false (t.attrs.map bW), .sl false (t.styles.map bR), .sl false (t.kids.map iX)], [D.int (bE (SI.ofL nE l) t.ID).x, D.int (bE (SI.ofL nE l) t.ID).y, D.int (bE (SI.ofL nE l) t.ID).w, D.int (bE (SI.ofL nE l) t.ID).h]]) [4, 17, 94, 95, 96, 97, 98, 99, 100, 101, 102, 103, 104] (fun (k : Nat) => k ≤ t.kids.length) (fun (k : Nat) => t.kids.length - k) (0) (by simp <;> rfl) ?_ (by simp) ?_ ?_
     ·first | (simp [dI, bT, cU, *]; done) | (have e9 := (show j = t.text.size from (by omega)); subst e9; simp [dI, bT, cU, *]; done) | (have e9 := (show max (fJ t) 0 = fJ t from (by omega)); simp [dI, bT, cU, *]; done) | (have e9 : bT t (SI.ofL nE l) x y was = was := (by unfold bT; rw [if_neg (by rw [hid]; decide), if_neg (by rw [hf]; decide), if_neg hq, if_neg (by omega)]); simp [dI, e9]; done)
     ·simp
     rintro k hk;simp only [List.cons_append, List.nil_append];have hkl := kB (SI.ofL nE l) n t x y was hwas k hk;refine bP fun _ _ Z=>?_;simp (disch:=omega)[hq,hh,hf];and_intros<;>(try omega);apply Z;apply aE;refine zi ?_;refine ⟨fun c5=>?_,fun c5=>?_⟩
     ·try simp at c5
      apply aF;apply aB;apply aE;apply aH;refine bP fun _ _ Z=>?_;simp (disch:=omega)[hq,hh,hf];and_intros<;>(try omega);apply Z;refine zk [1,2,3,4,10,17,92,93,94] ?_;refine mW fun _ _ Z=>?_;refine aA 5 fun _ Y=>?_;simp (disch:=omega)[hq,hh,hf];and_intros<;>(try omega);apply Y;simp only [List.drop];refine aI fun _ Y=>?_;simp (disch:=omega)[hq,hh,hf];refine dO (ih t.kids[k] (List.getElem_mem _) x y _ _ hkl) ?_;apply Y;simp (disch:=omega)[hq,hh,hf];and_intros<;>(try omega);apply Z;apply aN;apply aB;refine zk [1,2,3,4,10,17,92,93,94] ?_;refine mW fun _ _ Z=>?_;simp (disch:=omega)[hq,hh,hf];and_intros<;>(try omega);apply Z;refine bL (k + 1) ?_ ?_ (aW rfl ?_ (by simp) (by simp))
      ·omega
      ·try dsimp only
       omega
      ·simp (disch:=omega)[hq,hh,hf,gE]
     ·try simp at c5
      apply bB;apply bC;apply bA;apply aS;apply aB;refine bP fun _ _ Z=>?_;simp (disch:=omega)[hq,hh,hf];and_intros<;>(try omega);apply Z;apply aG;first | (simp [aQ, dG, bT, cU, *]; done) | (have e9 := (show k = t.kids.length from (by omega)); subst e9; simp [aQ, hC (SI.ofL nE l) n t x y was hid])
 ·simp at g1
theorem Gb (n : Nat) (t : TN) (l : List EN) (x y : Int) (was : Nat) (σ : List (List D)) (h : SO t) (hc : t.classes.length ≤ 1000000) (htx : t.text.size ≤ 1000000) (hl : l.length ≤ 999999) (hk1 : t.kids.length ≤ 1000) (hwas : was ≤ 255) (ih : ∀ k ∈ t.kids, qK l n k) (hq : ¬ t.kind = 1) (hh : rC oN t.classes = false) (hf : SI.fnd nE (SI.ofL nE l) t.ID = true) (hid : cU t = false) : Ct Tryz.prog 28 [iT t, .sl false (l.map cH), D.int x, D.int y, .v (.int .u8 was)] σ (fun r σ' => r = .v (.int .u8 (dG (SI.ofL nE l) (n + 1) t x y was : Nat)) ∧ σ' = σ) := by
 refine zf (rs:=[.tmp 10]) Tryz.func28 Tryz.ntmps28 Tryz.results28 ?_;simp only [aU];refine bP fun _ _ Z=>?_;simp (disch:=omega)[hq,hh,hf];and_intros<;>(try omega);apply Z;apply aE;refine oA ⟨[],[],[],[],[]⟩ fun all hall _ Z=>?_;have ga3 : aL all 3 = some 21 := hall 3;refine aA 4 fun _ Y=>?_;simp (disch:=omega)[hq,hh,hf,ga3];and_intros<;>(try omega);apply Y;simp only [List.drop];refine aX 21 (by simp <;> rfl) ?_;refine ⟨fun g1 => ?_, fun g1 => ?_⟩
 ·try simp at g1
  refine aA 2 fun _ Y=>?_;simp (disch:=omega)[hq,hh,hf,ga3];and_intros<;>(try omega);apply Y;simp only [List.drop];refine zg ga3 fun _ Y=>?_;simp (disch:=omega)[hq,hh,hf,ga3];refine dO (wB t.classes oN _ (by omega)) ?_;apply Y;simp (disch:=omega)[hq,hh,hf,ga3];and_intros<;>(try omega);apply Z;refine zi ?_;refine ⟨fun c2=>?_,fun c2=>?_⟩
  ·simp at c2
  ·try simp at c2
   apply aF;apply aB;refine bP fun _ _ Z=>?_;refine aA 3 fun _ Y=>?_;simp (disch:=omega)[hq,hh,hf];and_intros<;>(try omega);apply Y;simp only [List.drop];refine aI fun _ Y=>?_;simp (disch:=omega)[hq,hh,hf];refine dO (nY l t.ID _ hl) ?_;apply Y;simp (disch:=omega)[hq,hh,hf];and_intros<;>(try omega);apply Z;refine zk [1,2,3,4,5,10,11,12] ?_;refine bP fun _ _ Z=>?_;refine aA 2 fun _ Y=>?_;simp (disch:=omega)[hq,hh,hf];and_intros<;>(try omega);apply Y;simp only [List.drop];refine aI fun _ Y=>?_;simp (disch:=omega)[hq,hh,hf];refine dO (rG t _ h) ?_;apply Y;simp (disch:=omega)[hq,hh,hf];and_intros<;>(try omega);apply Z;apply aE;refine zk [1,2,3,4,5,10,11,12,13] ?_;refine oA ⟨[],[],[],[],[]⟩ fun all hall _ Z=>?_;have ga1 : aL all 1 = some 41 := hall 1;have ga6 : aL all 6 = some 46 := hall 6;refine aA 2 fun _ Y=>?_;simp (disch:=omega)[hq,hh,hf,ga1,ga6];and_intros<;>(try omega);apply Y;simp only [List.drop];refine aX 41 (by simp <;> rfl) ?_;refine ⟨fun g3 => ?_, fun g3 => ?_⟩
   ·try simp at g3
    refine aA 5 fun _ Y=>?_;simp (disch:=omega)[hq,hh,hf,ga1,ga6];and_intros<;>(try omega);apply Y;simp only [List.drop];refine aX 46 (by simp <;> rfl) ?_;refine ⟨fun g4 => ?_, fun g4 => ?_⟩
    ·simp at g4
    ·try simp at g4
     simp (disch:=omega)[hq,hh,hf,ga1,ga6];and_intros<;>(try omega);apply Z;refine bZ (t := false) (by simp) (fun h => by cases h) (fun _ => ?_);apply aF;apply aB;apply aE;refine zk [1,2,3,4,5,10,11,12,13] ?_;refine oA ⟨[],[],[],[],[]⟩ fun all hall _ Z=>?_;have ga1 : aL all 1 = some 70 := hall 1;have ga6 : aL all 6 = some 75 := hall 6;have ga10 : aL all 10 = some 79 := hall 10;have ga14 : aL all 14 = some 83 := hall 14;refine aA 2 fun _ Y=>?_;simp (disch:=omega)[hq,hh,hf,ga1,ga6,ga10,ga14];and_intros<;>(try omega);apply Y;simp only [List.drop];refine aX 70 (by simp <;> rfl) ?_;refine ⟨fun g5 => ?_, fun g5 => ?_⟩
     ·try simp at g5
      refine aA 5 fun _ Y=>?_;simp (disch:=omega)[hq,hh,hf,ga1,ga6,ga10,ga14];and_intros<;>(try omega);apply Y;simp only [List.drop];refine aX 75 (by simp <;> rfl) ?_;refine ⟨fun g6 => ?_, fun g6 => ?_⟩
      ·try simp at g6
       refine aA 4 fun _ Y=>?_;simp (disch:=omega)[hq,hh,hf,ga1,ga6,ga10,ga14];and_intros<;>(try omega);apply Y;simp only [List.drop];refine aX 79 (by simp <;> rfl) ?_;refine ⟨fun g7 => ?_, fun g7 => ?_⟩
       ·try simp at g7
        refine aA 4 fun _ Y=>?_;simp (disch:=omega)[hq,hh,hf,ga1,ga6,ga10,ga14];and_intros<;>(try omega);apply Y;simp only [List.drop];refine aX 83 (by simp <;> rfl) ?_;refine ⟨fun g8 => ?_, fun g8 => ?_⟩
        ·try simp at g8
         refine aA 3 fun _ Y=>?_;simp (disch:=omega)[hq,hh,hf,ga1,ga6,ga10,ga14];and_intros<;>(try omega);apply Y;simp only [List.drop];refine zg ga14 fun _ Y=>?_;simp (disch:=omega)[hq,hh,hf,ga1,ga6,ga10,ga14];refine dO (Gu (bE (SI.ofL nE l) t.ID) x y _) ?_;apply Y;simp (disch:=omega)[hq,hh,hf,ga1,ga6,ga10,ga14];and_intros<;>(try omega);apply Z;refine zi ?_;refine ⟨fun c9=>?_,fun c9=>?_⟩
         ·try simp at c9
          refine zk [1,2,3,4,5,10,13] ?_;refine mW fun _ _ Z=>?_;simp (disch:=omega)[hq,hh,hf];and_intros<;>(try omega);apply Z;apply aB;apply aE;refine bP fun _ _ Z=>?_;simp (disch:=omega)[hq,hh,hf];and_intros<;>(try omega);apply Z;apply aH;refine zk [1,2,3,4,10,92,93,94] ?_;refine dY (fun (k : Nat) => [(94, .d (.v (.int .i64 (k : Int)))), (4, .d (.v (.int .u8 (Az (SI.ofL nE l) n t x y was k : Nat)))), (17, .d (.any))]) (fun (k : Nat) => [[D.int t.ID, D.int t.kind, D.str t.tag, D.str t.text, .sl false (t.classes.map D.str), .sl false (t.attrs.map bW), .sl false (t.styles.map bR), .sl false (t.kids.map iX)], [D.int (bE (SI.ofL nE l) t.ID).x, D.int (bE (SI.ofL nE l) t.ID).y, D.int (bE (SI.ofL nE l) t.ID).w, D.int (bE (SI.ofL nE l) t.ID).h]]) [4, 17, 94, 95, 96, 97, 98, 99, 100, 101, 102, 103, 104] (fun (k : Nat) => k ≤ t.kids.length) (fun (k : Nat) => t.kids.length - k) (0) (by simp <;> rfl) ?_ (by simp) ?_ ?_
          ·first | (simp [dI, bT, cU, *]; done) | (have e9 := (show j = t.text.size from (by omega)); subst e9; simp [dI, bT, cU, *]; done) | (have e9 := (show max (fJ t) 0 = fJ t from (by omega)); simp [dI, bT, cU, *]; done) | (have e9 : bT t (SI.ofL nE l) x y was = was := (by unfold bT; rw [if_neg (by rw [hid]; decide), if_neg (by rw [hf]; decide), if_neg hq, if_neg (by omega)]); simp [dI, e9]; done)
          ·simp
          rintro k hk;simp only [List.cons_append, List.nil_append];have hkl := kB (SI.ofL nE l) n t x y was hwas k hk;refine bP fun _ _ Z=>?_;simp (disch:=omega)[hq,hh,hf];and_intros<;>(try omega);apply Z;apply aE;refine zi ?_;refine ⟨fun c10=>?_,fun c10=>?_⟩
          ·try simp at c10
           apply aF;apply aB;apply aE;apply aH;refine bP fun _ _ Z=>?_;simp (disch:=omega)[hq,hh,hf];and_intros<;>(try omega);apply Z;refine zk [1,2,3,4,10,17,92,93,94] ?_;refine mW fun _ _ Z=>?_;refine aA 5 fun _ Y=>?_;simp (disch:=omega)[hq,hh,hf];and_intros<;>(try omega);apply Y;simp only [List.drop];refine aI fun _ Y=>?_;simp (disch:=omega)[hq,hh,hf];refine dO (ih t.kids[k] (List.getElem_mem _) x y _ _ hkl) ?_;apply Y;simp (disch:=omega)[hq,hh,hf];and_intros<;>(try omega);apply Z;apply aN;apply aB;refine zk [1,2,3,4,10,17,92,93,94] ?_;refine mW fun _ _ Z=>?_;simp (disch:=omega)[hq,hh,hf];and_intros<;>(try omega);apply Z;refine bL (k + 1) ?_ ?_ (aW rfl ?_ (by simp) (by simp))
           ·omega
           ·try dsimp only
            omega
           ·simp (disch:=omega)[hq,hh,hf,gE]
          ·try simp at c10
           apply bB;apply bC;apply bA;apply aS;apply aB;refine bP fun _ _ Z=>?_;simp (disch:=omega)[hq,hh,hf];and_intros<;>(try omega);apply Z;apply aG;first | (simp [aQ, dG, bT, cU, *]; done) | (have e9 := (show k = t.kids.length from (by omega)); subst e9; simp [aQ, hC (SI.ofL nE l) n t x y was hid])
         ·try simp at c9
          apply aF;apply aB;apply aE;refine zk [1,2,3,4,5,10] ?_;refine bP fun _ _ Z=>?_;simp (disch:=omega)[hq,hh,hf];and_intros<;>(try omega);apply Z;apply aH;refine zk [1,2,3,4,10,92,93,94] ?_;refine dY (fun (k : Nat) => [(94, .d (.v (.int .i64 (k : Int)))), (4, .d (.v (.int .u8 (Az (SI.ofL nE l) n t x y was k : Nat)))), (17, .d (.any))]) (fun (k : Nat) => [[D.int t.ID, D.int t.kind, D.str t.tag, D.str t.text, .sl false (t.classes.map D.str), .sl false (t.attrs.map bW), .sl false (t.styles.map bR), .sl false (t.kids.map iX)], [D.int (bE (SI.ofL nE l) t.ID).x, D.int (bE (SI.ofL nE l) t.ID).y, D.int (bE (SI.ofL nE l) t.ID).w, D.int (bE (SI.ofL nE l) t.ID).h]]) [4, 17, 94, 95, 96, 97, 98, 99, 100, 101, 102, 103, 104] (fun (k : Nat) => k ≤ t.kids.length) (fun (k : Nat) => t.kids.length - k) (0) (by simp <;> rfl) ?_ (by simp) ?_ ?_
          ·first | (simp [dI, bT, cU, *]; done) | (have e9 := (show j = t.text.size from (by omega)); subst e9; simp [dI, bT, cU, *]; done) | (have e9 := (show max (fJ t) 0 = fJ t from (by omega)); simp [dI, bT, cU, *]; done) | (have e9 : bT t (SI.ofL nE l) x y was = was := (by unfold bT; rw [if_neg (by rw [hid]; decide), if_neg (by rw [hf]; decide), if_neg hq, if_neg (by omega)]); simp [dI, e9]; done)
          ·simp
          rintro k hk;simp only [List.cons_append, List.nil_append];have hkl := kB (SI.ofL nE l) n t x y was hwas k hk;refine bP fun _ _ Z=>?_;simp (disch:=omega)[hq,hh,hf];and_intros<;>(try omega);apply Z;apply aE;refine zi ?_;refine ⟨fun c11=>?_,fun c11=>?_⟩
          ·try simp at c11
           apply aF;apply aB;apply aE;apply aH;refine bP fun _ _ Z=>?_;simp (disch:=omega)[hq,hh,hf];and_intros<;>(try omega);apply Z;refine zk [1,2,3,4,10,17,92,93,94] ?_;refine mW fun _ _ Z=>?_;refine aA 5 fun _ Y=>?_;simp (disch:=omega)[hq,hh,hf];and_intros<;>(try omega);apply Y;simp only [List.drop];refine aI fun _ Y=>?_;simp (disch:=omega)[hq,hh,hf];refine dO (ih t.kids[k] (List.getElem_mem _) x y _ _ hkl) ?_;apply Y;simp (disch:=omega)[hq,hh,hf];and_intros<;>(try omega);apply Z;apply aN;apply aB;refine zk [1,2,3,4,10,17,92,93,94] ?_;refine mW fun _ _ Z=>?_;simp (disch:=omega)[hq,hh,hf];and_intros<;>(try omega);apply Z;refine bL (k + 1) ?_ ?_ (aW rfl ?_ (by simp) (by simp))
           ·omega
           ·try dsimp only
            omega
           ·simp (disch:=omega)[hq,hh,hf,gE]
          ·try simp at c11
           apply bB;apply bC;apply bA;apply aS;apply aB;refine bP fun _ _ Z=>?_;simp (disch:=omega)[hq,hh,hf];and_intros<;>(try omega);apply Z;apply aG;first | (simp [aQ, dG, bT, cU, *]; done) | (have e9 := (show k = t.kids.length from (by omega)); subst e9; simp [aQ, hC (SI.ofL nE l) n t x y was hid])
        ·try simp at g8
         simp (disch:=omega)[hq,hh,hf,ga1,ga6,ga10,ga14];and_intros<;>(try omega);apply Z;refine bZ (t := false) (by simp) (fun h => by cases h) (fun _ => ?_);apply aF;apply aB;apply aE;refine zk [1,2,3,4,5,10] ?_;refine bP fun _ _ Z=>?_;simp (disch:=omega)[hq,hh,hf];and_intros<;>(try omega);apply Z;apply aH;refine zk [1,2,3,4,10,92,93,94] ?_;refine dY (fun (k : Nat) => [(94, .d (.v (.int .i64 (k : Int)))), (4, .d (.v (.int .u8 (Az (SI.ofL nE l) n t x y was k : Nat)))), (17, .d (.any))]) (fun (k : Nat) => [[D.int t.ID, D.int t.kind, D.str t.tag, D.str t.text, .sl false (t.classes.map D.str), .sl false (t.attrs.map bW), .sl false (t.styles.map bR), .sl false (t.kids.map iX)], [D.int (bE (SI.ofL nE l) t.ID).x, D.int (bE (SI.ofL nE l) t.ID).y, D.int (bE (SI.ofL nE l) t.ID).w, D.int (bE (SI.ofL nE l) t.ID).h]]) [4, 17, 94, 95, 96, 97, 98, 99, 100, 101, 102, 103, 104] (fun (k : Nat) => k ≤ t.kids.length) (fun (k : Nat) => t.kids.length - k) (0) (by simp <;> rfl) ?_ (by simp) ?_ ?_
         ·first | (simp [dI, bT, cU, *]; done) | (have e9 := (show j = t.text.size from (by omega)); subst e9; simp [dI, bT, cU, *]; done) | (have e9 := (show max (fJ t) 0 = fJ t from (by omega)); simp [dI, bT, cU, *]; done) | (have e9 : bT t (SI.ofL nE l) x y was = was := (by unfold bT; rw [if_neg (by rw [hid]; decide), if_neg (by rw [hf]; decide), if_neg hq, if_neg (by omega)]); simp [dI, e9]; done)
         ·simp
         rintro k hk;simp only [List.cons_append, List.nil_append];have hkl := kB (SI.ofL nE l) n t x y was hwas k hk;refine bP fun _ _ Z=>?_;simp (disch:=omega)[hq,hh,hf];and_intros<;>(try omega);apply Z;apply aE;refine zi ?_;refine ⟨fun c12=>?_,fun c12=>?_⟩
         ·try simp at c12
          apply aF;apply aB;apply aE;apply aH;refine bP fun _ _ Z=>?_;simp (disch:=omega)[hq,hh,hf];and_intros<;>(try omega);apply Z;refine zk [1,2,3,4,10,17,92,93,94] ?_;refine mW fun _ _ Z=>?_;refine aA 5 fun _ Y=>?_;simp (disch:=omega)[hq,hh,hf];and_intros<;>(try omega);apply Y;simp only [List.drop];refine aI fun _ Y=>?_;simp (disch:=omega)[hq,hh,hf];refine dO (ih t.kids[k] (List.getElem_mem _) x y _ _ hkl) ?_;apply Y;simp (disch:=omega)[hq,hh,hf];and_intros<;>(try omega);apply Z;apply aN;apply aB;refine zk [1,2,3,4,10,17,92,93,94] ?_;refine mW fun _ _ Z=>?_;simp (disch:=omega)[hq,hh,hf];and_intros<;>(try omega);apply Z;refine bL (k + 1) ?_ ?_ (aW rfl ?_ (by simp) (by simp))
          ·omega
          ·try dsimp only
           omega
          ·simp (disch:=omega)[hq,hh,hf,gE]
         ·try simp at c12
          apply bB;apply bC;apply bA;apply aS;apply aB;refine bP fun _ _ Z=>?_;simp (disch:=omega)[hq,hh,hf];and_intros<;>(try omega);apply Z;apply aG;first | (simp [aQ, dG, bT, cU, *]; done) | (have e9 := (show k = t.kids.length from (by omega)); subst e9; simp [aQ, hC (SI.ofL nE l) n t x y was hid])
       ·try simp at g7
        refine aA 4 fun _ Y=>?_;simp (disch:=omega)[hq,hh,hf,ga1,ga6,ga10,ga14];and_intros<;>(try omega);apply Y;simp only [List.drop];simp (disch:=omega)[hq,hh,hf,ga1,ga6,ga10,ga14];and_intros<;>(try omega);apply Z;refine bZ (t := false) (by simp) (fun h => by cases h) (fun _ => ?_);apply aF;apply aB;apply aE;refine zk [1,2,3,4,5,10] ?_;refine bP fun _ _ Z=>?_;simp (disch:=omega)[hq,hh,hf];and_intros<;>(try omega);apply Z;apply aH;refine zk [1,2,3,4,10,92,93,94] ?_;refine dY (fun (k : Nat) => [(94, .d (.v (.int .i64 (k : Int)))), (4, .d (.v (.int .u8 (Az (SI.ofL nE l) n t x y was k : Nat)))), (17, .d (.any))]) (fun (k : Nat) => [[D.int t.ID, D.int t.kind, D.str t.tag, D.str t.text, .sl false (t.classes.map D.str), .sl false (t.attrs.map bW), .sl false (t.styles.map bR), .sl false (t.kids.map iX)], [D.int (bE (SI.ofL nE l) t.ID).x, D.int (bE (SI.ofL nE l) t.ID).y, D.int (bE (SI.ofL nE l) t.ID).w, D.int (bE (SI.ofL nE l) t.ID).h]]) [4, 17, 94, 95, 96, 97, 98, 99, 100, 101, 102, 103, 104] (fun (k : Nat) => k ≤ t.kids.length) (fun (k : Nat) => t.kids.length - k) (0) (by simp <;> rfl) ?_ (by simp) ?_ ?_
        ·first | (simp [dI, bT, cU, *]; done) | (have e9 := (show j = t.text.size from (by omega)); subst e9; simp [dI, bT, cU, *]; done) | (have e9 := (show max (fJ t) 0 = fJ t from (by omega)); simp [dI, bT, cU, *]; done) | (have e9 : bT t (SI.ofL nE l) x y was = was := (by unfold bT; rw [if_neg (by rw [hid]; decide), if_neg (by rw [hf]; decide), if_neg hq, if_neg (by omega)]); simp [dI, e9]; done)
        ·simp
        rintro k hk;simp only [List.cons_append, List.nil_append];have hkl := kB (SI.ofL nE l) n t x y was hwas k hk;refine bP fun _ _ Z=>?_;simp (disch:=omega)[hq,hh,hf];and_intros<;>(try omega);apply Z;apply aE;refine zi ?_;refine ⟨fun c13=>?_,fun c13=>?_⟩
        ·try simp at c13
         apply aF;apply aB;apply aE;apply aH;refine bP fun _ _ Z=>?_;simp (disch:=omega)[hq,hh,hf];and_intros<;>(try omega);apply Z;refine zk [1,2,3,4,10,17,92,93,94] ?_;refine mW fun _ _ Z=>?_;refine aA 5 fun _ Y=>?_;simp (disch:=omega)[hq,hh,hf];and_intros<;>(try omega);apply Y;simp only [List.drop];refine aI fun _ Y=>?_;simp (disch:=omega)[hq,hh,hf];refine dO (ih t.kids[k] (List.getElem_mem _) x y _ _ hkl) ?_;apply Y;simp (disch:=omega)[hq,hh,hf];and_intros<;>(try omega);apply Z;apply aN;apply aB;refine zk [1,2,3,4,10,17,92,93,94] ?_;refine mW fun _ _ Z=>?_;simp (disch:=omega)[hq,hh,hf];and_intros<;>(try omega);apply Z;refine bL (k + 1) ?_ ?_ (aW rfl ?_ (by simp) (by simp))
         ·omega
         ·try dsimp only
          omega
         ·simp (disch:=omega)[hq,hh,hf,gE]
        ·try simp at c13
         apply bB;apply bC;apply bA;apply aS;apply aB;refine bP fun _ _ Z=>?_;simp (disch:=omega)[hq,hh,hf];and_intros<;>(try omega);apply Z;apply aG;first | (simp [aQ, dG, bT, cU, *]; done) | (have e9 := (show k = t.kids.length from (by omega)); subst e9; simp [aQ, hC (SI.ofL nE l) n t x y was hid])
      ·simp at g6
     ·simp at g5
   ·simp at g3
 ·simp at g1
end Go.Proofs.YtighdhfgcdjmeaaGreatDoor

