import Derived.Test.YtighdhfgcdjmeaaGreatDoorWkS7
import Derived.Test.YtighdhfgcdjmeaaGreatDoorScRep
import Derived.Test.YtighdhfgcdjmeaaGreatDoorScJoin
import Derived.Test.YtighdhfgcdjmeaaGreatDoorVmS4
namespace Go.Proofs.YtighdhfgcdjmeaaGreatDoor
open Go Go.Vm
set_option maxRecDepth 20000
set_option linter.all false
set_option maxHeartbeats 8000000
@[simp] theorem Ak (base w k : Nat) : sD base w (k + 1) = sD base w k ++ [.slo (base + k) 0 w w] := by simp [sD, List.range_succ]
@[simp] theorem Vv (base w k : Nat) : (∀ d, d ∈ sD base w k → d.ncells = 1) ↔ True := ⟨fun _ => trivial, fun _ d hd => by unfold sD at hd; obtain ⟨y, _, rfl⟩ := List.mem_map.1 hd; rfl⟩
@[simp] theorem Vb (base w : Nat) : sD base w 0 = [] := rfl
def RowsB (w : Nat) (X : List (List D)) : Prop := ∀ r ∈ X, ∃ row, r = List.replicate w iK ++ row
theorem RowsB.snoc {w : Nat} {X : List (List D)} (h : RowsB w X) (row : List D) : RowsB w (X ++ [List.replicate w iK ++ row]) := fun r hr => by
 rcases List.mem_append.1 hr with hr | hr
 ·exact h r hr
 ·simp at hr; exact ⟨row, hr⟩
theorem RowsB.at {w : Nat} {X : List (List D)} (h : RowsB w X) (σ Z : List (List D)) (j : Nat) (hj : j < X.length) : ∃ row, (σ ++ (X ++ Z))[σ.length + j]? = some (List.replicate w iK ++ row) := by
 obtain ⟨row, hr⟩ := h X[j] (List.getElem_mem hj);refine ⟨row, ?_⟩;rw [List.getElem?_append_right (by omega), show σ.length + j - σ.length = j by omega, List.getElem?_append_left hj, List.getElem?_eq_getElem hj, hr]
theorem RowsB.ok {w : Nat} {X : List (List D)} (h : RowsB w X) (σ Z : List (List D)) : fH (σ ++ (X ++ Z)) σ.length w X.length := fun j hj => by
 obtain ⟨row, hr⟩ := h.at σ Z j hj;have e : dP (σ ++ (X ++ Z)) (σ.length + j) = List.replicate w iK ++ row := by unfold dP; rw [hr]; rfl
 exact ⟨by rw [e]; exact hr, by rw [e]; simp⟩
theorem RowsB.px {w : Nat} {X : List (List D)} (h : RowsB w X) (σ Z : List (List D)) : Px (σ ++ (X ++ Z)) σ.length w X.length (fun _ _ => 32) := fun j i hj hi => by
 obtain ⟨row, hr⟩ := h.at σ Z j hj;unfold dP;rw [hr];show (List.replicate w iK ++ row)[i]? = _
 rw [List.getElem?_append_left (by simpa using hi), List.getElem?_replicate, if_pos hi];rfl
theorem Rn {σ Z τ : List (List D)} (h : ∀ m, m < σ.length → τ[m]? = (σ ++ Z)[m]?) : ∃ J, τ = σ ++ J := ⟨τ.drop σ.length, List.ext_getElem? fun i => by
 by_cases hi : i < σ.length
 ·rw [h i hi, List.getElem?_append_left hi, List.getElem?_append_left hi]
 ·rw [List.getElem?_append_right (by omega), List.getElem?_drop, show σ.length + (i - σ.length) = i by omega]⟩
theorem Lm : rD Tryz.prog 84 9 := ⟨5, Tryz.underlying84, Tryz.underlying5, Tryz.underlying9⟩
theorem Sb (σ X : List (List D)) (c : List D) : (σ ++ (X ++ [c]))[σ.length + X.length]? = some c := by
 rw [← List.append_assoc, ← List.length_append]; simp
theorem Gi (n : Nat) (t : TN) (l : List EN) (wd hg : Int) (σ : List (List D)) (hn : n ≤ 1000) (hgt : TG t) (hct : iM t ≤ n) (hl : l.length ≤ 999999) : Ct Tryz.prog 10 [iT t, .sl false (l.map cH), D.int wd, D.int hg] σ (fun r σ' => r = .sl false ((mJ (SI.ofL nE l) n t wd hg).map D.str) ∧ ∃ J, σ' = σ ++ J) := by
 refine zf (rs:=[.tmp 8]) Tryz.func10 Tryz.ntmps10 Tryz.results10 ?_;simp only [aU];obtain ⟨hw1, hw2⟩ := iC wd 200 (by omega);obtain ⟨hh1, hh2⟩ := iC hg 100 (by omega);unfold mJ;generalize lP wd 200 = w at hw1 hw2 ⊢;generalize lP hg 100 = h at hh1 hh2 ⊢;refine zr ⟨[10,22,39],[],[],[],[41]⟩ fun _ _ Z=>?_;simp (disch:=omega)[hw1,hh1,bX];and_intros<;>(try omega);apply Z;refine zr ⟨[10,22,39],[],[],[],[41]⟩ fun _ _ Z=>?_;refine aA 1 fun _ Y=>?_;simp (disch:=omega)[hw1,hh1,bX];and_intros<;>(try omega);apply Y;simp only [List.drop];refine aI fun _ Y=>?_;simp (disch:=omega)[hw1,hh1,bX];refine dO (Dn wd 0 200 _) ?_;apply Y;refine aA 1 fun _ Y=>?_;simp (disch:=omega)[hw1,hh1,bX];and_intros<;>(try omega);apply Y;simp only [List.drop];refine aI fun _ Y=>?_;simp (disch:=omega)[hw1,hh1,bX];refine dO (Dn hg 0 100 _) ?_;apply Y;simp (disch:=omega)[hw1,hh1,bX];and_intros<;>(try omega);apply Z;refine zr ⟨[10,22,39],[],[],[],[41]⟩ fun _ _ Z=>?_;refine aA 1 fun _ Y=>?_;simp (disch:=omega)[hw1,hh1,bX];and_intros<;>(try omega);apply Y;simp only [List.drop];refine aI fun _ Y=>?_;simp (disch:=omega)[hw1,hh1,bX];refine dO (Oq l _ hl) ?_;apply Y;simp (disch:=omega)[hw1,hh1,bX];and_intros<;>(try omega);apply Z;refine zr ⟨[10,22,39],[],[],[],[41]⟩ fun _ _ Z=>?_;simp (disch:=omega)[hw1,hh1,bX];and_intros<;>(try omega);apply Z;apply aE;refine zk [1,2,3,4,8,9] ?_;refine zr ⟨[10,22,39],[],[],[],[41]⟩ fun _ _ Z=>?_;simp (disch:=omega)[hw1,hh1,bX];and_intros<;>(try omega);apply Z;apply aH;refine zk [1,2,4,8,9,19,20] ?_;refine gP (fun (X : List (List D)) => [(20, .d (.v (.int .i64 (X.length : Int))))]) (fun (X : List (List D)) => [[D.int t.ID, D.int t.kind, D.str t.tag, D.str t.text, .sl false (t.classes.map D.str), .sl false (t.attrs.map bW), .sl false (t.styles.map bR), .sl false (t.kids.map iX)], [.sl true (sD σ.length w X.length)]]) (fun (X : List (List D)) => σ ++ X) [20, 21, 22, 23, 24, 25, 26, 27, 28] (fun (X : List (List D)) => X.length ≤ h ∧ RowsB w X) (fun (X : List (List D)) => h - X.length) ([]) (by simp <;> rfl) ?_ (by simp) (by simp) ?_ ?_
 ·simp [Vb]
 ·simp [RowsB]
 rintro X ⟨hX1, hX2⟩;simp only [List.cons_append, List.nil_append];refine zr ⟨[10,22,39],[],[],[],[41]⟩ fun _ _ Z=>?_;simp (disch:=omega)[hw1,hh1,bX];and_intros<;>(try omega);apply Z;apply aE;refine zi ?_;refine ⟨fun c1=>?_,fun c1=>?_⟩
 ·try simp at c1
  apply aF;apply aB;apply aE;apply aH;refine zeN ⟨[10,22,39],[],[],[],[41]⟩ [0,1,2,3,4,5,6] 3 [.op {rL:=true,wL:=true},.op {},.op {},.nd,.op {},.op {},.op {rL:=true,wL:=true}] (fun all hall _ Z=>?_) (by simp only [bH, List.filterMap_cons, List.filterMap_nil, List.getElem?_cons_succ, List.getElem?_cons_zero, fB, fT] <;> rfl);refine bJ 3 (by simp) fun _ Y=>?_;simp (disch:=omega)[hw1,hh1,bX];and_intros<;>(try omega);apply Y;simp only [List.drop];refine cL fun _ Y=>?_;simp (disch:=omega)[hw1,hh1,bX];refine zdn (Hf w _ (by omega)) ⟨_, _, rfl, [], rfl⟩ ?_;rintro _ τ1 ⟨hr9, row, hs9⟩;subst hr9;subst hs9;apply Y;simp (disch:=omega)[hw1,hh1,bX];and_intros<;>(try omega);apply Z;apply aN;apply aB;refine zk [1,2,4,8,9,19,20] ?_;refine zt ⟨[10,22,39],[],[],[],[41]⟩ fun _ _ Z=>?_;simp (disch:=omega)[hw1,hh1,bX];and_intros<;>(try omega);apply Z;refine bL (X ++ [List.replicate w iK ++ row]) ?_ ?_ (aW rfl ?_ (by simp) (by simp [Ak]))
  ·exact ⟨by simp; omega, hX2.snoc row⟩
  ·simp; omega
  ·simp (disch:=omega)[hw1,hh1,bX,Ak]
 ·try simp at c1
  obtain rfl : h = X.length := by omega
  have hpg := hX2.ok σ [[.sl true (sD σ.length w X.length)]];have hqm := Sb σ X [.sl true (sD σ.length w X.length)];have hol := SI.ofL_len nE l;apply bB;apply bC;apply bA;apply aS;apply aB;refine Bg 9 1 (by simp <;> rfl) (by simp <;> rfl) ?_;simp only [List.set_cons_succ, List.set_cons_zero];refine zr ⟨[10,22,39],[],[],[],[41]⟩ fun _ _ Z=>?_;refine aA 3 fun _ Y=>?_;simp (disch:=omega)[hw1,hh1,bX];and_intros<;>(try omega);apply Y;simp only [List.drop];refine aI fun _ Y=>?_;simp (disch:=omega)[hw1,hh1,bX];refine dO (Ed (σ.length + X.length) σ.length w X.length (SI.ofL nE l) (by omega) (SI.ofL_sorted nE l) (by omega) (by omega) (.inr (by omega)) n t hn hgt hct (σ ++ (X ++ [[.sl true (sD σ.length w X.length)]])) hpg hqm) ?_;obtain ⟨τ, hE1, hE2, hE3, hE4, hE5⟩ : ∃ τ, gI σ.length w X.length (SI.ofL nE l) n t (σ ++ (X ++ [[.sl true (sD σ.length w X.length)]])) = τ ∧ fH τ σ.length w X.length ∧ τ[σ.length + X.length]? = some [.sl true (sD σ.length w X.length)] ∧ Px τ σ.length w X.length (fun j i => dG (SI.ofL nE l) n t i j 32) ∧ ∃ J, τ = σ ++ J := ⟨_, rfl, nQ _ n t hpg, (rK w X.length _ (.inr (by omega)) n t _).trans hqm, yN (by omega) _ n t hpg (hX2.px σ _), Rn fun m hm => rK w X.length _ (.inl hm) n t _⟩;rw [hE1];clear hE1;apply Y;simp only [jY];apply Z;refine zk [8,9] ?_;refine zr ⟨[10,22,39],[],[],[],[41]⟩ fun _ _ Z=>?_;simp (disch:=omega)[hw1,hh1,bX,hE3];and_intros<;>(try omega);apply Z;apply aE;refine zr ⟨[10,22,39],[],[],[],[41]⟩ fun _ _ Z=>?_;simp (disch:=omega)[hw1,hh1,bX,hE3];and_intros<;>(try omega);apply Z;apply aH;refine zk [8,10,33,34,35] ?_;refine cR (fun (k : Nat) => [(35, .d (.v (.int .i64 (k : Int)))), (10, .d (.sl true (((List.range k).map (Jy (SI.ofL nE l) n t w)).map D.str))), (12, .d (.any))]) [10, 12, 35, 36, 37, 38, 39, 40, 41, 42, 43, 44] (fun (k : Nat) => k ≤ X.length) (fun (k : Nat) => X.length - k) (0) (by simp <;> rfl) ?_ ?_ ?_
  ·simp
  ·simp
  rintro k hk;simp only [List.cons_append, List.nil_append];refine zr ⟨[10,22,39],[],[],[],[41]⟩ fun _ _ Z=>?_;simp (disch:=omega)[hw1,hh1,bX,hE3];and_intros<;>(try omega);apply Z;apply aE;refine zi ?_;refine ⟨fun c2=>?_,fun c2=>?_⟩
  ·try simp at c2
   apply aF;apply aB;apply aE;apply aH;refine zr ⟨[10,22,39],[],[],[],[41]⟩ fun _ _ Z=>?_;simp (disch:=omega)[hw1,hh1,bX,hE3];and_intros<;>(try omega);apply Z;refine zt ⟨[10,22,39],[],[],[],[41]⟩ fun _ _ Z=>?_;refine aA 3 fun _ Y=>?_;simp (disch:=omega)[hw1,hh1,bX,hE3];refine ⟨vU (SI.ofL nE l) n t w k, ⟨Lm, Mw _ _ _ _ _, ⟨_, (hE2 k (by omega)).1, fun i x hx => ?_⟩⟩, ?_⟩
   ·obtain ⟨hi, hx2⟩ := Pb _ _ _ _ _ _ _ hx;have := hE4 k i (by omega) hi;rw [hx2]; simpa using this
   and_intros<;>(try omega);apply Y;simp only [List.drop];simp (disch:=omega)[hw1,hh1,bX,hE3];and_intros<;>(try omega);apply Z;apply aN;apply aB;refine zk [8,10,12,33,34,35] ?_;refine zt ⟨[10,22,39],[],[],[],[41]⟩ fun _ _ Z=>?_;simp (disch:=omega)[hw1,hh1,bX,hE3];and_intros<;>(try omega);apply Z;refine bL (k + 1) ?_ ?_ (aW rfl ?_ (by simp) (by simp))
   ·omega
   ·try dsimp only
    omega
   ·simp (disch:=omega)[hw1,hh1,bX,List.range_succ,Jy,hE3]
  ·try simp at c2
   apply bB;apply bC;apply bA;apply aS;apply aB;refine zr ⟨[10,22,39],[],[],[],[41]⟩ fun _ _ Z=>?_;simp (disch:=omega)[hw1,hh1,bX,hE3];and_intros<;>(try omega);apply Z;apply aG;simp [aQ];obtain rfl : k = X.length := by omega
   exact ⟨rfl, hE5⟩
theorem zU (n : Nat) (t : TN) (l : List EN) (wd hg : Int) (σ : List (List D)) (hn : n ≤ 1000) (hgt : TG t) (hct : iM t ≤ n) (hl : l.length ≤ 999999) : Ct Tryz.prog 10 [iT t, .sl false (l.map cH), D.int wd, D.int hg] σ (fun r σ' => r = dl (mJ (SI.ofL nE l) n t wd hg) ∧ σ' = σ) :=
 (Gi n t l wd hg σ hn hgt hct hl).trim fun r σ' ⟨hr, J, hs⟩ => ⟨σ, J, hs, rfl, by
  rw [hr];exact Sc.sl fun d hd => by
   obtain ⟨s, _, rfl⟩ := List.mem_map.1 hd;exact Sc.v _, fun n cs h => .inl h, hr, rfl⟩
end Go.Proofs.YtighdhfgcdjmeaaGreatDoor

