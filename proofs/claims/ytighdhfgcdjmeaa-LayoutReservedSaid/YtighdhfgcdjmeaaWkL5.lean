import Derived.Test.YtighdhfgcdjmeaaWkL4
import Derived.Test.YtighdhfgcdjmeaaLaSnap
namespace Go.Proofs.Ytighdhfgcdjmeaa
open Go Go.Vm
set_option maxRecDepth 20000
set_option linter.all false
set_option maxHeartbeats 8000000
abbrev nE : EN → Int := EN.ID
attribute [simp] cE
@[simp high] theorem mD (l : List EN) (rest : List D) (i : Nat) (h : i < l.length) : lG true 4 ((l.flatMap cE ++ rest).drop (i * 5 + 1)) = some (.agg [D.int l[i].rect.x, D.int l[i].rect.y, D.int l[i].rect.w, D.int l[i].rect.h]) := by
 have := fO (f := cE) (k := 5) (fun _ => rfl) l i h;have e : (l.flatMap cE ++ rest).drop (i * 5 + 1) = ((l.flatMap cE ++ rest).drop (i * 5)).drop 1 := by rw [List.drop_drop]
 have e2 : (l.flatMap cE ++ rest).drop (i * 5) = (l.drop i).flatMap cE ++ rest := by
  rw [← List.take_append_drop i l, List.flatMap_append, List.append_assoc, ← this, List.drop_left, List.take_append_drop]
 rw [e, e2, List.drop_eq_getElem_cons h];rfl
@[simp high] theorem aAa (l : List EN) : (l.flatMap cE).length = l.length * 5 := bB (f := cE) (fun _ => rfl) l
@[simp high] theorem aEn (l : List EN) (rest : List D) (i : Nat) (h : i < l.length) : lG true 5 ((l.flatMap cE ++ rest).drop (i * 5)) = some (.agg (cE l[i])) := vH (f := cE) (fun _ => rfl) l rest i h
@[simp high] theorem aE2 (l : List EN) (rest : List D) (i : Nat) (x : EN) (h : i < l.length) : bJ (l.flatMap cE ++ rest) (i * 5) [D.int x.ID, D.int x.rect.x, D.int x.rect.y, D.int x.rect.w, D.int x.rect.h] = (l.set i x).flatMap cE ++ rest := kN (f := cE) (fun _ => rfl) l rest i x h
theorem uG (s : Int) (σ : List (List D))  : Ct Try.prog 76 [D.int s] σ (fun r σ' => r = .bool false ∧ σ' = σ) := by
 refine zf (rs:=[.tmp 2]) Try.func76 Try.ntmps76 Try.results76 ?_;simp only [aM];refine bQ fun _ _ Z=>?_;simp;and_intros<;>(try omega);apply Z;refine bQ fun _ _ Z=>?_;simp;and_intros<;>(try omega);apply Z;apply aF;simp [aR]
theorem yW (a b : Int) (σ : List (List D))  : Ct Try.prog 53 [D.int a, D.int b] σ (fun r σ' => r = .int (SI.cmpI a b) ∧ σ' = σ) := by
 refine zf (rs:=[.tmp 4]) Try.func53 Try.ntmps53 Try.results53 ?_;simp only [aM];refine bQ fun _ _ Z=>?_;simp;and_intros<;>(try omega);apply Z;refine bQ fun _ _ Z=>?_;refine aC 1 fun _ Y=>?_;simp;and_intros<;>(try omega);apply Y;simp only [List.drop];refine aD fun _ Y=>?_;simp;refine cD (uG a _) ?_;apply Y;simp;and_intros<;>(try omega);apply Z;refine bQ fun _ _ Z=>?_;refine aC 1 fun _ Y=>?_;simp;and_intros<;>(try omega);apply Y;simp only [List.drop];refine aD fun _ Y=>?_;simp;refine cD (uG b _) ?_;apply Y;simp;and_intros<;>(try omega);apply Z;apply aH;refine bQ fun _ _ Z=>?_;simp;and_intros<;>(try omega);apply Z;refine zi ?_;refine ⟨fun c1=>?_,fun c1=>?_⟩
 ·simp at c1
 ·try simp at c1
  apply aK;apply aE;apply aH;refine bQ fun _ _ Z=>?_;simp;and_intros<;>(try omega);apply Z;refine zi ?_;refine ⟨fun c2=>?_,fun c2=>?_⟩
  ·simp at c2
  ·try simp at c2
   apply aK;apply aE;apply aH;refine bQ fun _ _ Z=>?_;simp;and_intros<;>(try omega);apply Z;refine zi ?_;refine ⟨fun c3=>?_,fun c3=>?_⟩
   ·try simp at c3
    refine zk [0,1,4] ?_;refine bQ fun _ _ Z=>?_;simp;and_intros<;>(try omega);apply Z;apply aF;apply bD;simp [aR, SI.cmpI, SI.lessI]
    (repeat' split) <;> omega
   ·try simp at c3
    apply aK;apply aE;apply aH;refine zk [0,1,4] ?_;refine bQ fun _ _ Z=>?_;simp;and_intros<;>(try omega);apply Z;refine zi ?_;refine ⟨fun c4=>?_,fun c4=>?_⟩
    ·try simp at c4
     refine bQ fun _ _ Z=>?_;simp;and_intros<;>(try omega);apply Z;apply aF;apply bD;simp [aR, SI.cmpI, SI.lessI]
     (repeat' split) <;> omega
    ·try simp at c4
     apply aK;apply aE;refine bQ fun _ _ Z=>?_;simp;and_intros<;>(try omega);apply Z;apply aF;simp [aR, SI.cmpI, SI.lessI]
     (repeat' split) <;> omega
theorem Cj (x : EN) (s : Int) (σ : List (List D))  : Ct Try.prog 52 [cH x, D.int s] σ (fun r σ' => r = .int (SI.cmpI x.ID s) ∧ σ' = σ) := by
 refine zf (rs:=[.tmp 4]) Try.func52 Try.ntmps52 Try.results52 ?_;simp only [aM];refine bQ fun _ _ Z=>?_;simp;and_intros<;>(try omega);apply Z;refine bQ fun _ _ Z=>?_;refine aC 3 fun _ Y=>?_;simp;and_intros<;>(try omega);apply Y;simp only [List.drop];refine aD fun _ Y=>?_;simp;refine cD (yW x.ID s _) ?_;apply Y;simp;and_intros<;>(try omega);apply Z;apply aF;simp [aR]
theorem So (N cap : Nat) (l : List EN) (rest : List D) (c : Int) (σ : List (List D)) (hl : l.length ≤ 1000000) (hN : σ[N]? = some (l.flatMap cE ++ rest)) (hs : SI.Sorted nE l) : Ct Try.prog 51 [.slo N 0 l.length cap, D.int c, .clo (.func 52) [] []] σ (fun r σ' => r = .tup [.int ((SI.posL nE l c : Nat) : Int), .bool (SI.fnd nE l c)] ∧ σ' = σ) := by
 refine zf (rs:=[.tmp 6,.tmp 7]) Try.func51 Try.ntmps51 Try.results51 ?_;simp only [aM];refine zr ⟨[],[],[],[13,27,43],[]⟩ fun _ _ Z=>?_;simp (disch:=omega)[hN,aT,aU];and_intros<;>(try omega);apply Z;refine zr ⟨[],[],[],[13,27,43],[]⟩ fun _ _ Z=>?_;simp (disch:=omega)[hN,aT,aU];and_intros<;>(try omega);apply Z;refine zr ⟨[],[],[],[13,27,43],[]⟩ fun _ _ Z=>?_;simp (disch:=omega)[hN,aT,aU];and_intros<;>(try omega);apply Z;apply aH;apply aN;refine zk [0,1,2,6,7,8,9,10] ?_;refine cN (fun (s : Nat × Nat) => [(9, .d (.v (.int .i64 (s.1 : Int)))), (10, .d (.v (.int .i64 (s.2 : Int)))), (11, .d (.any))]) [9, 10, 11, 15, 16, 17, 18, 19, 20, 21, 22, 23, 24, 25, 26, 27, 28, 29, 30, 31, 32, 33, 34] (fun (s : Nat × Nat) => s.1 ≤ s.2 ∧ s.2 ≤ l.length ∧ (∀ j (h : j < l.length), j < s.1 → SI.lessI l[j].ID c = true) ∧ (∀ j (h : j < l.length), s.2 ≤ j → SI.lessI l[j].ID c = false)) (fun (s : Nat × Nat) => s.2 - s.1) ((0, l.length)) (by simp <;> rfl) ?_ ?_ ?_
 ·simp
 ·exact ⟨by omega, by omega, fun j h h2 => absurd h2 (by simp), fun j h h2 => absurd h2 (by simp; omega)⟩
 rintro ⟨lo, hi⟩ ⟨h1, h2, h3, h4⟩;simp only [List.cons_append, List.nil_append];dsimp only at h1 h2 h3 h4;have hmid : lo < hi → (lo + hi) / 2 < hi := fun h => by omega
 apply aH;refine zr ⟨[],[],[],[13,27,43],[]⟩ fun _ _ Z=>?_;simp (disch:=omega)[hN,aT,aU];and_intros<;>(try omega);apply Z;refine zi ?_;refine ⟨fun c1=>?_,fun c1=>?_⟩
 ·try simp at c1
  apply aK;apply aE;apply aN;refine zk [0,1,2,6,7,8,9,10,11] ?_;refine zr ⟨[],[],[],[13,27,43],[]⟩ fun _ _ Z=>?_;simp (disch:=omega)[hN,aT,aU];and_intros<;>(try omega);apply Z;refine zk [0,1,2,6,7,8,9,10,11] ?_;refine zr ⟨[],[],[],[13,27,43],[]⟩ fun _ _ Z=>?_;refine aC 6 fun _ Y=>?_;simp (disch:=omega)[hN,aT,aU];and_intros<;>(try omega);apply Y;simp only [List.drop];refine aD fun _ Y=>?_;simp (disch:=omega)[hN,aT,aU];refine cD (Cj l[(lo + hi) / 2] c _) ?_;apply Y;simp (disch:=omega)[hN,aT,aU];and_intros<;>(try omega);apply Z;refine zi ?_;refine ⟨fun c2=>?_,fun c2=>?_⟩
  ·try simp at c2
   refine zk [0,1,2,6,7,8,9,10,11] ?_;refine zt ⟨[],[],[],[13,27,43],[]⟩ fun _ _ Z=>?_;simp (disch:=omega)[hN,aT,aU];and_intros<;>(try omega);apply Z;apply aZ;refine bT (((lo + hi) / 2 + 1, hi)) ?_ ?_ (bI rfl ?_ (by simp) (by simp))
   ·exact ⟨by dsimp only; omega, by dsimp only; omega, SI.bs_lo nE hs (by omega) (by simpa [SI.cmpI_neg] using c2), h4⟩
   ·try dsimp only
    omega
   ·simp (disch:=omega)[hN,aT,aU]
  ·try simp at c2
   refine zk [0,1,2,6,7,8,9,10,11] ?_;refine zt ⟨[],[],[],[13,27,43],[]⟩ fun _ _ Z=>?_;simp (disch:=omega)[hN,aT,aU];and_intros<;>(try omega);apply Z;apply aZ;refine bT ((lo, (lo + hi) / 2)) ?_ ?_ (bI rfl ?_ (by simp) (by simp))
   ·exact ⟨by dsimp only; omega, by dsimp only; omega, h3, SI.bs_hi nE hs (by omega) ((SI.cmpI_nn _ _).1 (by omega))⟩
   ·try dsimp only
    omega
   ·simp (disch:=omega)[hN,aT,aU]
 ·try simp at c1
  obtain rfl : lo = hi := by omega
  have hpos : SI.posL nE l c = lo := SI.posL_of nE l c lo h2 h3 (fun h => h4 lo h (Nat.le_refl _));apply bP;apply bN;apply bO;apply bG;apply aE;refine zk [0,1,2,6,7,8,9] ?_;refine Ms ⟨[],[],[],[13,27,43],[]⟩ fun all hall _ Z=>?_;have ga4 : bK all 4 = some 39 := hall 4;refine aC 5 fun _ Y=>?_;simp (disch:=omega)[hN,aT,aU,ga4];and_intros<;>(try omega);apply Y;simp only [List.drop];refine eC 39 (by simp <;> rfl) ?_;refine ⟨fun g3 => ?_, fun g3 => ?_⟩
  ·try simp at g3
   refine aC 6 fun _ Y=>?_;simp (disch:=omega)[hN,aT,aU,ga4];and_intros<;>(try omega);apply Y;simp only [List.drop];refine zg ga4 fun _ Y=>?_;simp (disch:=omega)[hN,aT,aU,ga4];refine cD (Cj l[lo] c _) ?_;apply Y;simp (disch:=omega)[hN,aT,aU,ga4];and_intros<;>(try omega);apply Z;apply aF;simp [aR, hpos, SI.fnd_at, *];exact SI.cmpI_zero _ _
  ·try simp at g3
   refine aC 8 fun _ Y=>?_;simp (disch:=omega)[hN,aT,aU,ga4];and_intros<;>(try omega);apply Y;simp only [List.drop];simp (disch:=omega)[hN,aT,aU,ga4];and_intros<;>(try omega);apply Z;apply aF;simp [aR, hpos, *];exact SI.fnd_out _ _ _ (by omega)
theorem Kt (N cap : Nat) (l : List EN) (rest : List D) (c : Int) (σ : List (List D)) (hl : l.length ≤ 1000000) (hN : σ[N]? = some (l.flatMap cE ++ rest)) (hs : SI.Sorted nE l) : Ct Try.prog 27 [.slo N 0 l.length cap, D.int c] σ (fun r σ' => r = .tup [.int ((SI.posL nE l c : Nat) : Int), .bool (SI.fnd nE l c)] ∧ σ' = σ) := by
 refine zf (rs:=[.tmp 4,.tmp 5]) Try.func27 Try.ntmps27 Try.results27 ?_;simp only [aM];refine bQ fun _ _ Z=>?_;simp[hN];and_intros<;>(try omega);apply Z;refine bQ fun _ _ Z=>?_;refine aC 2 fun _ Y=>?_;simp[hN];and_intros<;>(try omega);apply Y;simp only [List.drop];refine aD fun _ Y=>?_;simp[hN];refine cD (So N cap l rest c _ hl hN hs) ?_;apply Y;simp[hN];and_intros<;>(try omega);apply Z;apply aF;simp [aR]
theorem Ay (l : List EN) (σ : List (List D)) (hl : l.length ≤ 999999) : Ct Try.prog 23 [.sl false (l.map cH)] σ (fun r σ' => r = .xs 5 ((SI.ofL nE l).map cH) ∧ ∃ J, σ' = σ ++ J) := by
 refine zf (rs:=[.tmp 2]) Try.func23 Try.ntmps23 Try.results23 ?_;simp only [aM];refine zr ⟨[2,3,26,30,32],[],[],[25],[]⟩ fun _ _ Z=>?_;simp (disch:=omega)[aJ,aB,aG,aA];and_intros<;>(try omega);apply Z;refine zr ⟨[2,3,26,30,32],[],[],[25],[]⟩ fun _ _ Z=>?_;simp (disch:=omega)[aJ,aB,aG,aA];and_intros<;>(try omega);apply Z;apply aH;refine zr ⟨[2,3,26,30,32],[],[],[25],[]⟩ fun _ _ Z=>?_;simp (disch:=omega)[aJ,aB,aG,aA];and_intros<;>(try omega);apply Z;apply aN;refine zk [2,3,8,9,10] ?_;refine rJ 3 5 (by simp <;> rfl) ?_;refine tV (fun (p : Nat × List (List D)) => [(10, .d (.v (.int .i64 (p.1 : Int)))), (3, .d (.xs 5 ((SI.ofL nE (l.take p.1)).map cH)))]) (fun (p : Nat × List (List D)) => []) (fun (p : Nat × List (List D)) => σ ++ p.2) [3, 5, 6, 7, 10, 11, 12, 13, 14, 15, 16, 17, 18, 19, 20, 21, 22, 23, 24, 25, 26, 27, 28, 29, 30, 31] (fun (p : Nat × List (List D)) => p.1 ≤ l.length) (fun (p : Nat × List (List D)) => l.length - p.1) ((0, [])) (by simp <;> rfl) ?_ (by simp) (by simp) ?_ ?_
 ·simp [SI.ofL]
 ·exact Nat.zero_le _
 rintro ⟨k, J⟩ hk;simp only [List.cons_append, List.nil_append];simp only at hk;have hol := SI.ofL_len nE (l.take k);simp only [List.length_take] at hol;have hso := SI.ofL_sorted nE (l.take k);obtain ⟨ρ, hρ⟩ : ∃ ρ, ρ = σ ++ J := ⟨_, rfl⟩;rw [← hρ];refine zr ⟨[2,3,26,30,32],[],[],[25],[]⟩ fun _ _ Z=>?_;simp (disch:=omega)[aJ,aB,aG,aA];and_intros<;>(try omega);apply Z;apply aH;refine zi ?_;refine ⟨fun c1=>?_,fun c1=>?_⟩
 ·try simp at c1
  apply aK;apply aE;apply aH;apply aN;refine zr ⟨[2,3,26,30,32],[],[],[25],[]⟩ fun _ _ Z=>?_;simp (disch:=omega)[aJ,aB,aG,aA];and_intros<;>(try omega);apply Z;refine eQ 3 5 rfl (by decide) fun cap rest hcap hcm hrest hk0 hes => ?_;subst hrest;simp only [List.length_map] at hcap ⊢;rw [bA (f := cE) (fun _ => rfl)];have hpl := SI.posL_le nE (SI.ofL nE (l.take k)) l[k].ID;refine zr ⟨[2,3,26,30,32],[],[],[25],[]⟩ fun _ _ Z=>?_;refine aC 3 fun _ Y=>?_;simp (disch:=omega)[aJ,aB,aG,aA];and_intros<;>(try omega);apply Y;simp only [List.drop];refine aD fun _ Y=>?_;simp (disch:=omega)[aJ,aB,aG,aA];refine cD (Kt ρ.length cap (SI.ofL nE (l.take k)) (List.replicate ((cap - (SI.ofL nE (l.take k)).length) * 5) .any) l[k].ID _ (by omega) (by simp) hso) ?_;apply Y;simp (disch:=omega)[aJ,aB,aG,aA];and_intros<;>(try omega);apply Z;refine zk [2,3,5,6,7,8,9,10] ?_;refine zr ⟨[2,3,26,30,32],[],[],[25],[]⟩ fun _ _ Z=>?_;simp (disch:=omega)[aJ,aB,aG,aA];and_intros<;>(try omega);apply Z;refine zi ?_;refine ⟨fun c2=>?_,fun c2=>?_⟩
  ·try simp at c2
   have hlt := SI.fnd_lt nE c2;refine zt ⟨[2,3,26,30,32],[],[],[25],[]⟩ fun _ _ Z=>?_;simp (disch:=omega)[aJ,aB,aG,aA];and_intros<;>(try omega);apply Z;apply aZ;apply aE;refine bZ 3 5 ρ.length (SI.ofL nE (l.take k)).length cap (((SI.ofL nE (l.take k)).set (SI.posL nE (SI.ofL nE (l.take k)) l[k].ID) l[k]).map cH) (((SI.ofL nE (l.take k)).set (SI.posL nE (SI.ofL nE (l.take k)) l[k].ID) l[k]).flatMap cE ++ List.replicate ((cap - (SI.ofL nE (l.take k)).length) * 5) .any) (by simp <;> rfl) (by simp) (by omega) (by simp only [List.length_append, bB (f := cE) (k := 5) (fun _ => rfl), List.length_replicate, List.length_set]; omega) (by simp) (dY (d := cH) (fun _ => ⟨rfl, rfl⟩) _) (by rw [bA (f := cE) (fun _ => rfl)]; exact List.prefix_append _ _) ?_;refine zk [2,3,8,9,10] ?_;refine zt ⟨[2,3,26,30,32],[],[],[25],[]⟩ fun _ _ Z=>?_;simp (disch:=omega)[aJ,aB,aG,aA];and_intros<;>(try omega);apply Z;refine bT ((k + 1, J ++ [[]])) ?_ ?_ (bI rfl ?_ (by simp) (by simp [hρ]))
   ·exact (by simp only at *; omega)
   ·try dsimp only
    omega
   ·simp (disch:=omega)[aJ,aB,aG,aA,SI.ofL_take,SI.putL_eq,c2]
  ·try simp at c2
   refine bZ 3 5 ρ.length (SI.ofL nE (l.take k)).length cap ((SI.ofL nE (l.take k)).map cH) ((SI.ofL nE (l.take k)).flatMap cE ++ List.replicate ((cap - (SI.ofL nE (l.take k)).length) * 5) .any) (by simp <;> rfl) (by simp) (by omega) (by simp only [List.length_append, bB (f := cE) (k := 5) (fun _ => rfl), List.length_replicate, List.length_set]; omega) (by simp) (dY (d := cH) (fun _ => ⟨rfl, rfl⟩) _) (by rw [bA (f := cE) (fun _ => rfl)]; exact List.prefix_append _ _) ?_;refine zt ⟨[2,3,26,30,32],[],[],[25],[]⟩ fun _ _ Z=>?_;refine aC 4 fun _ Y=>?_;simp (disch:=omega)[aJ,aB,aG,aA];and_intros<;>(try omega);apply Y;simp only [List.drop];refine aD fun _ Y=>?_;simp (disch:=omega)[aJ,aB,aG,aA];refine cD (Pk (SI.ofL nE (l.take k)) l[k] (SI.posL nE (SI.ofL nE (l.take k)) l[k].ID) _ (by omega) hpl) ?_;apply Y;simp (disch:=omega)[aJ,aB,aG,aA];and_intros<;>(try omega);apply Z;apply aZ;apply aE;refine zk [2,3,8,9,10] ?_;refine zt ⟨[2,3,26,30,32],[],[],[25],[]⟩ fun _ _ Z=>?_;simp (disch:=omega)[aJ,aB,aG,aA];and_intros<;>(try omega);apply Z;refine bT ((k + 1, J ++ [[]])) ?_ ?_ (bI rfl ?_ (by simp) (by simp [hρ]))
   ·exact (by simp only at *; omega)
   ·try dsimp only
    omega
   ·simp (disch:=omega)[aJ,aB,aG,aA,SI.ofL_take,SI.putL_eq,c2]
 ·try simp at c1
  rw [List.take_of_length_le (by omega)];apply bP;apply bN;apply bO;apply bG;apply aE;refine zr ⟨[2,3,26,30,32],[],[],[25],[]⟩ fun _ _ Z=>?_;simp (disch:=omega)[aJ,aB,aG,aA];and_intros<;>(try omega);apply Z;apply aF;simp [aR];exact ⟨J, hρ⟩
theorem yI (l : List EN) (σ : List (List D)) (hl : l.length ≤ 999999) : Ct Try.prog 23 [.sl false (l.map cH)] σ (fun r σ' => r = .xs 5 ((SI.ofL nE l).map cH) ∧ σ' = σ) :=
 (Ay l σ hl).trim fun r σ' ⟨hr, J, hs⟩ => ⟨σ, J, hs, rfl, by rw [hr]; exact Uf _ _, fun n cs h => .inl h, hr, rfl⟩
theorem vE (l : List EN) (σ : List (List D)) (hl : l.length ≤ 999999) : Ct Try.prog 23 [.sl false (l.map cH)] σ (fun r σ' => r = .sl false ((SI.ofL nE l).map cH) ∧ σ' = σ) := (yI l σ hl).freeze fun _ _ h => h
theorem Tp (l : List EN) (σ : List (List D)) (hl : l.length ≤ 999999) : Ct Try.prog 24 [.sl false (l.map cH), .sl false (l.map cH)] σ (fun r σ' => r = .bool true ∧ σ' = σ) := by
 refine zf (rs:=[.tmp 4]) Try.func24 Try.ntmps24 Try.results24 ?_;simp only [aM];refine bQ fun _ _ Z=>?_;simp (disch:=omega);and_intros<;>(try omega);apply Z;apply aH;refine bQ fun _ _ Z=>?_;simp (disch:=omega);and_intros<;>(try omega);apply Z;refine zi ?_;refine ⟨fun c1=>?_,fun c1=>?_⟩
 ·simp at c1
 ·try simp at c1
  apply aK;apply aE;apply aH;refine bQ fun _ _ Z=>?_;simp (disch:=omega);and_intros<;>(try omega);apply Z;apply aN;refine zk [0,1,4,12,13] ?_;refine cN (fun (k : Nat) => [(13, .d (.v (.int .i64 (k : Int)))), (5, .d (.any))]) [4, 5, 13, 14, 15, 16, 17, 18, 19, 20, 21, 22, 23, 24, 25] (fun (k : Nat) => k ≤ l.length) (fun (k : Nat) => l.length - k) (0) (by simp <;> rfl) ?_ ?_ ?_
  ·simp
  ·simp
  rintro k hk;simp only [List.cons_append, List.nil_append];refine bQ fun _ _ Z=>?_;simp (disch:=omega);and_intros<;>(try omega);apply Z;apply aH;refine zi ?_;refine ⟨fun c2=>?_,fun c2=>?_⟩
  ·try simp at c2
   apply aK;apply aE;apply aH;apply aN;refine bQ fun _ _ Z=>?_;simp (disch:=omega);and_intros<;>(try omega);apply Z;refine zd ⟨[],[],[],[],[]⟩ [.op {},.op {},.op {},.op {},.op {},.op {},.op {},.op {},.op {}] fun all hall _ Z=>?_;refine aL 8 (by simp) fun _ Y=>?_;simp (disch:=omega);and_intros<;>(try omega);apply Y;simp only [List.drop];simp (disch:=omega);and_intros<;>(try omega);apply Z;refine zi ?_;refine ⟨fun c3=>?_,fun c3=>?_⟩
   ·simp at c3
   ·try simp at c3
    apply aK;apply aZ;apply aE;refine zk [0,1,5,12,13] ?_;refine Mx fun _ _ Z=>?_;simp (disch:=omega);and_intros<;>(try omega);apply Z;refine bT (k + 1) ?_ ?_ (bI rfl ?_ (by simp) (by simp))
    ·omega
    ·try dsimp only
     omega
    ·simp (disch:=omega)
  ·try simp at c2
   apply bP;apply bN;apply bO;apply bG;apply aE;refine bQ fun _ _ Z=>?_;simp (disch:=omega);and_intros<;>(try omega);apply Z;apply aF;simp [aR]
theorem Mg (l : List EN) (σ : List (List D)) (hl : l.length ≤ 999999) : Ct Try.prog 10 [.sl false (l.map cH), .sl false (l.map cH)] σ (fun r σ' => r = .bool true ∧ σ' = σ) := by
 refine zf (rs:=[.tmp 4]) Try.func10 Try.ntmps10 Try.results10 ?_;simp only [aM];have hol := SI.ofL_len nE l;refine bQ fun _ _ Z=>?_;simp;and_intros<;>(try omega);apply Z;refine bQ fun _ _ Z=>?_;refine aC 1 fun _ Y=>?_;simp;and_intros<;>(try omega);apply Y;simp only [List.drop];refine aD fun _ Y=>?_;simp;refine cD (vE l _ hl) ?_;apply Y;refine aC 1 fun _ Y=>?_;simp;and_intros<;>(try omega);apply Y;simp only [List.drop];refine aD fun _ Y=>?_;simp;refine cD (vE l _ hl) ?_;apply Y;refine aD fun _ Y=>?_;simp;refine cD (Tp (SI.ofL nE l) _ (by omega)) ?_;apply Y;simp;and_intros<;>(try omega);apply Z;apply aF;simp [aR]
theorem Ic (l : List EN) (c : Int) (σ : List (List D)) (hl : l.length ≤ 999999) (hs : SI.Sorted nE l) : Ct Try.prog 13 [.sl false (l.map cH), D.int c] σ (fun r σ' => (∀ h : SI.posL nE l c < l.length, SI.fnd nE l c = true → r = .tup [.agg [D.int (l[SI.posL nE l c]).rect.x, D.int (l[SI.posL nE l c]).rect.y, D.int (l[SI.posL nE l c]).rect.w, D.int (l[SI.posL nE l c]).rect.h], .bool true]) ∧ (SI.fnd nE l c = false → r = .tup [.agg [D.int 0, D.int 0, D.int 0, D.int 0], .bool false]) ∧ ∃ J, σ' = σ ++ J) := by
 refine zf (rs:=[.cell 4 54,.tmp 5]) Try.func13 Try.ntmps13 Try.results13 ?_;simp only [aM];refine zr ⟨[6,10],[],[],[20],[]⟩ fun _ _ Z=>?_;simp (disch:=omega)[aB,aA,mD];and_intros<;>(try omega);apply Z;refine zr ⟨[6,10],[],[],[20],[]⟩ fun _ _ Z=>?_;refine aC 1 fun _ Y=>?_;simp (disch:=omega)[aB,aA,mD];and_intros<;>(try omega);apply Y;simp only [List.drop];refine aD fun _ Y=>?_;simp (disch:=omega)[aB,aA,mD];refine cD (yI l _ hl) ?_;rw [SI.ofL_id nE hs];apply Y;simp (disch:=omega)[aB,aA,mD];and_intros<;>(try omega);apply Z;apply aH;refine eQ 6 5 rfl (by decide) fun cap rest hcap hcm hrest hk0 hes => ?_;subst hrest;simp only [List.length_map] at hcap ⊢;rw [bA (f := cE) (fun _ => rfl)];refine zr ⟨[6,10],[],[],[20],[]⟩ fun _ _ Z=>?_;refine aC 2 fun _ Y=>?_;simp (disch:=omega)[aB,aA,mD];and_intros<;>(try omega);apply Y;simp only [List.drop];refine aD fun _ Y=>?_;simp (disch:=omega)[aB,aA,mD];refine cD (Kt σ.length cap l (List.replicate ((cap - l.length) * 5) .any) c _ (by omega) (by simp [aB]) hs) ?_;apply Y;simp (disch:=omega)[aB,aA,mD];and_intros<;>(try omega);apply Z;refine zk [4,5,6,7,8] ?_;refine zr ⟨[6,10],[],[],[20],[]⟩ fun _ _ Z=>?_;simp (disch:=omega)[aB,aA,mD];and_intros<;>(try omega);apply Z;refine zi ?_;refine ⟨fun c1=>?_,fun c1=>?_⟩
 ·try simp at c1
  have hlt := SI.fnd_lt nE c1;refine zr ⟨[6,10],[],[],[20],[]⟩ fun _ _ Z=>?_;simp (disch:=omega)[aB,aA,mD];and_intros<;>(try omega);apply Z;apply aF;apply bD;simp [aR, c1]
 ·try simp at c1
  apply aK;apply aE;refine zr ⟨[6,10],[],[],[20],[]⟩ fun _ _ Z=>?_;simp (disch:=omega)[aB,aA,mD];and_intros<;>(try omega);apply Z;apply aF;simp [aR, c1]
theorem Pr (l : List EN) (c : Int) (x : EN) (σ : List (List D)) (hl : l.length ≤ 999999) (hs : SI.Sorted nE l) (h1 : l[SI.posL nE l c]? = some x) (h2 : SI.fnd nE l c = true) : Ct Try.prog 13 [.sl false (l.map cH), D.int c] σ (fun r σ' => r = .tup [.agg [D.int x.rect.x, D.int x.rect.y, D.int x.rect.w, D.int x.rect.h], .bool true] ∧ σ' = σ) :=
 (Ic l c σ hl hs).trim fun r σ' ⟨hr, _, J, hs'⟩ => by
  obtain ⟨hlt, hx⟩ := List.getElem?_eq_some_iff.1 h1;have hr := hr hlt h2;rw [hx] at hr;have hsc : Sc σ.length r := by
   rw [hr];exact Sc.tup fun d hd => by
    simp at hd;rcases hd with rfl | rfl
    ·exact Sc.agg fun e he => by simp at he; rcases he with rfl | rfl | rfl | rfl <;> exact Sc.v _
    ·exact Sc.v _
  exact ⟨σ, J, hs', rfl, hsc, fun n cs h => .inl h, hr, rfl⟩
end Go.Proofs.Ytighdhfgcdjmeaa

