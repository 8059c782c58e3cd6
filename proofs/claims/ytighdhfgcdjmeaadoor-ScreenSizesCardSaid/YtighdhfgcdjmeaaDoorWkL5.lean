import Derived.Test.YtighdhfgcdjmeaaDoorWkL4
import Derived.Test.YtighdhfgcdjmeaaDoorLaSnap
namespace Go.Proofs.YtighdhfgcdjmeaaDoor
open Go Go.Vm
set_option maxRecDepth 20000
set_option linter.all false
set_option maxHeartbeats 8000000
abbrev nE : EN → Int := EN.ID
attribute [simp] cE
@[simp high] theorem lL (l : List EN) (rest : List D) (i : Nat) (h : i < l.length) : jV true 4 ((l.flatMap cE ++ rest).drop (i * 5 + 1)) = some (.agg [D.int l[i].rect.x, D.int l[i].rect.y, D.int l[i].rect.w, D.int l[i].rect.h]) := by
 have := fQ (f := cE) (k := 5) (fun _ => rfl) l i h;have e : (l.flatMap cE ++ rest).drop (i * 5 + 1) = ((l.flatMap cE ++ rest).drop (i * 5)).drop 1 := by rw [List.drop_drop]
 have e2 : (l.flatMap cE ++ rest).drop (i * 5) = (l.drop i).flatMap cE ++ rest := by
  rw [← List.take_append_drop i l, List.flatMap_append, List.append_assoc, ← this, List.drop_left, List.take_append_drop]
 rw [e, e2, List.drop_eq_getElem_cons h];rfl
@[simp high] theorem Vy (l : List EN) : (l.flatMap cE).length = l.length * 5 := bC (f := cE) (fun _ => rfl) l
@[simp high] theorem Zi (l : List EN) (rest : List D) (i : Nat) (h : i < l.length) : jV true 5 ((l.flatMap cE ++ rest).drop (i * 5)) = some (.agg (cE l[i])) := vC (f := cE) (fun _ => rfl) l rest i h
@[simp high] theorem aCj (l : List EN) (rest : List D) (i : Nat) (x : EN) (h : i < l.length) : bF (l.flatMap cE ++ rest) (i * 5) [D.int x.ID, D.int x.rect.x, D.int x.rect.y, D.int x.rect.w, D.int x.rect.h] = (l.set i x).flatMap cE ++ rest := kN (f := cE) (fun _ => rfl) l rest i x h
theorem tN (s : Int) (σ : List (List D))  : Ct Tryd.prog 77 [D.int s] σ (fun r σ' => r = .bool false ∧ σ' = σ) := by
 refine zf (rs:=[.tmp 2]) Tryd.func77 Tryd.ntmps77 Tryd.results77 ?_;simp only [aU];refine cH fun _ _ Z=>?_;simp;and_intros<;>(try omega);apply Z;refine cH fun _ _ Z=>?_;simp;and_intros<;>(try omega);apply Z;apply aH;simp [bB]
theorem yU (a b : Int) (σ : List (List D))  : Ct Tryd.prog 55 [D.int a, D.int b] σ (fun r σ' => r = .int (SI.cmpI a b) ∧ σ' = σ) := by
 refine zf (rs:=[.tmp 4]) Tryd.func55 Tryd.ntmps55 Tryd.results55 ?_;simp only [aU];refine cH fun _ _ Z=>?_;simp;and_intros<;>(try omega);apply Z;refine cH fun _ _ Z=>?_;refine aC 1 fun _ Y=>?_;simp;and_intros<;>(try omega);apply Y;simp only [List.drop];refine aI fun _ Y=>?_;simp;refine eV (tN a _) ?_;apply Y;simp;and_intros<;>(try omega);apply Z;refine cH fun _ _ Z=>?_;refine aC 1 fun _ Y=>?_;simp;and_intros<;>(try omega);apply Y;simp only [List.drop];refine aI fun _ Y=>?_;simp;refine eV (tN b _) ?_;apply Y;simp;and_intros<;>(try omega);apply Z;apply aE;refine cH fun _ _ Z=>?_;simp;and_intros<;>(try omega);apply Z;refine zi ?_;refine ⟨fun c1=>?_,fun c1=>?_⟩
 ·simp at c1
 ·try simp at c1
  apply aJ;apply aD;apply aE;refine cH fun _ _ Z=>?_;simp;and_intros<;>(try omega);apply Z;refine zi ?_;refine ⟨fun c2=>?_,fun c2=>?_⟩
  ·simp at c2
  ·try simp at c2
   apply aJ;apply aD;apply aE;refine cH fun _ _ Z=>?_;simp;and_intros<;>(try omega);apply Z;refine zi ?_;refine ⟨fun c3=>?_,fun c3=>?_⟩
   ·try simp at c3
    refine zk [0,1,4] ?_;refine cH fun _ _ Z=>?_;simp;and_intros<;>(try omega);apply Z;apply aH;apply bJ;simp [bB, SI.cmpI, SI.lessI]
    (repeat' split) <;> omega
   ·try simp at c3
    apply aJ;apply aD;apply aE;refine zk [0,1,4] ?_;refine cH fun _ _ Z=>?_;simp;and_intros<;>(try omega);apply Z;refine zi ?_;refine ⟨fun c4=>?_,fun c4=>?_⟩
    ·try simp at c4
     refine cH fun _ _ Z=>?_;simp;and_intros<;>(try omega);apply Z;apply aH;apply bJ;simp [bB, SI.cmpI, SI.lessI]
     (repeat' split) <;> omega
    ·try simp at c4
     apply aJ;apply aD;refine cH fun _ _ Z=>?_;simp;and_intros<;>(try omega);apply Z;apply aH;simp [bB, SI.cmpI, SI.lessI]
     (repeat' split) <;> omega
theorem Cg (x : EN) (s : Int) (σ : List (List D))  : Ct Tryd.prog 54 [cL x, D.int s] σ (fun r σ' => r = .int (SI.cmpI x.ID s) ∧ σ' = σ) := by
 refine zf (rs:=[.tmp 4]) Tryd.func54 Tryd.ntmps54 Tryd.results54 ?_;simp only [aU];refine cH fun _ _ Z=>?_;simp;and_intros<;>(try omega);apply Z;refine cH fun _ _ Z=>?_;refine aC 3 fun _ Y=>?_;simp;and_intros<;>(try omega);apply Y;simp only [List.drop];refine aI fun _ Y=>?_;simp;refine eV (yU x.ID s _) ?_;apply Y;simp;and_intros<;>(try omega);apply Z;apply aH;simp [bB]
theorem Qa (N cap : Nat) (l : List EN) (rest : List D) (c : Int) (σ : List (List D)) (hl : l.length ≤ 1000000) (hN : σ[N]? = some (l.flatMap cE ++ rest)) (hs : SI.Sorted nE l) : Ct Tryd.prog 53 [.slo N 0 l.length cap, D.int c, .clo (.func 54) [] []] σ (fun r σ' => r = .tup [.int ((SI.posL nE l c : Nat) : Int), .bool (SI.fnd nE l c)] ∧ σ' = σ) := by
 refine zf (rs:=[.tmp 6,.tmp 7]) Tryd.func53 Tryd.ntmps53 Tryd.results53 ?_;simp only [aU];refine zr ⟨[],[],[],[13,27,43],[]⟩ fun _ _ Z=>?_;simp (disch:=omega)[hN,aR,aS];and_intros<;>(try omega);apply Z;refine zr ⟨[],[],[],[13,27,43],[]⟩ fun _ _ Z=>?_;simp (disch:=omega)[hN,aR,aS];and_intros<;>(try omega);apply Z;refine zr ⟨[],[],[],[13,27,43],[]⟩ fun _ _ Z=>?_;simp (disch:=omega)[hN,aR,aS];and_intros<;>(try omega);apply Z;apply aE;apply aN;refine zk [0,1,2,6,7,8,9,10] ?_;refine dA (fun (s : Nat × Nat) => [(9, .d (.v (.int .i64 (s.1 : Int)))), (10, .d (.v (.int .i64 (s.2 : Int)))), (11, .d (.any))]) [9, 10, 11, 15, 16, 17, 18, 19, 20, 21, 22, 23, 24, 25, 26, 27, 28, 29, 30, 31, 32, 33, 34] (fun (s : Nat × Nat) => s.1 ≤ s.2 ∧ s.2 ≤ l.length ∧ (∀ j (h : j < l.length), j < s.1 → SI.lessI l[j].ID c = true) ∧ (∀ j (h : j < l.length), s.2 ≤ j → SI.lessI l[j].ID c = false)) (fun (s : Nat × Nat) => s.2 - s.1) ((0, l.length)) (by simp <;> rfl) ?_ ?_ ?_
 ·simp
 ·exact ⟨by omega, by omega, fun j h h2 => absurd h2 (by simp), fun j h h2 => absurd h2 (by simp; omega)⟩
 rintro ⟨lo, hi⟩ ⟨h1, h2, h3, h4⟩;simp only [List.cons_append, List.nil_append];dsimp only at h1 h2 h3 h4;have hmid : lo < hi → (lo + hi) / 2 < hi := fun h => by omega
 apply aE;refine zr ⟨[],[],[],[13,27,43],[]⟩ fun _ _ Z=>?_;simp (disch:=omega)[hN,aR,aS];and_intros<;>(try omega);apply Z;refine zi ?_;refine ⟨fun c1=>?_,fun c1=>?_⟩
 ·try simp at c1
  apply aJ;apply aD;apply aN;refine zk [0,1,2,6,7,8,9,10,11] ?_;refine zr ⟨[],[],[],[13,27,43],[]⟩ fun _ _ Z=>?_;simp (disch:=omega)[hN,aR,aS];and_intros<;>(try omega);apply Z;refine zk [0,1,2,6,7,8,9,10,11] ?_;refine zr ⟨[],[],[],[13,27,43],[]⟩ fun _ _ Z=>?_;refine aC 6 fun _ Y=>?_;simp (disch:=omega)[hN,aR,aS];and_intros<;>(try omega);apply Y;simp only [List.drop];refine aI fun _ Y=>?_;simp (disch:=omega)[hN,aR,aS];refine eV (Cg l[(lo + hi) / 2] c _) ?_;apply Y;simp (disch:=omega)[hN,aR,aS];and_intros<;>(try omega);apply Z;refine zi ?_;refine ⟨fun c2=>?_,fun c2=>?_⟩
  ·try simp at c2
   refine zk [0,1,2,6,7,8,9,10,11] ?_;refine zt ⟨[],[],[],[13,27,43],[]⟩ fun _ _ Z=>?_;simp (disch:=omega)[hN,aR,aS];and_intros<;>(try omega);apply Z;apply aX;refine bW (((lo + hi) / 2 + 1, hi)) ?_ ?_ (bK rfl ?_ (by simp) (by simp))
   ·exact ⟨by dsimp only; omega, by dsimp only; omega, SI.bs_lo nE hs (by omega) (by simpa [SI.cmpI_neg] using c2), h4⟩
   ·try dsimp only
    omega
   ·simp (disch:=omega)[hN,aR,aS]
  ·try simp at c2
   refine zk [0,1,2,6,7,8,9,10,11] ?_;refine zt ⟨[],[],[],[13,27,43],[]⟩ fun _ _ Z=>?_;simp (disch:=omega)[hN,aR,aS];and_intros<;>(try omega);apply Z;apply aX;refine bW ((lo, (lo + hi) / 2)) ?_ ?_ (bK rfl ?_ (by simp) (by simp))
   ·exact ⟨by dsimp only; omega, by dsimp only; omega, h3, SI.bs_hi nE hs (by omega) ((SI.cmpI_nn _ _).1 (by omega))⟩
   ·try dsimp only
    omega
   ·simp (disch:=omega)[hN,aR,aS]
 ·try simp at c1
  obtain rfl : lo = hi := by omega
  have hpos : SI.posL nE l c = lo := SI.posL_of nE l c lo h2 h3 (fun h => h4 lo h (Nat.le_refl _));apply bM;apply bO;apply bP;apply bE;apply aD;refine zk [0,1,2,6,7,8,9] ?_;refine Cu ⟨[],[],[],[13,27,43],[]⟩ fun all hall _ Z=>?_;have ga4 : aY all 4 = some 39 := hall 4;refine aC 5 fun _ Y=>?_;simp (disch:=omega)[hN,aR,aS,ga4];and_intros<;>(try omega);apply Y;simp only [List.drop];refine cC 39 (by simp <;> rfl) ?_;refine ⟨fun g3 => ?_, fun g3 => ?_⟩
  ·try simp at g3
   refine aC 6 fun _ Y=>?_;simp (disch:=omega)[hN,aR,aS,ga4];and_intros<;>(try omega);apply Y;simp only [List.drop];refine zg ga4 fun _ Y=>?_;simp (disch:=omega)[hN,aR,aS,ga4];refine eV (Cg l[lo] c _) ?_;apply Y;simp (disch:=omega)[hN,aR,aS,ga4];and_intros<;>(try omega);apply Z;apply aH;simp [bB, hpos, SI.fnd_at, *];exact SI.cmpI_zero _ _
  ·try simp at g3
   refine aC 8 fun _ Y=>?_;simp (disch:=omega)[hN,aR,aS,ga4];and_intros<;>(try omega);apply Y;simp only [List.drop];simp (disch:=omega)[hN,aR,aS,ga4];and_intros<;>(try omega);apply Z;apply aH;simp [bB, hpos, *];exact SI.fnd_out _ _ _ (by omega)
theorem Gq (N cap : Nat) (l : List EN) (rest : List D) (c : Int) (σ : List (List D)) (hl : l.length ≤ 1000000) (hN : σ[N]? = some (l.flatMap cE ++ rest)) (hs : SI.Sorted nE l) : Ct Tryd.prog 36 [.slo N 0 l.length cap, D.int c] σ (fun r σ' => r = .tup [.int ((SI.posL nE l c : Nat) : Int), .bool (SI.fnd nE l c)] ∧ σ' = σ) := by
 refine zf (rs:=[.tmp 4,.tmp 5]) Tryd.func36 Tryd.ntmps36 Tryd.results36 ?_;simp only [aU];refine cH fun _ _ Z=>?_;simp[hN];and_intros<;>(try omega);apply Z;refine cH fun _ _ Z=>?_;refine aC 2 fun _ Y=>?_;simp[hN];and_intros<;>(try omega);apply Y;simp only [List.drop];refine aI fun _ Y=>?_;simp[hN];refine eV (Qa N cap l rest c _ hl hN hs) ?_;apply Y;simp[hN];and_intros<;>(try omega);apply Z;apply aH;simp [bB]
theorem zI (l : List EN) (σ : List (List D)) (hl : l.length ≤ 999999) : Ct Tryd.prog 21 [.sl false (l.map cL)] σ (fun r σ' => r = .xs 5 ((SI.ofL nE l).map cL) ∧ ∃ J, σ' = σ ++ J) := by
 refine zf (rs:=[.tmp 2]) Tryd.func21 Tryd.ntmps21 Tryd.results21 ?_;simp only [aU];refine zr ⟨[2,3,26,30,32],[],[],[25],[]⟩ fun _ _ Z=>?_;simp (disch:=omega)[aL,aB,aG,aA];and_intros<;>(try omega);apply Z;refine zr ⟨[2,3,26,30,32],[],[],[25],[]⟩ fun _ _ Z=>?_;simp (disch:=omega)[aL,aB,aG,aA];and_intros<;>(try omega);apply Z;apply aE;refine zr ⟨[2,3,26,30,32],[],[],[25],[]⟩ fun _ _ Z=>?_;simp (disch:=omega)[aL,aB,aG,aA];and_intros<;>(try omega);apply Z;apply aN;refine zk [2,3,8,9,10] ?_;refine qG 3 5 (by simp <;> rfl) ?_;refine gB (fun (p : Nat × List (List D)) => [(10, .d (.v (.int .i64 (p.1 : Int)))), (3, .d (.xs 5 ((SI.ofL nE (l.take p.1)).map cL)))]) (fun (p : Nat × List (List D)) => []) (fun (p : Nat × List (List D)) => σ ++ p.2) [3, 5, 6, 7, 10, 11, 12, 13, 14, 15, 16, 17, 18, 19, 20, 21, 22, 23, 24, 25, 26, 27, 28, 29, 30, 31] (fun (p : Nat × List (List D)) => p.1 ≤ l.length) (fun (p : Nat × List (List D)) => l.length - p.1) ((0, [])) (by simp <;> rfl) ?_ (by simp) (by simp) ?_ ?_
 ·simp [SI.ofL]
 ·exact Nat.zero_le _
 rintro ⟨k, J⟩ hk;simp only [List.cons_append, List.nil_append];simp only at hk;have hol := SI.ofL_len nE (l.take k);simp only [List.length_take] at hol;have hso := SI.ofL_sorted nE (l.take k);obtain ⟨ρ, hρ⟩ : ∃ ρ, ρ = σ ++ J := ⟨_, rfl⟩;rw [← hρ];refine zr ⟨[2,3,26,30,32],[],[],[25],[]⟩ fun _ _ Z=>?_;simp (disch:=omega)[aL,aB,aG,aA];and_intros<;>(try omega);apply Z;apply aE;refine zi ?_;refine ⟨fun c1=>?_,fun c1=>?_⟩
 ·try simp at c1
  apply aJ;apply aD;apply aE;apply aN;refine zr ⟨[2,3,26,30,32],[],[],[25],[]⟩ fun _ _ Z=>?_;simp (disch:=omega)[aL,aB,aG,aA];and_intros<;>(try omega);apply Z;refine eN 3 5 rfl (by decide) fun cap rest hcap hcm hrest hk0 hes => ?_;subst hrest;simp only [List.length_map] at hcap ⊢;rw [aZ (f := cE) (fun _ => rfl)];have hpl := SI.posL_le nE (SI.ofL nE (l.take k)) l[k].ID;refine zr ⟨[2,3,26,30,32],[],[],[25],[]⟩ fun _ _ Z=>?_;refine aC 3 fun _ Y=>?_;simp (disch:=omega)[aL,aB,aG,aA];and_intros<;>(try omega);apply Y;simp only [List.drop];refine aI fun _ Y=>?_;simp (disch:=omega)[aL,aB,aG,aA];refine eV (Gq ρ.length cap (SI.ofL nE (l.take k)) (List.replicate ((cap - (SI.ofL nE (l.take k)).length) * 5) .any) l[k].ID _ (by omega) (by simp) hso) ?_;apply Y;simp (disch:=omega)[aL,aB,aG,aA];and_intros<;>(try omega);apply Z;refine zk [2,3,5,6,7,8,9,10] ?_;refine zr ⟨[2,3,26,30,32],[],[],[25],[]⟩ fun _ _ Z=>?_;simp (disch:=omega)[aL,aB,aG,aA];and_intros<;>(try omega);apply Z;refine zi ?_;refine ⟨fun c2=>?_,fun c2=>?_⟩
  ·try simp at c2
   have hlt := SI.fnd_lt nE c2;refine zt ⟨[2,3,26,30,32],[],[],[25],[]⟩ fun _ _ Z=>?_;simp (disch:=omega)[aL,aB,aG,aA];and_intros<;>(try omega);apply Z;apply aX;apply aD;refine cR 3 5 ρ.length (SI.ofL nE (l.take k)).length cap (((SI.ofL nE (l.take k)).set (SI.posL nE (SI.ofL nE (l.take k)) l[k].ID) l[k]).map cL) (((SI.ofL nE (l.take k)).set (SI.posL nE (SI.ofL nE (l.take k)) l[k].ID) l[k]).flatMap cE ++ List.replicate ((cap - (SI.ofL nE (l.take k)).length) * 5) .any) (by simp <;> rfl) (by simp) (by omega) (by simp only [List.length_append, bC (f := cE) (k := 5) (fun _ => rfl), List.length_replicate, List.length_set]; omega) (by simp) (dW (d := cL) (fun _ => ⟨rfl, rfl⟩) _) (by rw [aZ (f := cE) (fun _ => rfl)]; exact List.prefix_append _ _) ?_;refine zk [2,3,8,9,10] ?_;refine zt ⟨[2,3,26,30,32],[],[],[25],[]⟩ fun _ _ Z=>?_;simp (disch:=omega)[aL,aB,aG,aA];and_intros<;>(try omega);apply Z;refine bW ((k + 1, J ++ [[]])) ?_ ?_ (bK rfl ?_ (by simp) (by simp [hρ]))
   ·exact (by simp only at *; omega)
   ·try dsimp only
    omega
   ·simp (disch:=omega)[aL,aB,aG,aA,SI.ofL_take,SI.putL_eq,c2]
  ·try simp at c2
   refine cR 3 5 ρ.length (SI.ofL nE (l.take k)).length cap ((SI.ofL nE (l.take k)).map cL) ((SI.ofL nE (l.take k)).flatMap cE ++ List.replicate ((cap - (SI.ofL nE (l.take k)).length) * 5) .any) (by simp <;> rfl) (by simp) (by omega) (by simp only [List.length_append, bC (f := cE) (k := 5) (fun _ => rfl), List.length_replicate, List.length_set]; omega) (by simp) (dW (d := cL) (fun _ => ⟨rfl, rfl⟩) _) (by rw [aZ (f := cE) (fun _ => rfl)]; exact List.prefix_append _ _) ?_;refine zt ⟨[2,3,26,30,32],[],[],[25],[]⟩ fun _ _ Z=>?_;refine aC 4 fun _ Y=>?_;simp (disch:=omega)[aL,aB,aG,aA];and_intros<;>(try omega);apply Y;simp only [List.drop];refine aI fun _ Y=>?_;simp (disch:=omega)[aL,aB,aG,aA];refine eV (Mw (SI.ofL nE (l.take k)) l[k] (SI.posL nE (SI.ofL nE (l.take k)) l[k].ID) _ (by omega) hpl) ?_;apply Y;simp (disch:=omega)[aL,aB,aG,aA];and_intros<;>(try omega);apply Z;apply aX;apply aD;refine zk [2,3,8,9,10] ?_;refine zt ⟨[2,3,26,30,32],[],[],[25],[]⟩ fun _ _ Z=>?_;simp (disch:=omega)[aL,aB,aG,aA];and_intros<;>(try omega);apply Z;refine bW ((k + 1, J ++ [[]])) ?_ ?_ (bK rfl ?_ (by simp) (by simp [hρ]))
   ·exact (by simp only at *; omega)
   ·try dsimp only
    omega
   ·simp (disch:=omega)[aL,aB,aG,aA,SI.ofL_take,SI.putL_eq,c2]
 ·try simp at c1
  rw [List.take_of_length_le (by omega)];apply bM;apply bO;apply bP;apply bE;apply aD;refine zr ⟨[2,3,26,30,32],[],[],[25],[]⟩ fun _ _ Z=>?_;simp (disch:=omega)[aL,aB,aG,aA];and_intros<;>(try omega);apply Z;apply aH;simp [bB];exact ⟨J, hρ⟩
theorem xJ (l : List EN) (σ : List (List D)) (hl : l.length ≤ 999999) : Ct Tryd.prog 21 [.sl false (l.map cL)] σ (fun r σ' => r = .xs 5 ((SI.ofL nE l).map cL) ∧ σ' = σ) :=
 (zI l σ hl).trim fun r σ' ⟨hr, J, hs⟩ => ⟨σ, J, hs, rfl, by rw [hr]; exact Rm _ _, fun n cs h => .inl h, hr, rfl⟩
theorem Nd (l : List EN) (σ : List (List D)) (hl : l.length ≤ 999999) : Ct Tryd.prog 21 [.sl false (l.map cL)] σ (fun r σ' => r = .sl false ((SI.ofL nE l).map cL) ∧ σ' = σ) := (xJ l σ hl).freeze fun _ _ h => h
theorem yO (l : List EN) (c : Int) (σ : List (List D)) (hl : l.length ≤ 999999) (hs : SI.Sorted nE l) : Ct Tryd.prog 41 [.sl false (l.map cL), D.int c] σ (fun r σ' => (∀ h : SI.posL nE l c < l.length, SI.fnd nE l c = true → r = .tup [.agg [D.int (l[SI.posL nE l c]).rect.x, D.int (l[SI.posL nE l c]).rect.y, D.int (l[SI.posL nE l c]).rect.w, D.int (l[SI.posL nE l c]).rect.h], .bool true]) ∧ (SI.fnd nE l c = false → r = .tup [.agg [D.int 0, D.int 0, D.int 0, D.int 0], .bool false]) ∧ ∃ J, σ' = σ ++ J) := by
 refine zf (rs:=[.cell 4 51,.tmp 5]) Tryd.func41 Tryd.ntmps41 Tryd.results41 ?_;simp only [aU];refine zr ⟨[6,10],[],[],[20],[]⟩ fun _ _ Z=>?_;simp (disch:=omega)[aB,aA,lL];and_intros<;>(try omega);apply Z;refine zr ⟨[6,10],[],[],[20],[]⟩ fun _ _ Z=>?_;refine aC 1 fun _ Y=>?_;simp (disch:=omega)[aB,aA,lL];and_intros<;>(try omega);apply Y;simp only [List.drop];refine aI fun _ Y=>?_;simp (disch:=omega)[aB,aA,lL];refine eV (xJ l _ hl) ?_;rw [SI.ofL_id nE hs];apply Y;simp (disch:=omega)[aB,aA,lL];and_intros<;>(try omega);apply Z;apply aE;refine eN 6 5 rfl (by decide) fun cap rest hcap hcm hrest hk0 hes => ?_;subst hrest;simp only [List.length_map] at hcap ⊢;rw [aZ (f := cE) (fun _ => rfl)];refine zr ⟨[6,10],[],[],[20],[]⟩ fun _ _ Z=>?_;refine aC 2 fun _ Y=>?_;simp (disch:=omega)[aB,aA,lL];and_intros<;>(try omega);apply Y;simp only [List.drop];refine aI fun _ Y=>?_;simp (disch:=omega)[aB,aA,lL];refine eV (Gq σ.length cap l (List.replicate ((cap - l.length) * 5) .any) c _ (by omega) (by simp [aB]) hs) ?_;apply Y;simp (disch:=omega)[aB,aA,lL];and_intros<;>(try omega);apply Z;refine zk [4,5,6,7,8] ?_;refine zr ⟨[6,10],[],[],[20],[]⟩ fun _ _ Z=>?_;simp (disch:=omega)[aB,aA,lL];and_intros<;>(try omega);apply Z;refine zi ?_;refine ⟨fun c1=>?_,fun c1=>?_⟩
 ·try simp at c1
  have hlt := SI.fnd_lt nE c1;refine zr ⟨[6,10],[],[],[20],[]⟩ fun _ _ Z=>?_;simp (disch:=omega)[aB,aA,lL];and_intros<;>(try omega);apply Z;apply aH;apply bJ;simp [bB, c1]
 ·try simp at c1
  apply aJ;apply aD;refine zr ⟨[6,10],[],[],[20],[]⟩ fun _ _ Z=>?_;simp (disch:=omega)[aB,aA,lL];and_intros<;>(try omega);apply Z;apply aH;simp [bB, c1]
theorem Nm (l : List EN) (c : Int) (x : EN) (σ : List (List D)) (hl : l.length ≤ 999999) (hs : SI.Sorted nE l) (h1 : l[SI.posL nE l c]? = some x) (h2 : SI.fnd nE l c = true) : Ct Tryd.prog 41 [.sl false (l.map cL), D.int c] σ (fun r σ' => r = .tup [.agg [D.int x.rect.x, D.int x.rect.y, D.int x.rect.w, D.int x.rect.h], .bool true] ∧ σ' = σ) :=
 (yO l c σ hl hs).trim fun r σ' ⟨hr, _, J, hs'⟩ => by
  obtain ⟨hlt, hx⟩ := List.getElem?_eq_some_iff.1 h1;have hr := hr hlt h2;rw [hx] at hr;have hsc : Sc σ.length r := by
   rw [hr];exact Sc.tup fun d hd => by
    simp at hd;rcases hd with rfl | rfl
    ·exact Sc.agg fun e he => by simp at he; rcases he with rfl | rfl | rfl | rfl <;> exact Sc.v _
    ·exact Sc.v _
  exact ⟨σ, J, hs', rfl, hsc, fun n cs h => .inl h, hr, rfl⟩
end Go.Proofs.YtighdhfgcdjmeaaDoor

