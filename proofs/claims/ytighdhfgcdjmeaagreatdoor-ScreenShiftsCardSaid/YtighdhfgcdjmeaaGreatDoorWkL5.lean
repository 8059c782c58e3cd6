import Derived.Test.YtighdhfgcdjmeaaGreatDoorWkL4
import Derived.Test.YtighdhfgcdjmeaaGreatDoorLaSnap
namespace Go.Proofs.YtighdhfgcdjmeaaGreatDoor
open Go Go.Vm
set_option maxRecDepth 20000
set_option linter.all false
set_option maxHeartbeats 8000000
abbrev nE : EN → Int := EN.ID
attribute [simp] cE
@[simp high] theorem mB (l : List EN) (rest : List D) (i : Nat) (h : i < l.length) : lD true 4 ((l.flatMap cE ++ rest).drop (i * 5 + 1)) = some (.agg [D.int l[i].rect.x, D.int l[i].rect.y, D.int l[i].rect.w, D.int l[i].rect.h]) := by
 have := gC (f := cE) (k := 5) (fun _ => rfl) l i h;have e : (l.flatMap cE ++ rest).drop (i * 5 + 1) = ((l.flatMap cE ++ rest).drop (i * 5)).drop 1 := by rw [List.drop_drop]
 have e2 : (l.flatMap cE ++ rest).drop (i * 5) = (l.drop i).flatMap cE ++ rest := by
  rw [← List.take_append_drop i l, List.flatMap_append, List.append_assoc, ← this, List.drop_left, List.take_append_drop]
 rw [e, e2, List.drop_eq_getElem_cons h];rfl
@[simp high] theorem aBo (l : List EN) : (l.flatMap cE).length = l.length * 5 := bM (f := cE) (fun _ => rfl) l
@[simp high] theorem aHj (l : List EN) (rest : List D) (i : Nat) (h : i < l.length) : lD true 5 ((l.flatMap cE ++ rest).drop (i * 5)) = some (.agg (cE l[i])) := xC (f := cE) (fun _ => rfl) l rest i h
@[simp high] theorem aEl (l : List EN) (rest : List D) (i : Nat) (x : EN) (h : i < l.length) : bO (l.flatMap cE ++ rest) (i * 5) [D.int x.ID, D.int x.rect.x, D.int x.rect.y, D.int x.rect.w, D.int x.rect.h] = (l.set i x).flatMap cE ++ rest := kR (f := cE) (fun _ => rfl) l rest i x h
theorem vD (s : Int) (σ : List (List D))  : Ct Tryz.prog 96 [D.int s] σ (fun r σ' => r = .bool false ∧ σ' = σ) := by
 refine zf (rs:=[.tmp 2]) Tryz.func96 Tryz.ntmps96 Tryz.results96 ?_;simp only [aQ];refine bV fun _ _ Z=>?_;simp;and_intros<;>(try omega);apply Z;refine bV fun _ _ Z=>?_;simp;and_intros<;>(try omega);apply Z;apply aF;simp [aS]
theorem yY (a b : Int) (σ : List (List D))  : Ct Tryz.prog 72 [D.int a, D.int b] σ (fun r σ' => r = .int (SI.cmpI a b) ∧ σ' = σ) := by
 refine zf (rs:=[.tmp 4]) Tryz.func72 Tryz.ntmps72 Tryz.results72 ?_;simp only [aQ];refine bV fun _ _ Z=>?_;simp;and_intros<;>(try omega);apply Z;refine bV fun _ _ Z=>?_;refine aB 1 fun _ Y=>?_;simp;and_intros<;>(try omega);apply Y;simp only [List.drop];refine aH fun _ Y=>?_;simp;refine dW (vD a _) ?_;apply Y;simp;and_intros<;>(try omega);apply Z;refine bV fun _ _ Z=>?_;refine aB 1 fun _ Y=>?_;simp;and_intros<;>(try omega);apply Y;simp only [List.drop];refine aH fun _ Y=>?_;simp;refine dW (vD b _) ?_;apply Y;simp;and_intros<;>(try omega);apply Z;apply aE;refine bV fun _ _ Z=>?_;simp;and_intros<;>(try omega);apply Z;refine zi ?_;refine ⟨fun c1=>?_,fun c1=>?_⟩
 ·simp at c1
 ·try simp at c1
  apply aG;apply aC;apply aE;refine bV fun _ _ Z=>?_;simp;and_intros<;>(try omega);apply Z;refine zi ?_;refine ⟨fun c2=>?_,fun c2=>?_⟩
  ·simp at c2
  ·try simp at c2
   apply aG;apply aC;apply aE;refine bV fun _ _ Z=>?_;simp;and_intros<;>(try omega);apply Z;refine zi ?_;refine ⟨fun c3=>?_,fun c3=>?_⟩
   ·try simp at c3
    refine zk [0,1,4] ?_;refine bV fun _ _ Z=>?_;simp;and_intros<;>(try omega);apply Z;apply aF;apply bK;simp [aS, SI.cmpI, SI.lessI]
    (repeat' split) <;> omega
   ·try simp at c3
    apply aG;apply aC;apply aE;refine zk [0,1,4] ?_;refine bV fun _ _ Z=>?_;simp;and_intros<;>(try omega);apply Z;refine zi ?_;refine ⟨fun c4=>?_,fun c4=>?_⟩
    ·try simp at c4
     refine bV fun _ _ Z=>?_;simp;and_intros<;>(try omega);apply Z;apply aF;apply bK;simp [aS, SI.cmpI, SI.lessI]
     (repeat' split) <;> omega
    ·try simp at c4
     apply aG;apply aC;refine bV fun _ _ Z=>?_;simp;and_intros<;>(try omega);apply Z;apply aF;simp [aS, SI.cmpI, SI.lessI]
     (repeat' split) <;> omega
theorem Eh (x : EN) (s : Int) (σ : List (List D))  : Ct Tryz.prog 71 [bP x, D.int s] σ (fun r σ' => r = .int (SI.cmpI x.ID s) ∧ σ' = σ) := by
 refine zf (rs:=[.tmp 4]) Tryz.func71 Tryz.ntmps71 Tryz.results71 ?_;simp only [aQ];refine bV fun _ _ Z=>?_;simp;and_intros<;>(try omega);apply Z;refine bV fun _ _ Z=>?_;refine aB 3 fun _ Y=>?_;simp;and_intros<;>(try omega);apply Y;simp only [List.drop];refine aH fun _ Y=>?_;simp;refine dW (yY x.ID s _) ?_;apply Y;simp;and_intros<;>(try omega);apply Z;apply aF;simp [aS]
theorem Sg (N cap : Nat) (l : List EN) (rest : List D) (c : Int) (σ : List (List D)) (hl : l.length ≤ 1000000) (hN : σ[N]? = some (l.flatMap cE ++ rest)) (hs : SI.Sorted nE l) : Ct Tryz.prog 70 [.slo N 0 l.length cap, D.int c, .clo (.func 71) [] []] σ (fun r σ' => r = .tup [.int ((SI.posL nE l c : Nat) : Int), .bool (SI.fnd nE l c)] ∧ σ' = σ) := by
 refine zf (rs:=[.tmp 6,.tmp 7]) Tryz.func70 Tryz.ntmps70 Tryz.results70 ?_;simp only [aQ];refine zr ⟨[],[],[],[13,27,43],[]⟩ fun _ _ Z=>?_;simp (disch:=omega)[hN,aW,aX];and_intros<;>(try omega);apply Z;refine zr ⟨[],[],[],[13,27,43],[]⟩ fun _ _ Z=>?_;simp (disch:=omega)[hN,aW,aX];and_intros<;>(try omega);apply Z;refine zr ⟨[],[],[],[13,27,43],[]⟩ fun _ _ Z=>?_;simp (disch:=omega)[hN,aW,aX];and_intros<;>(try omega);apply Z;apply aE;apply aI;refine zk [0,1,2,6,7,8,9,10] ?_;refine cM (fun (s : Nat × Nat) => [(9, .d (.v (.int .i64 (s.1 : Int)))), (10, .d (.v (.int .i64 (s.2 : Int)))), (11, .d (.any))]) [9, 10, 11, 15, 16, 17, 18, 19, 20, 21, 22, 23, 24, 25, 26, 27, 28, 29, 30, 31, 32, 33, 34] (fun (s : Nat × Nat) => s.1 ≤ s.2 ∧ s.2 ≤ l.length ∧ (∀ j (h : j < l.length), j < s.1 → SI.lessI l[j].ID c = true) ∧ (∀ j (h : j < l.length), s.2 ≤ j → SI.lessI l[j].ID c = false)) (fun (s : Nat × Nat) => s.2 - s.1) ((0, l.length)) (by simp <;> rfl) ?_ ?_ ?_
 ·simp
 ·exact ⟨by omega, by omega, fun j h h2 => absurd h2 (by simp), fun j h h2 => absurd h2 (by simp; omega)⟩
 rintro ⟨lo, hi⟩ ⟨h1, h2, h3, h4⟩;simp only [List.cons_append, List.nil_append];dsimp only at h1 h2 h3 h4;have hmid : lo < hi → (lo + hi) / 2 < hi := fun h => by omega
 apply aE;refine zr ⟨[],[],[],[13,27,43],[]⟩ fun _ _ Z=>?_;simp (disch:=omega)[hN,aW,aX];and_intros<;>(try omega);apply Z;refine zi ?_;refine ⟨fun c1=>?_,fun c1=>?_⟩
 ·try simp at c1
  apply aG;apply aC;apply aI;refine zk [0,1,2,6,7,8,9,10,11] ?_;refine zr ⟨[],[],[],[13,27,43],[]⟩ fun _ _ Z=>?_;simp (disch:=omega)[hN,aW,aX];and_intros<;>(try omega);apply Z;refine zk [0,1,2,6,7,8,9,10,11] ?_;refine zr ⟨[],[],[],[13,27,43],[]⟩ fun _ _ Z=>?_;refine aB 6 fun _ Y=>?_;simp (disch:=omega)[hN,aW,aX];and_intros<;>(try omega);apply Y;simp only [List.drop];refine aH fun _ Y=>?_;simp (disch:=omega)[hN,aW,aX];refine dW (Eh l[(lo + hi) / 2] c _) ?_;apply Y;simp (disch:=omega)[hN,aW,aX];and_intros<;>(try omega);apply Z;refine zi ?_;refine ⟨fun c2=>?_,fun c2=>?_⟩
  ·try simp at c2
   refine zk [0,1,2,6,7,8,9,10,11] ?_;refine zt ⟨[],[],[],[13,27,43],[]⟩ fun _ _ Z=>?_;simp (disch:=omega)[hN,aW,aX];and_intros<;>(try omega);apply Z;apply aN;refine bJ (((lo + hi) / 2 + 1, hi)) ?_ ?_ (aV rfl ?_ (by simp) (by simp))
   ·exact ⟨by dsimp only; omega, by dsimp only; omega, SI.bs_lo nE hs (by omega) (by simpa [SI.cmpI_neg] using c2), h4⟩
   ·try dsimp only
    omega
   ·simp (disch:=omega)[hN,aW,aX]
  ·try simp at c2
   refine zk [0,1,2,6,7,8,9,10,11] ?_;refine zt ⟨[],[],[],[13,27,43],[]⟩ fun _ _ Z=>?_;simp (disch:=omega)[hN,aW,aX];and_intros<;>(try omega);apply Z;apply aN;refine bJ ((lo, (lo + hi) / 2)) ?_ ?_ (aV rfl ?_ (by simp) (by simp))
   ·exact ⟨by dsimp only; omega, by dsimp only; omega, h3, SI.bs_hi nE hs (by omega) ((SI.cmpI_nn _ _).1 (by omega))⟩
   ·try dsimp only
    omega
   ·simp (disch:=omega)[hN,aW,aX]
 ·try simp at c1
  obtain rfl : lo = hi := by omega
  have hpos : SI.posL nE l c = lo := SI.posL_of nE l c lo h2 h3 (fun h => h4 lo h (Nat.le_refl _));apply bD;apply bE;apply bG;apply aY;apply aC;refine zk [0,1,2,6,7,8,9] ?_;refine Du ⟨[],[],[],[13,27,43],[]⟩ fun all hall _ Z=>?_;have ga4 : bA all 4 = some 39 := hall 4;refine aB 5 fun _ Y=>?_;simp (disch:=omega)[hN,aW,aX,ga4];and_intros<;>(try omega);apply Y;simp only [List.drop];refine cJ 39 (by simp <;> rfl) ?_;refine ⟨fun g3 => ?_, fun g3 => ?_⟩
  ·try simp at g3
   refine aB 6 fun _ Y=>?_;simp (disch:=omega)[hN,aW,aX,ga4];and_intros<;>(try omega);apply Y;simp only [List.drop];refine zg ga4 fun _ Y=>?_;simp (disch:=omega)[hN,aW,aX,ga4];refine dW (Eh l[lo] c _) ?_;apply Y;simp (disch:=omega)[hN,aW,aX,ga4];and_intros<;>(try omega);apply Z;apply aF;simp [aS, hpos, SI.fnd_at, *];exact SI.cmpI_zero _ _
  ·try simp at g3
   refine aB 8 fun _ Y=>?_;simp (disch:=omega)[hN,aW,aX,ga4];and_intros<;>(try omega);apply Y;simp only [List.drop];simp (disch:=omega)[hN,aW,aX,ga4];and_intros<;>(try omega);apply Z;apply aF;simp [aS, hpos, *];exact SI.fnd_out _ _ _ (by omega)
theorem Mp (N cap : Nat) (l : List EN) (rest : List D) (c : Int) (σ : List (List D)) (hl : l.length ≤ 1000000) (hN : σ[N]? = some (l.flatMap cE ++ rest)) (hs : SI.Sorted nE l) : Ct Tryz.prog 46 [.slo N 0 l.length cap, D.int c] σ (fun r σ' => r = .tup [.int ((SI.posL nE l c : Nat) : Int), .bool (SI.fnd nE l c)] ∧ σ' = σ) := by
 refine zf (rs:=[.tmp 4,.tmp 5]) Tryz.func46 Tryz.ntmps46 Tryz.results46 ?_;simp only [aQ];refine bV fun _ _ Z=>?_;simp[hN];and_intros<;>(try omega);apply Z;refine bV fun _ _ Z=>?_;refine aB 2 fun _ Y=>?_;simp[hN];and_intros<;>(try omega);apply Y;simp only [List.drop];refine aH fun _ Y=>?_;simp[hN];refine dW (Sg N cap l rest c _ hl hN hs) ?_;apply Y;simp[hN];and_intros<;>(try omega);apply Z;apply aF;simp [aS]
theorem Dm (l : List EN) (σ : List (List D)) (hl : l.length ≤ 999999) : Ct Tryz.prog 23 [.sl false (l.map bP)] σ (fun r σ' => r = .xs 5 ((SI.ofL nE l).map bP) ∧ ∃ J, σ' = σ ++ J) := by
 refine zf (rs:=[.tmp 2]) Tryz.func23 Tryz.ntmps23 Tryz.results23 ?_;simp only [aQ];refine zr ⟨[2,3,26,30,32],[],[],[25],[]⟩ fun _ _ Z=>?_;simp (disch:=omega)[aO,aD,aK,aA];and_intros<;>(try omega);apply Z;refine zr ⟨[2,3,26,30,32],[],[],[25],[]⟩ fun _ _ Z=>?_;simp (disch:=omega)[aO,aD,aK,aA];and_intros<;>(try omega);apply Z;apply aE;refine zr ⟨[2,3,26,30,32],[],[],[25],[]⟩ fun _ _ Z=>?_;simp (disch:=omega)[aO,aD,aK,aA];and_intros<;>(try omega);apply Z;apply aI;refine zk [2,3,8,9,10] ?_;refine sD 3 5 (by simp <;> rfl) ?_;refine fS (fun (p : Nat × List (List D)) => [(10, .d (.v (.int .i64 (p.1 : Int)))), (3, .d (.xs 5 ((SI.ofL nE (l.take p.1)).map bP)))]) (fun (p : Nat × List (List D)) => []) (fun (p : Nat × List (List D)) => σ ++ p.2) [3, 5, 6, 7, 10, 11, 12, 13, 14, 15, 16, 17, 18, 19, 20, 21, 22, 23, 24, 25, 26, 27, 28, 29, 30, 31] (fun (p : Nat × List (List D)) => p.1 ≤ l.length) (fun (p : Nat × List (List D)) => l.length - p.1) ((0, [])) (by simp <;> rfl) ?_ (by simp) (by simp) ?_ ?_
 ·simp [SI.ofL]
 ·exact Nat.zero_le _
 rintro ⟨k, J⟩ hk;simp only [List.cons_append, List.nil_append];simp only at hk;have hol := SI.ofL_len nE (l.take k);simp only [List.length_take] at hol;have hso := SI.ofL_sorted nE (l.take k);obtain ⟨ρ, hρ⟩ : ∃ ρ, ρ = σ ++ J := ⟨_, rfl⟩;rw [← hρ];refine zr ⟨[2,3,26,30,32],[],[],[25],[]⟩ fun _ _ Z=>?_;simp (disch:=omega)[aO,aD,aK,aA];and_intros<;>(try omega);apply Z;apply aE;refine zi ?_;refine ⟨fun c1=>?_,fun c1=>?_⟩
 ·try simp at c1
  apply aG;apply aC;apply aE;apply aI;refine zr ⟨[2,3,26,30,32],[],[],[25],[]⟩ fun _ _ Z=>?_;simp (disch:=omega)[aO,aD,aK,aA];and_intros<;>(try omega);apply Z;refine eT 3 5 rfl (by decide) fun cap rest hcap hcm hrest hk0 hes => ?_;subst hrest;simp only [List.length_map] at hcap ⊢;rw [bI (f := cE) (fun _ => rfl)];have hpl := SI.posL_le nE (SI.ofL nE (l.take k)) l[k].ID;refine zr ⟨[2,3,26,30,32],[],[],[25],[]⟩ fun _ _ Z=>?_;refine aB 3 fun _ Y=>?_;simp (disch:=omega)[aO,aD,aK,aA];and_intros<;>(try omega);apply Y;simp only [List.drop];refine aH fun _ Y=>?_;simp (disch:=omega)[aO,aD,aK,aA];refine dW (Mp ρ.length cap (SI.ofL nE (l.take k)) (List.replicate ((cap - (SI.ofL nE (l.take k)).length) * 5) .any) l[k].ID _ (by omega) (by simp) hso) ?_;apply Y;simp (disch:=omega)[aO,aD,aK,aA];and_intros<;>(try omega);apply Z;refine zk [2,3,5,6,7,8,9,10] ?_;refine zr ⟨[2,3,26,30,32],[],[],[25],[]⟩ fun _ _ Z=>?_;simp (disch:=omega)[aO,aD,aK,aA];and_intros<;>(try omega);apply Z;refine zi ?_;refine ⟨fun c2=>?_,fun c2=>?_⟩
  ·try simp at c2
   have hlt := SI.fnd_lt nE c2;refine zt ⟨[2,3,26,30,32],[],[],[25],[]⟩ fun _ _ Z=>?_;simp (disch:=omega)[aO,aD,aK,aA];and_intros<;>(try omega);apply Z;apply aN;apply aC;refine dB 3 5 ρ.length (SI.ofL nE (l.take k)).length cap (((SI.ofL nE (l.take k)).set (SI.posL nE (SI.ofL nE (l.take k)) l[k].ID) l[k]).map bP) (((SI.ofL nE (l.take k)).set (SI.posL nE (SI.ofL nE (l.take k)) l[k].ID) l[k]).flatMap cE ++ List.replicate ((cap - (SI.ofL nE (l.take k)).length) * 5) .any) (by simp <;> rfl) (by simp) (by omega) (by simp only [List.length_append, bM (f := cE) (k := 5) (fun _ => rfl), List.length_replicate, List.length_set]; omega) (by simp) (eG (d := bP) (fun _ => ⟨rfl, rfl⟩) _) (by rw [bI (f := cE) (fun _ => rfl)]; exact List.prefix_append _ _) ?_;refine zk [2,3,8,9,10] ?_;refine zt ⟨[2,3,26,30,32],[],[],[25],[]⟩ fun _ _ Z=>?_;simp (disch:=omega)[aO,aD,aK,aA];and_intros<;>(try omega);apply Z;refine bJ ((k + 1, J ++ [[]])) ?_ ?_ (aV rfl ?_ (by simp) (by simp [hρ]))
   ·exact (by simp only at *; omega)
   ·try dsimp only
    omega
   ·simp (disch:=omega)[aO,aD,aK,aA,SI.ofL_take,SI.putL_eq,c2]
  ·try simp at c2
   refine dB 3 5 ρ.length (SI.ofL nE (l.take k)).length cap ((SI.ofL nE (l.take k)).map bP) ((SI.ofL nE (l.take k)).flatMap cE ++ List.replicate ((cap - (SI.ofL nE (l.take k)).length) * 5) .any) (by simp <;> rfl) (by simp) (by omega) (by simp only [List.length_append, bM (f := cE) (k := 5) (fun _ => rfl), List.length_replicate, List.length_set]; omega) (by simp) (eG (d := bP) (fun _ => ⟨rfl, rfl⟩) _) (by rw [bI (f := cE) (fun _ => rfl)]; exact List.prefix_append _ _) ?_;refine zt ⟨[2,3,26,30,32],[],[],[25],[]⟩ fun _ _ Z=>?_;refine aB 4 fun _ Y=>?_;simp (disch:=omega)[aO,aD,aK,aA];and_intros<;>(try omega);apply Y;simp only [List.drop];refine aH fun _ Y=>?_;simp (disch:=omega)[aO,aD,aK,aA];refine dW (Qt (SI.ofL nE (l.take k)) l[k] (SI.posL nE (SI.ofL nE (l.take k)) l[k].ID) _ (by omega) hpl) ?_;apply Y;simp (disch:=omega)[aO,aD,aK,aA];and_intros<;>(try omega);apply Z;apply aN;apply aC;refine zk [2,3,8,9,10] ?_;refine zt ⟨[2,3,26,30,32],[],[],[25],[]⟩ fun _ _ Z=>?_;simp (disch:=omega)[aO,aD,aK,aA];and_intros<;>(try omega);apply Z;refine bJ ((k + 1, J ++ [[]])) ?_ ?_ (aV rfl ?_ (by simp) (by simp [hρ]))
   ·exact (by simp only at *; omega)
   ·try dsimp only
    omega
   ·simp (disch:=omega)[aO,aD,aK,aA,SI.ofL_take,SI.putL_eq,c2]
 ·try simp at c1
  rw [List.take_of_length_le (by omega)];apply bD;apply bE;apply bG;apply aY;apply aC;refine zr ⟨[2,3,26,30,32],[],[],[25],[]⟩ fun _ _ Z=>?_;simp (disch:=omega)[aO,aD,aK,aA];and_intros<;>(try omega);apply Z;apply aF;simp [aS];exact ⟨J, hρ⟩
theorem Ao (l : List EN) (σ : List (List D)) (hl : l.length ≤ 999999) : Ct Tryz.prog 23 [.sl false (l.map bP)] σ (fun r σ' => r = .xs 5 ((SI.ofL nE l).map bP) ∧ σ' = σ) :=
 (Dm l σ hl).trim fun r σ' ⟨hr, J, hs⟩ => ⟨σ, J, hs, rfl, by rw [hr]; exact We _ _, fun n cs h => .inl h, hr, rfl⟩
theorem xU (l : List EN) (σ : List (List D)) (hl : l.length ≤ 999999) : Ct Tryz.prog 23 [.sl false (l.map bP)] σ (fun r σ' => r = .sl false ((SI.ofL nE l).map bP) ∧ σ' = σ) := (Ao l σ hl).freeze fun _ _ h => h
theorem As (l : List EN) (c : Int) (σ : List (List D)) (hl : l.length ≤ 999999) (hs : SI.Sorted nE l) : Ct Tryz.prog 32 [.sl false (l.map bP), D.int c] σ (fun r σ' => (∀ h : SI.posL nE l c < l.length, SI.fnd nE l c = true → r = .tup [.agg [D.int (l[SI.posL nE l c]).rect.x, D.int (l[SI.posL nE l c]).rect.y, D.int (l[SI.posL nE l c]).rect.w, D.int (l[SI.posL nE l c]).rect.h], .bool true]) ∧ (SI.fnd nE l c = false → r = .tup [.agg [D.int 0, D.int 0, D.int 0, D.int 0], .bool false]) ∧ ∃ J, σ' = σ ++ J) := by
 refine zf (rs:=[.cell 4 64,.tmp 5]) Tryz.func32 Tryz.ntmps32 Tryz.results32 ?_;simp only [aQ];refine zr ⟨[6,10],[],[],[20],[]⟩ fun _ _ Z=>?_;simp (disch:=omega)[aD,aA,mB];and_intros<;>(try omega);apply Z;refine zr ⟨[6,10],[],[],[20],[]⟩ fun _ _ Z=>?_;refine aB 1 fun _ Y=>?_;simp (disch:=omega)[aD,aA,mB];and_intros<;>(try omega);apply Y;simp only [List.drop];refine aH fun _ Y=>?_;simp (disch:=omega)[aD,aA,mB];refine dW (Ao l _ hl) ?_;rw [SI.ofL_id nE hs];apply Y;simp (disch:=omega)[aD,aA,mB];and_intros<;>(try omega);apply Z;apply aE;refine eT 6 5 rfl (by decide) fun cap rest hcap hcm hrest hk0 hes => ?_;subst hrest;simp only [List.length_map] at hcap ⊢;rw [bI (f := cE) (fun _ => rfl)];refine zr ⟨[6,10],[],[],[20],[]⟩ fun _ _ Z=>?_;refine aB 2 fun _ Y=>?_;simp (disch:=omega)[aD,aA,mB];and_intros<;>(try omega);apply Y;simp only [List.drop];refine aH fun _ Y=>?_;simp (disch:=omega)[aD,aA,mB];refine dW (Mp σ.length cap l (List.replicate ((cap - l.length) * 5) .any) c _ (by omega) (by simp [aD]) hs) ?_;apply Y;simp (disch:=omega)[aD,aA,mB];and_intros<;>(try omega);apply Z;refine zk [4,5,6,7,8] ?_;refine zr ⟨[6,10],[],[],[20],[]⟩ fun _ _ Z=>?_;simp (disch:=omega)[aD,aA,mB];and_intros<;>(try omega);apply Z;refine zi ?_;refine ⟨fun c1=>?_,fun c1=>?_⟩
 ·try simp at c1
  have hlt := SI.fnd_lt nE c1;refine zr ⟨[6,10],[],[],[20],[]⟩ fun _ _ Z=>?_;simp (disch:=omega)[aD,aA,mB];and_intros<;>(try omega);apply Z;apply aF;apply bK;simp [aS, c1]
 ·try simp at c1
  apply aG;apply aC;refine zr ⟨[6,10],[],[],[20],[]⟩ fun _ _ Z=>?_;simp (disch:=omega)[aD,aA,mB];and_intros<;>(try omega);apply Z;apply aF;simp [aS, c1]
theorem Ot (l : List EN) (c : Int) (x : EN) (σ : List (List D)) (hl : l.length ≤ 999999) (hs : SI.Sorted nE l) (h1 : l[SI.posL nE l c]? = some x) (h2 : SI.fnd nE l c = true) : Ct Tryz.prog 32 [.sl false (l.map bP), D.int c] σ (fun r σ' => r = .tup [.agg [D.int x.rect.x, D.int x.rect.y, D.int x.rect.w, D.int x.rect.h], .bool true] ∧ σ' = σ) :=
 (As l c σ hl hs).trim fun r σ' ⟨hr, _, J, hs'⟩ => by
  obtain ⟨hlt, hx⟩ := List.getElem?_eq_some_iff.1 h1;have hr := hr hlt h2;rw [hx] at hr;have hsc : Sc σ.length r := by
   rw [hr];exact Sc.tup fun d hd => by
    simp at hd;rcases hd with rfl | rfl
    ·exact Sc.agg fun e he => by simp at he; rcases he with rfl | rfl | rfl | rfl <;> exact Sc.v _
    ·exact Sc.v _
  exact ⟨σ, J, hs', rfl, hsc, fun n cs h => .inl h, hr, rfl⟩
end Go.Proofs.YtighdhfgcdjmeaaGreatDoor

