import Derived.Test.YtighdhfgcdjmeaaDoorWkL3
namespace Go.Proofs.YtighdhfgcdjmeaaDoor
open Go Go.Vm
set_option maxRecDepth 20000
set_option linter.all false
set_option maxHeartbeats 8000000
def mO (l : List PI) (c : ByteArray) : Int := ((l.find? fun p => decide (p.name = c)).map PI.value).getD 0
theorem xL : ∀ {l : List PI}, Sorted nP l → ∀ {c : ByteArray} (h : posL nP l c < l.length), fnd nP l c = true → l[posL nP l c].value = mO l c
 | [], _, c, h, _ => by simp at h
 | q :: l, hs, c, h, hf => by
  unfold mO;by_cases hq : cI (nP q) c = true
  ·have e : posL nP (q :: l) c = posL nP l c + 1 := by simp [posL, hq]
   have hf' : fnd nP l c = true := by simpa [fnd, hq] using hf
   have hne : ¬ q.name = c := hS hq;simp only [e, List.getElem_cons_succ, List.find?_cons, hne, decide_false];exact xL (List.Pairwise.of_cons hs) _ hf'
  ·have e : posL nP (q :: l) c = 0 := by simp [posL, hq]
   have hf' : q.name = c := by simpa [fnd, hq] using hf
   simp [e, hf']
theorem Kp {l : List PI} {c : ByteArray} (h : oY nP l c = false) : mO l c = 0 := by
 unfold mO;have : l.find? (fun p => decide (p.name = c)) = none := by
  rw [List.find?_eq_none];intro p hp e;have h2 : oY nP l c = true := by unfold oY; rw [List.any_eq_true]; exact ⟨p, hp, e⟩
  rw [h] at h2; cases h2
 rw [this]; rfl
theorem Bz (l : List AT) (p : AT) (σ : List (List D)) (hl : l.length ≤ 999999) (hs : Sorted nA l) : Ct Tryd.prog 33 [.xs 2 (l.map bZ), bZ p] σ (fun r σ' => r = .xs 2 ((dN nA l p).map bZ) ∧ σ' = σ) :=
 (Ks l p σ hl hs).trim fun r σ' ⟨hr, J, hs⟩ => ⟨σ, J, hs, rfl, by rw [hr]; exact Rt _ _, fun n cs h => .inl h, hr, rfl⟩
theorem Of (l : List AT) (σ : List (List D)) (hl : l.length ≤ 999999) : Ct Tryd.prog 32 [.sl false (l.map bZ)] σ (fun r σ' => r = .xs 2 ((ofL nA l).map bZ) ∧ σ' = σ) := by
 refine zf (rs:=[.tmp 2]) Tryd.func32 Tryd.ntmps32 Tryd.results32 ?_;simp only [aU];refine zr ⟨[2,3,12,14,16],[],[],[],[]⟩ fun _ _ Z=>?_;simp (disch:=omega);and_intros<;>(try omega);apply Z;refine zr ⟨[2,3,12,14,16],[],[],[],[]⟩ fun _ _ Z=>?_;simp (disch:=omega);and_intros<;>(try omega);apply Z;apply aE;refine zr ⟨[2,3,12,14,16],[],[],[],[]⟩ fun _ _ Z=>?_;simp (disch:=omega);and_intros<;>(try omega);apply Z;apply aN;refine zk [2,3,6,7,8] ?_;refine qG 3 2 (by simp <;> rfl) ?_;refine dA (fun (k : Nat) => [(8, .d (.v (.int .i64 (k : Int)))), (3, .d (.xs 2 ((ofL nA (l.take k)).map bZ)))]) [3, 5, 8, 9, 10, 11, 12, 13, 14, 15] (fun (k : Nat) => k ≤ l.length) (fun (k : Nat) => l.length - k) (0) (by simp <;> rfl) ?_ ?_ ?_
 ·simp [ofL]
 ·simp
 rintro k hk;simp only [List.cons_append, List.nil_append];have hol := ofL_len nA (l.take k);simp only [List.length_take] at hol;refine zr ⟨[2,3,12,14,16],[],[],[],[]⟩ fun _ _ Z=>?_;simp (disch:=omega);and_intros<;>(try omega);apply Z;apply aE;refine zi ?_;refine ⟨fun c1=>?_,fun c1=>?_⟩
 ·try simp at c1
  apply aJ;apply aD;apply aE;apply aN;refine zr ⟨[2,3,12,14,16],[],[],[],[]⟩ fun _ _ Z=>?_;simp (disch:=omega);and_intros<;>(try omega);apply Z;refine zt ⟨[2,3,12,14,16],[],[],[],[]⟩ fun _ _ Z=>?_;refine aC 2 fun _ Y=>?_;simp (disch:=omega);and_intros<;>(try omega);apply Y;simp only [List.drop];refine aI fun _ Y=>?_;simp (disch:=omega);refine eV (Bz (ofL nA (l.take k)) l[k] _ (by omega) (ofL_sorted nA _)) ?_;apply Y;simp (disch:=omega);and_intros<;>(try omega);apply Z;apply aX;apply aD;refine zk [2,3,6,7,8] ?_;refine zt ⟨[2,3,12,14,16],[],[],[],[]⟩ fun _ _ Z=>?_;simp (disch:=omega);and_intros<;>(try omega);apply Z;refine bW (k + 1) ?_ ?_ (bK rfl ?_ (by simp) (by simp))
  ·omega
  ·try dsimp only
   omega
  ·simp (disch:=omega)[ofL_take]
 ·try simp at c1
  apply bM;apply bO;apply bP;apply bE;apply aD;refine zr ⟨[2,3,12,14,16],[],[],[],[]⟩ fun _ _ Z=>?_;simp (disch:=omega);and_intros<;>(try omega);apply Z;apply aH;simp [bB];rw [List.take_of_length_le (by omega)]
theorem Ji (l : List AT) (c : ByteArray) (v : ByteArray) (σ : List (List D)) (hl : l.length ≤ 99999) : Ct Tryd.prog 17 [.sl false (l.map bZ), D.str c, D.str v] σ (fun r σ' => r = .xs 2 ((dN nA (ofL nA l) ⟨c, v⟩).map bZ) ∧ σ' = σ) := by
 refine zf (rs:=[.tmp 6]) Tryd.func17 Tryd.ntmps17 Tryd.results17 ?_;simp only [aU];have hol := ofL_len nA l;refine zr ⟨[6,9,10,12],[],[],[],[]⟩ fun _ _ Z=>?_;simp;and_intros<;>(try omega);apply Z;refine zr ⟨[6,9,10,12],[],[],[],[]⟩ fun _ _ Z=>?_;refine aC 1 fun _ Y=>?_;simp;and_intros<;>(try omega);apply Y;simp only [List.drop];refine aI fun _ Y=>?_;simp;refine eV (Of l _ (by omega)) ?_;apply Y;refine aC 3 fun _ Y=>?_;simp;and_intros<;>(try omega);apply Y;simp only [List.drop];refine aI fun _ Y=>?_;simp;refine eV (Bz (ofL nA l) ⟨c, v⟩ _ (by omega) (ofL_sorted nA l)) ?_;apply Y;simp;and_intros<;>(try omega);apply Z;apply aH;simp [bB]
theorem Mt (l : List AT) (c : ByteArray) (v : ByteArray) (σ : List (List D)) (hl : l.length ≤ 99999) (hs : Sorted nA l) : Ct Tryd.prog 17 [.sl false (l.map bZ), D.str c, D.str v] σ (fun r σ' => r = .sl false ((dN nA l ⟨c, v⟩).map bZ) ∧ σ' = σ) :=
 (Ji l c v σ hl).freeze fun r σ' h => by rw [ofL_id nA hs] at h; exact h
theorem Mx (l : List PI) (p : PI) (σ : List (List D)) (hl : l.length ≤ 999999) (hs : Sorted nP l) : Ct Tryd.prog 26 [.xs 2 (l.map bQ), bQ p] σ (fun r σ' => r = .xs 2 ((dN nP l p).map bQ) ∧ σ' = σ) :=
 (Hu l p σ hl hs).trim fun r σ' ⟨hr, J, hs⟩ => ⟨σ, J, hs, rfl, by rw [hr]; exact Sg _ _, fun n cs h => .inl h, hr, rfl⟩
theorem jT (l : List PI) (rest : List D) (i : Nat) (h : i < l.length) : jV false 1 ((l.flatMap cP ++ rest).drop (i * 2 + 1)) = some (D.int l[i].value) := Hn (f := cP) (k := 2) (fun _ => rfl) l rest i 1 h (by decide)
theorem zX (l : List PI) (σ : List (List D)) (hl : l.length ≤ 999999) : Ct Tryd.prog 12 [.sl false (l.map bQ)] σ (fun r σ' => r = .xs 2 ((ofL nP l).map bQ) ∧ σ' = σ) := by
 refine zf (rs:=[.tmp 2]) Tryd.func12 Tryd.ntmps12 Tryd.results12 ?_;simp only [aU];refine zr ⟨[2,3,12,14,16],[],[],[],[]⟩ fun _ _ Z=>?_;simp (disch:=omega);and_intros<;>(try omega);apply Z;refine zr ⟨[2,3,12,14,16],[],[],[],[]⟩ fun _ _ Z=>?_;simp (disch:=omega);and_intros<;>(try omega);apply Z;apply aE;refine zr ⟨[2,3,12,14,16],[],[],[],[]⟩ fun _ _ Z=>?_;simp (disch:=omega);and_intros<;>(try omega);apply Z;apply aN;refine zk [2,3,6,7,8] ?_;refine qG 3 2 (by simp <;> rfl) ?_;refine dA (fun (k : Nat) => [(8, .d (.v (.int .i64 (k : Int)))), (3, .d (.xs 2 ((ofL nP (l.take k)).map bQ)))]) [3, 5, 8, 9, 10, 11, 12, 13, 14, 15] (fun (k : Nat) => k ≤ l.length) (fun (k : Nat) => l.length - k) (0) (by simp <;> rfl) ?_ ?_ ?_
 ·simp [ofL]
 ·simp
 rintro k hk;simp only [List.cons_append, List.nil_append];have hol := ofL_len nP (l.take k);simp only [List.length_take] at hol;refine zr ⟨[2,3,12,14,16],[],[],[],[]⟩ fun _ _ Z=>?_;simp (disch:=omega);and_intros<;>(try omega);apply Z;apply aE;refine zi ?_;refine ⟨fun c1=>?_,fun c1=>?_⟩
 ·try simp at c1
  apply aJ;apply aD;apply aE;apply aN;refine zr ⟨[2,3,12,14,16],[],[],[],[]⟩ fun _ _ Z=>?_;simp (disch:=omega);and_intros<;>(try omega);apply Z;refine zt ⟨[2,3,12,14,16],[],[],[],[]⟩ fun _ _ Z=>?_;refine aC 2 fun _ Y=>?_;simp (disch:=omega);and_intros<;>(try omega);apply Y;simp only [List.drop];refine aI fun _ Y=>?_;simp (disch:=omega);refine eV (Mx (ofL nP (l.take k)) l[k] _ (by omega) (ofL_sorted nP _)) ?_;apply Y;simp (disch:=omega);and_intros<;>(try omega);apply Z;apply aX;apply aD;refine zk [2,3,6,7,8] ?_;refine zt ⟨[2,3,12,14,16],[],[],[],[]⟩ fun _ _ Z=>?_;simp (disch:=omega);and_intros<;>(try omega);apply Z;refine bW (k + 1) ?_ ?_ (bK rfl ?_ (by simp) (by simp))
  ·omega
  ·try dsimp only
   omega
  ·simp (disch:=omega)[ofL_take]
 ·try simp at c1
  apply bM;apply bO;apply bP;apply bE;apply aD;refine zr ⟨[2,3,12,14,16],[],[],[],[]⟩ fun _ _ Z=>?_;simp (disch:=omega);and_intros<;>(try omega);apply Z;apply aH;simp [bB];rw [List.take_of_length_le (by omega)]
theorem Iw (l : List PI) (c : ByteArray) (σ : List (List D)) (hl : l.length ≤ 999999) (hs : Sorted nP l) : Ct Tryd.prog 61 [.sl false (l.map bQ), D.str c] σ (fun r σ' => r = .tup [D.int (mO l c), .bool (oY nP l c)] ∧ ∃ J, σ' = σ ++ J) := by
 refine zf (rs:=[.tmp 4,.tmp 5]) Tryd.func61 Tryd.ntmps61 Tryd.results61 ?_;simp only [aU];refine zr ⟨[6,11],[],[],[21],[]⟩ fun _ _ Z=>?_;simp (disch:=omega)[aB,aA,jT];and_intros<;>(try omega);apply Z;refine zr ⟨[6,11],[],[],[21],[]⟩ fun _ _ Z=>?_;refine aC 1 fun _ Y=>?_;simp (disch:=omega)[aB,aA,jT];and_intros<;>(try omega);apply Y;simp only [List.drop];refine aI fun _ Y=>?_;simp (disch:=omega)[aB,aA,jT];refine eV (zX l _ hl) ?_;rw [ofL_id nP hs];apply Y;simp (disch:=omega)[aB,aA,jT];and_intros<;>(try omega);apply Z;apply aE;refine eN 6 2 rfl (by decide) fun cap rest hcap hcm hrest hk0 hes => ?_;subst hrest;simp only [List.length_map] at hcap ⊢;rw [aZ (f := cP) (fun _ => rfl)];refine zr ⟨[6,11],[],[],[21],[]⟩ fun _ _ Z=>?_;refine aC 2 fun _ Y=>?_;simp (disch:=omega)[aB,aA,jT];and_intros<;>(try omega);apply Y;simp only [List.drop];refine aI fun _ Y=>?_;simp (disch:=omega)[aB,aA,jT];refine eV (Jq σ.length cap l (List.replicate ((cap - l.length) * 2) .any) c _ (by omega) (by simp [aB]) hs) ?_;apply Y;simp (disch:=omega)[aB,aA,jT];and_intros<;>(try omega);apply Z;refine zk [4,5,6,7,8] ?_;refine zr ⟨[6,11],[],[],[21],[]⟩ fun _ _ Z=>?_;simp (disch:=omega)[aB,aA,jT];and_intros<;>(try omega);apply Z;refine zi ?_;refine ⟨fun c1=>?_,fun c1=>?_⟩
 ·try simp at c1
  have hlt := fnd_lt nP c1;have hva := xL hs hlt c1;have hhn := (uU nP hs c).symm.trans c1;refine zr ⟨[6,11],[],[],[21],[]⟩ fun _ _ Z=>?_;simp (disch:=omega)[aB,aA,jT];and_intros<;>(try omega);apply Z;apply aH;apply bJ;simp [bB, hhn, hva]
 ·try simp at c1
  have hhn : oY nP l c = false := by rw [← uU nP hs c]; simpa using c1
  have hva := Kp hhn;apply aJ;apply aD;refine zr ⟨[6,11],[],[],[21],[]⟩ fun _ _ Z=>?_;simp (disch:=omega)[aB,aA,jT];and_intros<;>(try omega);apply Z;refine zr ⟨[6,11],[],[],[21],[]⟩ fun _ _ Z=>?_;simp (disch:=omega)[aB,aA,jT];and_intros<;>(try omega);apply Z;apply aH;simp [bB, hhn, hva]
theorem Mq (l : List PI) (c : ByteArray) (σ : List (List D)) (hl : l.length ≤ 999999) (hs : Sorted nP l) : Ct Tryd.prog 61 [.sl false (l.map bQ), D.str c] σ (fun r σ' => r = .tup [D.int (mO l c), .bool (oY nP l c)] ∧ σ' = σ) :=
 (Iw l c σ hl hs).trim fun r σ' ⟨hr, J, hs'⟩ => ⟨σ, J, hs', rfl, by rw [hr]; exact Sc.tup fun d hd => by simp at hd; rcases hd with rfl | rfl <;> exact Sc.v _, fun n cs h => .inl h, hr, rfl⟩
end Go.Proofs.YtighdhfgcdjmeaaDoor

