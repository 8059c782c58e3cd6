import Derived.Test.YtighdhfgcdjmeaaGreatDoorWkL3
namespace Go.Proofs.YtighdhfgcdjmeaaGreatDoor
open Go Go.Vm
set_option maxRecDepth 20000
set_option linter.all false
set_option maxHeartbeats 8000000
def lK (l : List PI) (c : ByteArray) : Int := ((l.find? fun p => decide (p.name = c)).map PI.value).getD 0
theorem tI : ∀ {l : List PI}, Sorted nP l → ∀ {c : ByteArray} (h : posL nP l c < l.length), fnd nP l c = true → l[posL nP l c].value = lK l c
 | [], _, c, h, _ => by simp at h
 | q :: l, hs, c, h, hf => by
  unfold lK;by_cases hq : cV (nP q) c = true
  ·have e : posL nP (q :: l) c = posL nP l c + 1 := by simp [posL, hq]
   have hf' : fnd nP l c = true := by simpa [fnd, hq] using hf
   have hne : ¬ q.name = c := gX hq;simp only [e, List.getElem_cons_succ, List.find?_cons, hne, decide_false];exact tI (List.Pairwise.of_cons hs) _ hf'
  ·have e : posL nP (q :: l) c = 0 := by simp [posL, hq]
   have hf' : q.name = c := by simpa [fnd, hq] using hf
   simp [e, hf']
theorem Lb {l : List PI} {c : ByteArray} (h : nX nP l c = false) : lK l c = 0 := by
 unfold lK;have : l.find? (fun p => decide (p.name = c)) = none := by
  rw [List.find?_eq_none];intro p hp e;have h2 : nX nP l c = true := by unfold nX; rw [List.any_eq_true]; exact ⟨p, hp, e⟩
  rw [h] at h2; cases h2
 rw [this]; rfl
theorem Dx (l : List AT) (p : AT) (σ : List (List D)) (hl : l.length ≤ 999999) (hs : Sorted nA l) : Ct Tryz.prog 42 [.xs 2 (l.map bW), bW p] σ (fun r σ' => r = .xs 2 ((putL nA l p).map bW) ∧ σ' = σ) :=
 (Jp l p σ hl hs).trim fun r σ' ⟨hr, J, hs⟩ => ⟨σ, J, hs, rfl, by rw [hr]; exact Uc _ _, fun n cs h => .inl h, hr, rfl⟩
theorem Rd (l : List AT) (σ : List (List D)) (hl : l.length ≤ 999999) : Ct Tryz.prog 41 [.sl false (l.map bW)] σ (fun r σ' => r = .xs 2 ((ofL nA l).map bW) ∧ σ' = σ) := by
 refine zf (rs:=[.tmp 2]) Tryz.func41 Tryz.ntmps41 Tryz.results41 ?_;simp only [aU];refine zr ⟨[2,3,12,14,16],[],[],[],[]⟩ fun _ _ Z=>?_;simp (disch:=omega);and_intros<;>(try omega);apply Z;refine zr ⟨[2,3,12,14,16],[],[],[],[]⟩ fun _ _ Z=>?_;simp (disch:=omega);and_intros<;>(try omega);apply Z;apply aE;refine zr ⟨[2,3,12,14,16],[],[],[],[]⟩ fun _ _ Z=>?_;simp (disch:=omega);and_intros<;>(try omega);apply Z;apply aH;refine zk [2,3,6,7,8] ?_;refine tJ 3 2 (by simp <;> rfl) ?_;refine cR (fun (k : Nat) => [(8, .d (.v (.int .i64 (k : Int)))), (3, .d (.xs 2 ((ofL nA (l.take k)).map bW)))]) [3, 5, 8, 9, 10, 11, 12, 13, 14, 15] (fun (k : Nat) => k ≤ l.length) (fun (k : Nat) => l.length - k) (0) (by simp <;> rfl) ?_ ?_ ?_
 ·simp [ofL]
 ·simp
 rintro k hk;simp only [List.cons_append, List.nil_append];have hol := ofL_len nA (l.take k);simp only [List.length_take] at hol;refine zr ⟨[2,3,12,14,16],[],[],[],[]⟩ fun _ _ Z=>?_;simp (disch:=omega);and_intros<;>(try omega);apply Z;apply aE;refine zi ?_;refine ⟨fun c1=>?_,fun c1=>?_⟩
 ·try simp at c1
  apply aF;apply aB;apply aE;apply aH;refine zr ⟨[2,3,12,14,16],[],[],[],[]⟩ fun _ _ Z=>?_;simp (disch:=omega);and_intros<;>(try omega);apply Z;refine zt ⟨[2,3,12,14,16],[],[],[],[]⟩ fun _ _ Z=>?_;refine aA 2 fun _ Y=>?_;simp (disch:=omega);and_intros<;>(try omega);apply Y;simp only [List.drop];refine aI fun _ Y=>?_;simp (disch:=omega);refine dO (Dx (ofL nA (l.take k)) l[k] _ (by omega) (ofL_sorted nA _)) ?_;apply Y;simp (disch:=omega);and_intros<;>(try omega);apply Z;apply aN;apply aB;refine zk [2,3,6,7,8] ?_;refine zt ⟨[2,3,12,14,16],[],[],[],[]⟩ fun _ _ Z=>?_;simp (disch:=omega);and_intros<;>(try omega);apply Z;refine bL (k + 1) ?_ ?_ (aW rfl ?_ (by simp) (by simp))
  ·omega
  ·try dsimp only
   omega
  ·simp (disch:=omega)[ofL_take]
 ·try simp at c1
  apply bB;apply bC;apply bA;apply aS;apply aB;refine zr ⟨[2,3,12,14,16],[],[],[],[]⟩ fun _ _ Z=>?_;simp (disch:=omega);and_intros<;>(try omega);apply Z;apply aG;simp [aQ];rw [List.take_of_length_le (by omega)]
theorem Lq (l : List AT) (c : ByteArray) (v : ByteArray) (σ : List (List D)) (hl : l.length ≤ 99999) : Ct Tryz.prog 19 [.sl false (l.map bW), D.str c, D.str v] σ (fun r σ' => r = .xs 2 ((putL nA (ofL nA l) ⟨c, v⟩).map bW) ∧ σ' = σ) := by
 refine zf (rs:=[.tmp 6]) Tryz.func19 Tryz.ntmps19 Tryz.results19 ?_;simp only [aU];have hol := ofL_len nA l;refine zr ⟨[6,9,10,12],[],[],[],[]⟩ fun _ _ Z=>?_;simp;and_intros<;>(try omega);apply Z;refine zr ⟨[6,9,10,12],[],[],[],[]⟩ fun _ _ Z=>?_;refine aA 1 fun _ Y=>?_;simp;and_intros<;>(try omega);apply Y;simp only [List.drop];refine aI fun _ Y=>?_;simp;refine dO (Rd l _ (by omega)) ?_;apply Y;refine aA 3 fun _ Y=>?_;simp;and_intros<;>(try omega);apply Y;simp only [List.drop];refine aI fun _ Y=>?_;simp;refine dO (Dx (ofL nA l) ⟨c, v⟩ _ (by omega) (ofL_sorted nA l)) ?_;apply Y;simp;and_intros<;>(try omega);apply Z;apply aG;simp [aQ]
theorem Pf (l : List AT) (c : ByteArray) (v : ByteArray) (σ : List (List D)) (hl : l.length ≤ 99999) (hs : Sorted nA l) : Ct Tryz.prog 19 [.sl false (l.map bW), D.str c, D.str v] σ (fun r σ' => r = .sl false ((putL nA l ⟨c, v⟩).map bW) ∧ σ' = σ) :=
 (Lq l c v σ hl).freeze fun r σ' h => by rw [ofL_id nA hs] at h; exact h
theorem Pw (l : List PI) (p : PI) (σ : List (List D)) (hl : l.length ≤ 999999) (hs : Sorted nP l) : Ct Tryz.prog 37 [.xs 2 (l.map bR), bR p] σ (fun r σ' => r = .xs 2 ((putL nP l p).map bR) ∧ σ' = σ) :=
 (Km l p σ hl hs).trim fun r σ' ⟨hr, J, hs⟩ => ⟨σ, J, hs, rfl, by rw [hr]; exact Ub _ _, fun n cs h => .inl h, hr, rfl⟩
theorem kW (l : List PI) (rest : List D) (i : Nat) (h : i < l.length) : kR false 1 ((l.flatMap cP ++ rest).drop (i * 2 + 1)) = some (D.int l[i].value) := Nd (f := cP) (k := 2) (fun _ => rfl) l rest i 1 h (by decide)
theorem Bw (l : List PI) (σ : List (List D)) (hl : l.length ≤ 999999) : Ct Tryz.prog 16 [.sl false (l.map bR)] σ (fun r σ' => r = .xs 2 ((ofL nP l).map bR) ∧ σ' = σ) := by
 refine zf (rs:=[.tmp 2]) Tryz.func16 Tryz.ntmps16 Tryz.results16 ?_;simp only [aU];refine zr ⟨[2,3,12,14,16],[],[],[],[]⟩ fun _ _ Z=>?_;simp (disch:=omega);and_intros<;>(try omega);apply Z;refine zr ⟨[2,3,12,14,16],[],[],[],[]⟩ fun _ _ Z=>?_;simp (disch:=omega);and_intros<;>(try omega);apply Z;apply aE;refine zr ⟨[2,3,12,14,16],[],[],[],[]⟩ fun _ _ Z=>?_;simp (disch:=omega);and_intros<;>(try omega);apply Z;apply aH;refine zk [2,3,6,7,8] ?_;refine tJ 3 2 (by simp <;> rfl) ?_;refine cR (fun (k : Nat) => [(8, .d (.v (.int .i64 (k : Int)))), (3, .d (.xs 2 ((ofL nP (l.take k)).map bR)))]) [3, 5, 8, 9, 10, 11, 12, 13, 14, 15] (fun (k : Nat) => k ≤ l.length) (fun (k : Nat) => l.length - k) (0) (by simp <;> rfl) ?_ ?_ ?_
 ·simp [ofL]
 ·simp
 rintro k hk;simp only [List.cons_append, List.nil_append];have hol := ofL_len nP (l.take k);simp only [List.length_take] at hol;refine zr ⟨[2,3,12,14,16],[],[],[],[]⟩ fun _ _ Z=>?_;simp (disch:=omega);and_intros<;>(try omega);apply Z;apply aE;refine zi ?_;refine ⟨fun c1=>?_,fun c1=>?_⟩
 ·try simp at c1
  apply aF;apply aB;apply aE;apply aH;refine zr ⟨[2,3,12,14,16],[],[],[],[]⟩ fun _ _ Z=>?_;simp (disch:=omega);and_intros<;>(try omega);apply Z;refine zt ⟨[2,3,12,14,16],[],[],[],[]⟩ fun _ _ Z=>?_;refine aA 2 fun _ Y=>?_;simp (disch:=omega);and_intros<;>(try omega);apply Y;simp only [List.drop];refine aI fun _ Y=>?_;simp (disch:=omega);refine dO (Pw (ofL nP (l.take k)) l[k] _ (by omega) (ofL_sorted nP _)) ?_;apply Y;simp (disch:=omega);and_intros<;>(try omega);apply Z;apply aN;apply aB;refine zk [2,3,6,7,8] ?_;refine zt ⟨[2,3,12,14,16],[],[],[],[]⟩ fun _ _ Z=>?_;simp (disch:=omega);and_intros<;>(try omega);apply Z;refine bL (k + 1) ?_ ?_ (aW rfl ?_ (by simp) (by simp))
  ·omega
  ·try dsimp only
   omega
  ·simp (disch:=omega)[ofL_take]
 ·try simp at c1
  apply bB;apply bC;apply bA;apply aS;apply aB;refine zr ⟨[2,3,12,14,16],[],[],[],[]⟩ fun _ _ Z=>?_;simp (disch:=omega);and_intros<;>(try omega);apply Z;apply aG;simp [aQ];rw [List.take_of_length_le (by omega)]
theorem Ll (l : List PI) (c : ByteArray) (σ : List (List D)) (hl : l.length ≤ 999999) (hs : Sorted nP l) : Ct Tryz.prog 78 [.sl false (l.map bR), D.str c] σ (fun r σ' => r = .tup [D.int (lK l c), .bool (nX nP l c)] ∧ ∃ J, σ' = σ ++ J) := by
 refine zf (rs:=[.tmp 4,.tmp 5]) Tryz.func78 Tryz.ntmps78 Tryz.results78 ?_;simp only [aU];refine zr ⟨[6,11],[],[],[21],[]⟩ fun _ _ Z=>?_;simp (disch:=omega)[aD,aC,kW];and_intros<;>(try omega);apply Z;refine zr ⟨[6,11],[],[],[21],[]⟩ fun _ _ Z=>?_;refine aA 1 fun _ Y=>?_;simp (disch:=omega)[aD,aC,kW];and_intros<;>(try omega);apply Y;simp only [List.drop];refine aI fun _ Y=>?_;simp (disch:=omega)[aD,aC,kW];refine dO (Bw l _ hl) ?_;rw [ofL_id nP hs];apply Y;simp (disch:=omega)[aD,aC,kW];and_intros<;>(try omega);apply Z;apply aE;refine eY 6 2 rfl (by decide) fun cap rest hcap hcm hrest hk0 hes => ?_;subst hrest;simp only [List.length_map] at hcap ⊢;rw [bK (f := cP) (fun _ => rfl)];refine zr ⟨[6,11],[],[],[21],[]⟩ fun _ _ Z=>?_;refine aA 2 fun _ Y=>?_;simp (disch:=omega)[aD,aC,kW];and_intros<;>(try omega);apply Y;simp only [List.drop];refine aI fun _ Y=>?_;simp (disch:=omega)[aD,aC,kW];refine dO (Mq σ.length cap l (List.replicate ((cap - l.length) * 2) .any) c _ (by omega) (by simp [aD]) hs) ?_;apply Y;simp (disch:=omega)[aD,aC,kW];and_intros<;>(try omega);apply Z;refine zk [4,5,6,7,8] ?_;refine zr ⟨[6,11],[],[],[21],[]⟩ fun _ _ Z=>?_;simp (disch:=omega)[aD,aC,kW];and_intros<;>(try omega);apply Z;refine zi ?_;refine ⟨fun c1=>?_,fun c1=>?_⟩
 ·try simp at c1
  have hlt := fnd_lt nP c1;have hva := tI hs hlt c1;have hhn := (rH nP hs c).symm.trans c1;refine zr ⟨[6,11],[],[],[21],[]⟩ fun _ _ Z=>?_;simp (disch:=omega)[aD,aC,kW];and_intros<;>(try omega);apply Z;apply aG;apply bG;simp [aQ, hhn, hva]
 ·try simp at c1
  have hhn : nX nP l c = false := by rw [← rH nP hs c]; simpa using c1
  have hva := Lb hhn;apply aF;apply aB;refine zr ⟨[6,11],[],[],[21],[]⟩ fun _ _ Z=>?_;simp (disch:=omega)[aD,aC,kW];and_intros<;>(try omega);apply Z;refine zr ⟨[6,11],[],[],[21],[]⟩ fun _ _ Z=>?_;simp (disch:=omega)[aD,aC,kW];and_intros<;>(try omega);apply Z;apply aG;simp [aQ, hhn, hva]
theorem Og (l : List PI) (c : ByteArray) (σ : List (List D)) (hl : l.length ≤ 999999) (hs : Sorted nP l) : Ct Tryz.prog 78 [.sl false (l.map bR), D.str c] σ (fun r σ' => r = .tup [D.int (lK l c), .bool (nX nP l c)] ∧ σ' = σ) :=
 (Ll l c σ hl hs).trim fun r σ' ⟨hr, J, hs'⟩ => ⟨σ, J, hs', rfl, by rw [hr]; exact Sc.tup fun d hd => by simp at hd; rcases hd with rfl | rfl <;> exact Sc.v _, fun n cs h => .inl h, hr, rfl⟩
end Go.Proofs.YtighdhfgcdjmeaaGreatDoor

