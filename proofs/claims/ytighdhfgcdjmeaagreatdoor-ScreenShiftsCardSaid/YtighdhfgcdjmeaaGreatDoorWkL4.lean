import Derived.Test.YtighdhfgcdjmeaaGreatDoorWkL3
namespace Go.Proofs.YtighdhfgcdjmeaaGreatDoor
open Go Go.Vm
set_option maxRecDepth 20000
set_option linter.all false
set_option maxHeartbeats 8000000
def gI (l : List PI) (c : ByteArray) : Int := ((l.find? fun p => decide (p.name = c)).map PI.value).getD 0
theorem uC : ∀ {l : List PI}, Sorted nP l → ∀ {c : ByteArray} (h : posL nP l c < l.length), fnd nP l c = true → l[posL nP l c].value = gI l c
 | [], _, c, h, _ => by simp at h
 | q :: l, hs, c, h, hf => by
  unfold gI;by_cases hq : cQ (nP q) c = true
  ·have e : posL nP (q :: l) c = posL nP l c + 1 := by simp [posL, hq]
   have hf' : fnd nP l c = true := by simpa [fnd, hq] using hf
   have hne : ¬ q.name = c := gW hq;simp only [e, List.getElem_cons_succ, List.find?_cons, hne, decide_false];exact uC (List.Pairwise.of_cons hs) _ hf'
  ·have e : posL nP (q :: l) c = 0 := by simp [posL, hq]
   have hf' : q.name = c := by simpa [fnd, hq] using hf
   simp [e, hf']
theorem Nm {l : List PI} {c : ByteArray} (h : nM nP l c = false) : gI l c = 0 := by
 unfold gI;have : l.find? (fun p => decide (p.name = c)) = none := by
  rw [List.find?_eq_none];intro p hp e;have h2 : nM nP l c = true := by unfold nM; rw [List.any_eq_true]; exact ⟨p, hp, e⟩
  rw [h] at h2; cases h2
 rw [this]; rfl
theorem Dt (l : List AT) (p : AT) (σ : List (List D)) (hl : l.length ≤ 999999) (hs : Sorted nA l) : Ct Tryz.prog 42 [.xs 2 (l.map bY), bY p] σ (fun r σ' => r = .xs 2 ((putL nA l p).map bY) ∧ σ' = σ) :=
 (Jz l p σ hl hs).trim fun r σ' ⟨hr, J, hs⟩ => ⟨σ, J, hs, rfl, by rw [hr]; exact Wl _ _, fun n cs h => .inl h, hr, rfl⟩
theorem Tt (l : List AT) (σ : List (List D)) (hl : l.length ≤ 999999) : Ct Tryz.prog 41 [.sl false (l.map bY)] σ (fun r σ' => r = .xs 2 ((ofL nA l).map bY) ∧ σ' = σ) := by
 refine zf (rs:=[.tmp 2]) Tryz.func41 Tryz.ntmps41 Tryz.results41 ?_;simp only [aQ];refine zr ⟨[2,3,12,14,16],[],[],[],[]⟩ fun _ _ Z=>?_;simp (disch:=omega);and_intros<;>(try omega);apply Z;refine zr ⟨[2,3,12,14,16],[],[],[],[]⟩ fun _ _ Z=>?_;simp (disch:=omega);and_intros<;>(try omega);apply Z;apply aE;refine zr ⟨[2,3,12,14,16],[],[],[],[]⟩ fun _ _ Z=>?_;simp (disch:=omega);and_intros<;>(try omega);apply Z;apply aI;refine zk [2,3,6,7,8] ?_;refine sD 3 2 (by simp <;> rfl) ?_;refine cM (fun (k : Nat) => [(8, .d (.v (.int .i64 (k : Int)))), (3, .d (.xs 2 ((ofL nA (l.take k)).map bY)))]) [3, 5, 8, 9, 10, 11, 12, 13, 14, 15] (fun (k : Nat) => k ≤ l.length) (fun (k : Nat) => l.length - k) (0) (by simp <;> rfl) ?_ ?_ ?_
 ·simp [ofL]
 ·simp
 rintro k hk;simp only [List.cons_append, List.nil_append];have hol := ofL_len nA (l.take k);simp only [List.length_take] at hol;refine zr ⟨[2,3,12,14,16],[],[],[],[]⟩ fun _ _ Z=>?_;simp (disch:=omega);and_intros<;>(try omega);apply Z;apply aE;refine zi ?_;refine ⟨fun c1=>?_,fun c1=>?_⟩
 ·try simp at c1
  apply aG;apply aC;apply aE;apply aI;refine zr ⟨[2,3,12,14,16],[],[],[],[]⟩ fun _ _ Z=>?_;simp (disch:=omega);and_intros<;>(try omega);apply Z;refine zt ⟨[2,3,12,14,16],[],[],[],[]⟩ fun _ _ Z=>?_;refine aB 2 fun _ Y=>?_;simp (disch:=omega);and_intros<;>(try omega);apply Y;simp only [List.drop];refine aH fun _ Y=>?_;simp (disch:=omega);refine dW (Dt (ofL nA (l.take k)) l[k] _ (by omega) (ofL_sorted nA _)) ?_;apply Y;simp (disch:=omega);and_intros<;>(try omega);apply Z;apply aN;apply aC;refine zk [2,3,6,7,8] ?_;refine zt ⟨[2,3,12,14,16],[],[],[],[]⟩ fun _ _ Z=>?_;simp (disch:=omega);and_intros<;>(try omega);apply Z;refine bJ (k + 1) ?_ ?_ (aV rfl ?_ (by simp) (by simp))
  ·omega
  ·try dsimp only
   omega
  ·simp (disch:=omega)[ofL_take]
 ·try simp at c1
  apply bD;apply bE;apply bG;apply aY;apply aC;refine zr ⟨[2,3,12,14,16],[],[],[],[]⟩ fun _ _ Z=>?_;simp (disch:=omega);and_intros<;>(try omega);apply Z;apply aF;simp [aS];rw [List.take_of_length_le (by omega)]
theorem Of (l : List AT) (c : ByteArray) (v : ByteArray) (σ : List (List D)) (hl : l.length ≤ 99999) : Ct Tryz.prog 19 [.sl false (l.map bY), D.str c, D.str v] σ (fun r σ' => r = .xs 2 ((putL nA (ofL nA l) ⟨c, v⟩).map bY) ∧ σ' = σ) := by
 refine zf (rs:=[.tmp 6]) Tryz.func19 Tryz.ntmps19 Tryz.results19 ?_;simp only [aQ];have hol := ofL_len nA l;refine zr ⟨[6,9,10,12],[],[],[],[]⟩ fun _ _ Z=>?_;simp;and_intros<;>(try omega);apply Z;refine zr ⟨[6,9,10,12],[],[],[],[]⟩ fun _ _ Z=>?_;refine aB 1 fun _ Y=>?_;simp;and_intros<;>(try omega);apply Y;simp only [List.drop];refine aH fun _ Y=>?_;simp;refine dW (Tt l _ (by omega)) ?_;apply Y;refine aB 3 fun _ Y=>?_;simp;and_intros<;>(try omega);apply Y;simp only [List.drop];refine aH fun _ Y=>?_;simp;refine dW (Dt (ofL nA l) ⟨c, v⟩ _ (by omega) (ofL_sorted nA l)) ?_;apply Y;simp;and_intros<;>(try omega);apply Z;apply aF;simp [aS]
theorem Oj (l : List AT) (c : ByteArray) (v : ByteArray) (σ : List (List D)) (hl : l.length ≤ 99999) (hs : Sorted nA l) : Ct Tryz.prog 19 [.sl false (l.map bY), D.str c, D.str v] σ (fun r σ' => r = .sl false ((putL nA l ⟨c, v⟩).map bY) ∧ σ' = σ) :=
 (Of l c v σ hl).freeze fun r σ' h => by rw [ofL_id nA hs] at h; exact h
theorem Pn (l : List PI) (p : PI) (σ : List (List D)) (hl : l.length ≤ 999999) (hs : Sorted nP l) : Ct Tryz.prog 37 [.xs 2 (l.map bS), bS p] σ (fun r σ' => r = .xs 2 ((putL nP l p).map bS) ∧ σ' = σ) :=
 (Ld l p σ hl hs).trim fun r σ' ⟨hr, J, hs⟩ => ⟨σ, J, hs, rfl, by rw [hr]; exact Wm _ _, fun n cs h => .inl h, hr, rfl⟩
theorem kN (l : List PI) (rest : List D) (i : Nat) (h : i < l.length) : lD false 1 ((l.flatMap cP ++ rest).drop (i * 2 + 1)) = some (D.int l[i].value) := Jn (f := cP) (k := 2) (fun _ => rfl) l rest i 1 h (by decide)
theorem Cu (l : List PI) (σ : List (List D)) (hl : l.length ≤ 999999) : Ct Tryz.prog 16 [.sl false (l.map bS)] σ (fun r σ' => r = .xs 2 ((ofL nP l).map bS) ∧ σ' = σ) := by
 refine zf (rs:=[.tmp 2]) Tryz.func16 Tryz.ntmps16 Tryz.results16 ?_;simp only [aQ];refine zr ⟨[2,3,12,14,16],[],[],[],[]⟩ fun _ _ Z=>?_;simp (disch:=omega);and_intros<;>(try omega);apply Z;refine zr ⟨[2,3,12,14,16],[],[],[],[]⟩ fun _ _ Z=>?_;simp (disch:=omega);and_intros<;>(try omega);apply Z;apply aE;refine zr ⟨[2,3,12,14,16],[],[],[],[]⟩ fun _ _ Z=>?_;simp (disch:=omega);and_intros<;>(try omega);apply Z;apply aI;refine zk [2,3,6,7,8] ?_;refine sD 3 2 (by simp <;> rfl) ?_;refine cM (fun (k : Nat) => [(8, .d (.v (.int .i64 (k : Int)))), (3, .d (.xs 2 ((ofL nP (l.take k)).map bS)))]) [3, 5, 8, 9, 10, 11, 12, 13, 14, 15] (fun (k : Nat) => k ≤ l.length) (fun (k : Nat) => l.length - k) (0) (by simp <;> rfl) ?_ ?_ ?_
 ·simp [ofL]
 ·simp
 rintro k hk;simp only [List.cons_append, List.nil_append];have hol := ofL_len nP (l.take k);simp only [List.length_take] at hol;refine zr ⟨[2,3,12,14,16],[],[],[],[]⟩ fun _ _ Z=>?_;simp (disch:=omega);and_intros<;>(try omega);apply Z;apply aE;refine zi ?_;refine ⟨fun c1=>?_,fun c1=>?_⟩
 ·try simp at c1
  apply aG;apply aC;apply aE;apply aI;refine zr ⟨[2,3,12,14,16],[],[],[],[]⟩ fun _ _ Z=>?_;simp (disch:=omega);and_intros<;>(try omega);apply Z;refine zt ⟨[2,3,12,14,16],[],[],[],[]⟩ fun _ _ Z=>?_;refine aB 2 fun _ Y=>?_;simp (disch:=omega);and_intros<;>(try omega);apply Y;simp only [List.drop];refine aH fun _ Y=>?_;simp (disch:=omega);refine dW (Pn (ofL nP (l.take k)) l[k] _ (by omega) (ofL_sorted nP _)) ?_;apply Y;simp (disch:=omega);and_intros<;>(try omega);apply Z;apply aN;apply aC;refine zk [2,3,6,7,8] ?_;refine zt ⟨[2,3,12,14,16],[],[],[],[]⟩ fun _ _ Z=>?_;simp (disch:=omega);and_intros<;>(try omega);apply Z;refine bJ (k + 1) ?_ ?_ (aV rfl ?_ (by simp) (by simp))
  ·omega
  ·try dsimp only
   omega
  ·simp (disch:=omega)[ofL_take]
 ·try simp at c1
  apply bD;apply bE;apply bG;apply aY;apply aC;refine zr ⟨[2,3,12,14,16],[],[],[],[]⟩ fun _ _ Z=>?_;simp (disch:=omega);and_intros<;>(try omega);apply Z;apply aF;simp [aS];rw [List.take_of_length_le (by omega)]
theorem Js (l : List PI) (c : ByteArray) (σ : List (List D)) (hl : l.length ≤ 999999) (hs : Sorted nP l) : Ct Tryz.prog 78 [.sl false (l.map bS), D.str c] σ (fun r σ' => r = .tup [D.int (gI l c), .bool (nM nP l c)] ∧ ∃ J, σ' = σ ++ J) := by
 refine zf (rs:=[.tmp 4,.tmp 5]) Tryz.func78 Tryz.ntmps78 Tryz.results78 ?_;simp only [aQ];refine zr ⟨[6,11],[],[],[21],[]⟩ fun _ _ Z=>?_;simp (disch:=omega)[aD,aA,kN];and_intros<;>(try omega);apply Z;refine zr ⟨[6,11],[],[],[21],[]⟩ fun _ _ Z=>?_;refine aB 1 fun _ Y=>?_;simp (disch:=omega)[aD,aA,kN];and_intros<;>(try omega);apply Y;simp only [List.drop];refine aH fun _ Y=>?_;simp (disch:=omega)[aD,aA,kN];refine dW (Cu l _ hl) ?_;rw [ofL_id nP hs];apply Y;simp (disch:=omega)[aD,aA,kN];and_intros<;>(try omega);apply Z;apply aE;refine eT 6 2 rfl (by decide) fun cap rest hcap hcm hrest hk0 hes => ?_;subst hrest;simp only [List.length_map] at hcap ⊢;rw [bI (f := cP) (fun _ => rfl)];refine zr ⟨[6,11],[],[],[21],[]⟩ fun _ _ Z=>?_;refine aB 2 fun _ Y=>?_;simp (disch:=omega)[aD,aA,kN];and_intros<;>(try omega);apply Y;simp only [List.drop];refine aH fun _ Y=>?_;simp (disch:=omega)[aD,aA,kN];refine dW (Mc σ.length cap l (List.replicate ((cap - l.length) * 2) .any) c _ (by omega) (by simp [aD]) hs) ?_;apply Y;simp (disch:=omega)[aD,aA,kN];and_intros<;>(try omega);apply Z;refine zk [4,5,6,7,8] ?_;refine zr ⟨[6,11],[],[],[21],[]⟩ fun _ _ Z=>?_;simp (disch:=omega)[aD,aA,kN];and_intros<;>(try omega);apply Z;refine zi ?_;refine ⟨fun c1=>?_,fun c1=>?_⟩
 ·try simp at c1
  have hlt := fnd_lt nP c1;have hva := uC hs hlt c1;have hhn := (rH nP hs c).symm.trans c1;refine zr ⟨[6,11],[],[],[21],[]⟩ fun _ _ Z=>?_;simp (disch:=omega)[aD,aA,kN];and_intros<;>(try omega);apply Z;apply aF;apply bK;simp [aS, hhn, hva]
 ·try simp at c1
  have hhn : nM nP l c = false := by rw [← rH nP hs c]; simpa using c1
  have hva := Nm hhn;apply aG;apply aC;refine zr ⟨[6,11],[],[],[21],[]⟩ fun _ _ Z=>?_;simp (disch:=omega)[aD,aA,kN];and_intros<;>(try omega);apply Z;refine zr ⟨[6,11],[],[],[21],[]⟩ fun _ _ Z=>?_;simp (disch:=omega)[aD,aA,kN];and_intros<;>(try omega);apply Z;apply aF;simp [aS, hhn, hva]
theorem Ph (l : List PI) (c : ByteArray) (σ : List (List D)) (hl : l.length ≤ 999999) (hs : Sorted nP l) : Ct Tryz.prog 78 [.sl false (l.map bS), D.str c] σ (fun r σ' => r = .tup [D.int (gI l c), .bool (nM nP l c)] ∧ σ' = σ) :=
 (Js l c σ hl hs).trim fun r σ' ⟨hr, J, hs'⟩ => ⟨σ, J, hs', rfl, by rw [hr]; exact Sc.tup fun d hd => by simp at hd; rcases hd with rfl | rfl <;> exact Sc.v _, fun n cs h => .inl h, hr, rfl⟩
end Go.Proofs.YtighdhfgcdjmeaaGreatDoor

