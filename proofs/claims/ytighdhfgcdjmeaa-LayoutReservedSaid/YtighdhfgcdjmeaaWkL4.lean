import Derived.Test.YtighdhfgcdjmeaaWkL3
namespace Go.Proofs.Ytighdhfgcdjmeaa
open Go Go.Vm
set_option maxRecDepth 20000
set_option linter.all false
set_option maxHeartbeats 8000000
def iG (l : List PI) (c : ByteArray) : Int := ((l.find? fun p => decide (p.name = c)).map PI.value).getD 0
theorem xQ : ∀ {l : List PI}, Sorted nP l → ∀ {c : ByteArray} (h : posL nP l c < l.length), fnd nP l c = true → l[posL nP l c].value = iG l c
 | [], _, c, h, _ => by simp at h
 | q :: l, hs, c, h, hf => by
  unfold iG;by_cases hq : cO (nP q) c = true
  ·have e : posL nP (q :: l) c = posL nP l c + 1 := by simp [posL, hq]
   have hf' : fnd nP l c = true := by simpa [fnd, hq] using hf
   have hne : ¬ q.name = c := iQ hq;simp only [e, List.getElem_cons_succ, List.find?_cons, hne, decide_false];exact xQ (List.Pairwise.of_cons hs) _ hf'
  ·have e : posL nP (q :: l) c = 0 := by simp [posL, hq]
   have hf' : q.name = c := by simpa [fnd, hq] using hf
   simp [e, hf']
theorem Kr {l : List PI} {c : ByteArray} (h : kL nP l c = false) : iG l c = 0 := by
 unfold iG;have : l.find? (fun p => decide (p.name = c)) = none := by
  rw [List.find?_eq_none];intro p hp e;have h2 : kL nP l c = true := by unfold kL; rw [List.any_eq_true]; exact ⟨p, hp, e⟩
  rw [h] at h2; cases h2
 rw [this]; rfl
theorem Dd (l : List AT) (p : AT) (σ : List (List D)) (hl : l.length ≤ 999999) (hs : Sorted nA l) : Ct Try.prog 20 [.xs 2 (l.map bR), bR p] σ (fun r σ' => r = .xs 2 ((cZ nA l p).map bR) ∧ σ' = σ) :=
 (Kl l p σ hl hs).trim fun r σ' ⟨hr, J, hs⟩ => ⟨σ, J, hs, rfl, by rw [hr]; exact Te _ _, fun n cs h => .inl h, hr, rfl⟩
theorem Jv (l : List AT) (σ : List (List D)) (hl : l.length ≤ 999999) : Ct Try.prog 19 [.sl false (l.map bR)] σ (fun r σ' => r = .xs 2 ((ofL nA l).map bR) ∧ σ' = σ) := by
 refine zf (rs:=[.tmp 2]) Try.func19 Try.ntmps19 Try.results19 ?_;simp only [aM];refine zr ⟨[2,3,12,14,16],[],[],[],[]⟩ fun _ _ Z=>?_;simp (disch:=omega);and_intros<;>(try omega);apply Z;refine zr ⟨[2,3,12,14,16],[],[],[],[]⟩ fun _ _ Z=>?_;simp (disch:=omega);and_intros<;>(try omega);apply Z;apply aH;refine zr ⟨[2,3,12,14,16],[],[],[],[]⟩ fun _ _ Z=>?_;simp (disch:=omega);and_intros<;>(try omega);apply Z;apply aN;refine zk [2,3,6,7,8] ?_;refine rJ 3 2 (by simp <;> rfl) ?_;refine cN (fun (k : Nat) => [(8, .d (.v (.int .i64 (k : Int)))), (3, .d (.xs 2 ((ofL nA (l.take k)).map bR)))]) [3, 5, 8, 9, 10, 11, 12, 13, 14, 15] (fun (k : Nat) => k ≤ l.length) (fun (k : Nat) => l.length - k) (0) (by simp <;> rfl) ?_ ?_ ?_
 ·simp [ofL]
 ·simp
 rintro k hk;simp only [List.cons_append, List.nil_append];have hol := ofL_len nA (l.take k);simp only [List.length_take] at hol;refine zr ⟨[2,3,12,14,16],[],[],[],[]⟩ fun _ _ Z=>?_;simp (disch:=omega);and_intros<;>(try omega);apply Z;apply aH;refine zi ?_;refine ⟨fun c1=>?_,fun c1=>?_⟩
 ·try simp at c1
  apply aK;apply aE;apply aH;apply aN;refine zr ⟨[2,3,12,14,16],[],[],[],[]⟩ fun _ _ Z=>?_;simp (disch:=omega);and_intros<;>(try omega);apply Z;refine zt ⟨[2,3,12,14,16],[],[],[],[]⟩ fun _ _ Z=>?_;refine aC 2 fun _ Y=>?_;simp (disch:=omega);and_intros<;>(try omega);apply Y;simp only [List.drop];refine aD fun _ Y=>?_;simp (disch:=omega);refine cD (Dd (ofL nA (l.take k)) l[k] _ (by omega) (ofL_sorted nA _)) ?_;apply Y;simp (disch:=omega);and_intros<;>(try omega);apply Z;apply aZ;apply aE;refine zk [2,3,6,7,8] ?_;refine zt ⟨[2,3,12,14,16],[],[],[],[]⟩ fun _ _ Z=>?_;simp (disch:=omega);and_intros<;>(try omega);apply Z;refine bT (k + 1) ?_ ?_ (bI rfl ?_ (by simp) (by simp))
  ·omega
  ·try dsimp only
   omega
  ·simp (disch:=omega)[ofL_take]
 ·try simp at c1
  apply bP;apply bN;apply bO;apply bG;apply aE;refine zr ⟨[2,3,12,14,16],[],[],[],[]⟩ fun _ _ Z=>?_;simp (disch:=omega);and_intros<;>(try omega);apply Z;apply aF;simp [aR];rw [List.take_of_length_le (by omega)]
theorem Jb (l : List AT) (c : ByteArray) (v : ByteArray) (σ : List (List D)) (hl : l.length ≤ 99999) : Ct Try.prog 8 [.sl false (l.map bR), D.str c, D.str v] σ (fun r σ' => r = .xs 2 ((cZ nA (ofL nA l) ⟨c, v⟩).map bR) ∧ σ' = σ) := by
 refine zf (rs:=[.tmp 6]) Try.func8 Try.ntmps8 Try.results8 ?_;simp only [aM];have hol := ofL_len nA l;refine zr ⟨[6,9,10,12],[],[],[],[]⟩ fun _ _ Z=>?_;simp;and_intros<;>(try omega);apply Z;refine zr ⟨[6,9,10,12],[],[],[],[]⟩ fun _ _ Z=>?_;refine aC 1 fun _ Y=>?_;simp;and_intros<;>(try omega);apply Y;simp only [List.drop];refine aD fun _ Y=>?_;simp;refine cD (Jv l _ (by omega)) ?_;apply Y;refine aC 3 fun _ Y=>?_;simp;and_intros<;>(try omega);apply Y;simp only [List.drop];refine aD fun _ Y=>?_;simp;refine cD (Dd (ofL nA l) ⟨c, v⟩ _ (by omega) (ofL_sorted nA l)) ?_;apply Y;simp;and_intros<;>(try omega);apply Z;apply aF;simp [aR]
theorem Cm (l : List AT) (c : ByteArray) (v : ByteArray) (σ : List (List D)) (hl : l.length ≤ 99999) (hs : Sorted nA l) : Ct Try.prog 8 [.sl false (l.map bR), D.str c, D.str v] σ (fun r σ' => r = .sl false ((cZ nA l ⟨c, v⟩).map bR) ∧ σ' = σ) :=
 (Jb l c v σ hl).freeze fun r σ' h => by rw [ofL_id nA hs] at h; exact h
theorem Of (l : List AT) (p : AT → Bool) (f : FuncId) (caps : List D) (σ : List (List D)) (hl : l.length ≤ 99999) (hcp : ∀ d ∈ caps, d.plain = true) (hcs : caps.map D.strip = caps) (hp : ∀ x τ, Ct Try.prog f (bR x :: caps) τ (fun r τ' => r = .bool (p x) ∧ τ' = τ)) : Ct Try.prog 46 [.sl false (l.map bR), .clo (.func f) [] caps] σ (fun r σ' => r = .xs 2 (((ofL nA l).filter fun x => !p x).map bR) ∧ σ' = σ) := by
 refine zf (rs:=[.tmp 4]) Try.func46 Try.ntmps46 Try.results46 ?_;simp only [aM];have hol := ofL_len nA l;refine zr ⟨[4,7,8],[],[],[],[]⟩ fun _ _ Z=>?_;simp;and_intros<;>(try omega);apply Z;refine zr ⟨[4,7,8],[],[],[],[]⟩ fun _ _ Z=>?_;refine aC 1 fun _ Y=>?_;simp;and_intros<;>(try omega);apply Y;simp only [List.drop];refine aD fun _ Y=>?_;simp;refine cD (Jv l _ (by omega)) ?_;apply Y;refine aC 1 fun _ Y=>?_;simp;and_intros<;>(try omega);apply Y;simp only [List.drop];refine aD fun _ Y=>?_;simp;refine cD (Bn (ofL nA l) p f caps _ (by omega) hcp hcs hp) ?_;apply Y;simp;and_intros<;>(try omega);apply Z;apply aF;simp [aR]
theorem Cl (l : List PI) (p : PI) (σ : List (List D)) (hl : l.length ≤ 999999) (hs : Sorted nP l) : Ct Try.prog 18 [.xs 2 (l.map bH), bH p] σ (fun r σ' => r = .xs 2 ((cZ nP l p).map bH) ∧ σ' = σ) :=
 (Ko l p σ hl hs).trim fun r σ' ⟨hr, J, hs⟩ => ⟨σ, J, hs, rfl, by rw [hr]; exact Se _ _, fun n cs h => .inl h, hr, rfl⟩
theorem kQ (l : List PI) (rest : List D) (i : Nat) (h : i < l.length) : lG false 1 ((l.flatMap cP ++ rest).drop (i * 2 + 1)) = some (D.int l[i].value) := Li (f := cP) (k := 2) (fun _ => rfl) l rest i 1 h (by decide)
theorem sA (l : List PI) (σ : List (List D)) (hl : l.length ≤ 999999) : Ct Try.prog 12 [.sl false (l.map bH)] σ (fun r σ' => r = .xs 2 ((ofL nP l).map bH) ∧ σ' = σ) := by
 refine zf (rs:=[.tmp 2]) Try.func12 Try.ntmps12 Try.results12 ?_;simp only [aM];refine zr ⟨[2,3,12,14,16],[],[],[],[]⟩ fun _ _ Z=>?_;simp (disch:=omega);and_intros<;>(try omega);apply Z;refine zr ⟨[2,3,12,14,16],[],[],[],[]⟩ fun _ _ Z=>?_;simp (disch:=omega);and_intros<;>(try omega);apply Z;apply aH;refine zr ⟨[2,3,12,14,16],[],[],[],[]⟩ fun _ _ Z=>?_;simp (disch:=omega);and_intros<;>(try omega);apply Z;apply aN;refine zk [2,3,6,7,8] ?_;refine rJ 3 2 (by simp <;> rfl) ?_;refine cN (fun (k : Nat) => [(8, .d (.v (.int .i64 (k : Int)))), (3, .d (.xs 2 ((ofL nP (l.take k)).map bH)))]) [3, 5, 8, 9, 10, 11, 12, 13, 14, 15] (fun (k : Nat) => k ≤ l.length) (fun (k : Nat) => l.length - k) (0) (by simp <;> rfl) ?_ ?_ ?_
 ·simp [ofL]
 ·simp
 rintro k hk;simp only [List.cons_append, List.nil_append];have hol := ofL_len nP (l.take k);simp only [List.length_take] at hol;refine zr ⟨[2,3,12,14,16],[],[],[],[]⟩ fun _ _ Z=>?_;simp (disch:=omega);and_intros<;>(try omega);apply Z;apply aH;refine zi ?_;refine ⟨fun c1=>?_,fun c1=>?_⟩
 ·try simp at c1
  apply aK;apply aE;apply aH;apply aN;refine zr ⟨[2,3,12,14,16],[],[],[],[]⟩ fun _ _ Z=>?_;simp (disch:=omega);and_intros<;>(try omega);apply Z;refine zt ⟨[2,3,12,14,16],[],[],[],[]⟩ fun _ _ Z=>?_;refine aC 2 fun _ Y=>?_;simp (disch:=omega);and_intros<;>(try omega);apply Y;simp only [List.drop];refine aD fun _ Y=>?_;simp (disch:=omega);refine cD (Cl (ofL nP (l.take k)) l[k] _ (by omega) (ofL_sorted nP _)) ?_;apply Y;simp (disch:=omega);and_intros<;>(try omega);apply Z;apply aZ;apply aE;refine zk [2,3,6,7,8] ?_;refine zt ⟨[2,3,12,14,16],[],[],[],[]⟩ fun _ _ Z=>?_;simp (disch:=omega);and_intros<;>(try omega);apply Z;refine bT (k + 1) ?_ ?_ (bI rfl ?_ (by simp) (by simp))
  ·omega
  ·try dsimp only
   omega
  ·simp (disch:=omega)[ofL_take]
 ·try simp at c1
  apply bP;apply bN;apply bO;apply bG;apply aE;refine zr ⟨[2,3,12,14,16],[],[],[],[]⟩ fun _ _ Z=>?_;simp (disch:=omega);and_intros<;>(try omega);apply Z;apply aF;simp [aR];rw [List.take_of_length_le (by omega)]
theorem Ll (l : List PI) (c : ByteArray) (σ : List (List D)) (hl : l.length ≤ 999999) (hs : Sorted nP l) : Ct Try.prog 55 [.sl false (l.map bH), D.str c] σ (fun r σ' => r = .tup [D.int (iG l c), .bool (kL nP l c)] ∧ ∃ J, σ' = σ ++ J) := by
 refine zf (rs:=[.tmp 4,.tmp 5]) Try.func55 Try.ntmps55 Try.results55 ?_;simp only [aM];refine zr ⟨[6,11],[],[],[21],[]⟩ fun _ _ Z=>?_;simp (disch:=omega)[aB,aA,kQ];and_intros<;>(try omega);apply Z;refine zr ⟨[6,11],[],[],[21],[]⟩ fun _ _ Z=>?_;refine aC 1 fun _ Y=>?_;simp (disch:=omega)[aB,aA,kQ];and_intros<;>(try omega);apply Y;simp only [List.drop];refine aD fun _ Y=>?_;simp (disch:=omega)[aB,aA,kQ];refine cD (sA l _ hl) ?_;rw [ofL_id nP hs];apply Y;simp (disch:=omega)[aB,aA,kQ];and_intros<;>(try omega);apply Z;apply aH;refine eQ 6 2 rfl (by decide) fun cap rest hcap hcm hrest hk0 hes => ?_;subst hrest;simp only [List.length_map] at hcap ⊢;rw [bA (f := cP) (fun _ => rfl)];refine zr ⟨[6,11],[],[],[21],[]⟩ fun _ _ Z=>?_;refine aC 2 fun _ Y=>?_;simp (disch:=omega)[aB,aA,kQ];and_intros<;>(try omega);apply Y;simp only [List.drop];refine aD fun _ Y=>?_;simp (disch:=omega)[aB,aA,kQ];refine cD (Kn σ.length cap l (List.replicate ((cap - l.length) * 2) .any) c _ (by omega) (by simp [aB]) hs) ?_;apply Y;simp (disch:=omega)[aB,aA,kQ];and_intros<;>(try omega);apply Z;refine zk [4,5,6,7,8] ?_;refine zr ⟨[6,11],[],[],[21],[]⟩ fun _ _ Z=>?_;simp (disch:=omega)[aB,aA,kQ];and_intros<;>(try omega);apply Z;refine zi ?_;refine ⟨fun c1=>?_,fun c1=>?_⟩
 ·try simp at c1
  have hlt := fnd_lt nP c1;have hva := xQ hs hlt c1;have hhn := (vN nP hs c).symm.trans c1;refine zr ⟨[6,11],[],[],[21],[]⟩ fun _ _ Z=>?_;simp (disch:=omega)[aB,aA,kQ];and_intros<;>(try omega);apply Z;apply aF;apply bD;simp [aR, hhn, hva]
 ·try simp at c1
  have hhn : kL nP l c = false := by rw [← vN nP hs c]; simpa using c1
  have hva := Kr hhn;apply aK;apply aE;refine zr ⟨[6,11],[],[],[21],[]⟩ fun _ _ Z=>?_;simp (disch:=omega)[aB,aA,kQ];and_intros<;>(try omega);apply Z;refine zr ⟨[6,11],[],[],[21],[]⟩ fun _ _ Z=>?_;simp (disch:=omega)[aB,aA,kQ];and_intros<;>(try omega);apply Z;apply aF;simp [aR, hhn, hva]
theorem Dk (l : List PI) (c : ByteArray) (σ : List (List D)) (hl : l.length ≤ 999999) (hs : Sorted nP l) : Ct Try.prog 55 [.sl false (l.map bH), D.str c] σ (fun r σ' => r = .tup [D.int (iG l c), .bool (kL nP l c)] ∧ σ' = σ) :=
 (Ll l c σ hl hs).trim fun r σ' ⟨hr, J, hs'⟩ => ⟨σ, J, hs', rfl, by rw [hr]; exact Sc.tup fun d hd => by simp at hd; rcases hd with rfl | rfl <;> exact Sc.v _, fun n cs h => .inl h, hr, rfl⟩
theorem Hy (l : List PI) (c : ByteArray) (v : Int) (σ : List (List D)) (hl : l.length ≤ 99999) : Ct Try.prog 7 [.sl false (l.map bH), D.str c, D.int v] σ (fun r σ' => r = .xs 2 ((cZ nP (ofL nP l) ⟨c, v⟩).map bH) ∧ σ' = σ) := by
 refine zf (rs:=[.tmp 6]) Try.func7 Try.ntmps7 Try.results7 ?_;simp only [aM];have hol := ofL_len nP l;refine zr ⟨[6,9,10,12],[],[],[],[]⟩ fun _ _ Z=>?_;simp;and_intros<;>(try omega);apply Z;refine zr ⟨[6,9,10,12],[],[],[],[]⟩ fun _ _ Z=>?_;refine aC 1 fun _ Y=>?_;simp;and_intros<;>(try omega);apply Y;simp only [List.drop];refine aD fun _ Y=>?_;simp;refine cD (sA l _ (by omega)) ?_;apply Y;refine aC 3 fun _ Y=>?_;simp;and_intros<;>(try omega);apply Y;simp only [List.drop];refine aD fun _ Y=>?_;simp;refine cD (Cl (ofL nP l) ⟨c, v⟩ _ (by omega) (ofL_sorted nP l)) ?_;apply Y;simp;and_intros<;>(try omega);apply Z;apply aF;simp [aR]
theorem Oy (l : List PI) (c : ByteArray) (v : Int) (σ : List (List D)) (hl : l.length ≤ 99999) (hs : Sorted nP l) : Ct Try.prog 7 [.sl false (l.map bH), D.str c, D.int v] σ (fun r σ' => r = .sl false ((cZ nP l ⟨c, v⟩).map bH) ∧ σ' = σ) :=
 (Hy l c v σ hl).freeze fun r σ' h => by rw [ofL_id nP hs] at h; exact h
theorem Px (l : List PI) (p : PI → Bool) (f : FuncId) (caps : List D) (σ : List (List D)) (hl : l.length ≤ 99999) (hcp : ∀ d ∈ caps, d.plain = true) (hcs : caps.map D.strip = caps) (hp : ∀ x τ, Ct Try.prog f (bH x :: caps) τ (fun r τ' => r = .bool (p x) ∧ τ' = τ)) : Ct Try.prog 49 [.sl false (l.map bH), .clo (.func f) [] caps] σ (fun r σ' => r = .xs 2 (((ofL nP l).filter fun x => !p x).map bH) ∧ σ' = σ) := by
 refine zf (rs:=[.tmp 4]) Try.func49 Try.ntmps49 Try.results49 ?_;simp only [aM];have hol := ofL_len nP l;refine zr ⟨[4,7,8],[],[],[],[]⟩ fun _ _ Z=>?_;simp;and_intros<;>(try omega);apply Z;refine zr ⟨[4,7,8],[],[],[],[]⟩ fun _ _ Z=>?_;refine aC 1 fun _ Y=>?_;simp;and_intros<;>(try omega);apply Y;simp only [List.drop];refine aD fun _ Y=>?_;simp;refine cD (sA l _ (by omega)) ?_;apply Y;refine aC 1 fun _ Y=>?_;simp;and_intros<;>(try omega);apply Y;simp only [List.drop];refine aD fun _ Y=>?_;simp;refine cD (zR (ofL nP l) p f caps _ (by omega) hcp hcs hp) ?_;apply Y;simp;and_intros<;>(try omega);apply Z;apply aF;simp [aR]
end Go.Proofs.Ytighdhfgcdjmeaa

