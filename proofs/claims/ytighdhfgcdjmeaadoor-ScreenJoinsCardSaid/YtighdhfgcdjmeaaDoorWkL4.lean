import Derived.Test.YtighdhfgcdjmeaaDoorWkL3
namespace Go.Proofs.YtighdhfgcdjmeaaDoor
open Go Go.Vm
set_option maxRecDepth 20000
set_option linter.all false
set_option maxHeartbeats 8000000
def mF (l : List PI) (c : ByteArray) : Int := ((l.find? fun p => decide (p.name = c)).map PI.value).getD 0
theorem vW : ∀ {l : List PI}, Sorted nP l → ∀ {c : ByteArray} (h : posL nP l c < l.length), fnd nP l c = true → l[posL nP l c].value = mF l c
 | [], _, c, h, _ => by simp at h
 | q :: l, hs, c, h, hf => by
  unfold mF;by_cases hq : cD (nP q) c = true
  ·have e : posL nP (q :: l) c = posL nP l c + 1 := by simp [posL, hq]
   have hf' : fnd nP l c = true := by simpa [fnd, hq] using hf
   have hne : ¬ q.name = c := gZ hq;simp only [e, List.getElem_cons_succ, List.find?_cons, hne, decide_false];exact vW (List.Pairwise.of_cons hs) _ hf'
  ·have e : posL nP (q :: l) c = 0 := by simp [posL, hq]
   have hf' : q.name = c := by simpa [fnd, hq] using hf
   simp [e, hf']
theorem Hx {l : List PI} {c : ByteArray} (h : oA nP l c = false) : mF l c = 0 := by
 unfold mF;have : l.find? (fun p => decide (p.name = c)) = none := by
  rw [List.find?_eq_none];intro p hp e;have h2 : oA nP l c = true := by unfold oA; rw [List.any_eq_true]; exact ⟨p, hp, e⟩
  rw [h] at h2; cases h2
 rw [this]; rfl
theorem Jm (l : List PI) (p : PI) (σ : List (List D)) (hl : l.length ≤ 999999) (hs : Sorted nP l) : Ct Tryd.prog 26 [.xs 2 (l.map bT), bT p] σ (fun r σ' => r = .xs 2 ((dI nP l p).map bT) ∧ σ' = σ) :=
 (Hv l p σ hl hs).trim fun r σ' ⟨hr, J, hs⟩ => ⟨σ, J, hs, rfl, by rw [hr]; exact Oq _ _, fun n cs h => .inl h, hr, rfl⟩
theorem jO (l : List PI) (rest : List D) (i : Nat) (h : i < l.length) : jN false 1 ((l.flatMap cP ++ rest).drop (i * 2 + 1)) = some (D.int l[i].value) := Fp (f := cP) (k := 2) (fun _ => rfl) l rest i 1 h (by decide)
theorem Iw (l : List PI) (σ : List (List D)) (hl : l.length ≤ 999999) : Ct Tryd.prog 12 [.sl false (l.map bT)] σ (fun r σ' => r = .xs 2 ((ofL nP l).map bT) ∧ σ' = σ) := by
 refine zf (rs:=[.tmp 2]) Tryd.func12 Tryd.ntmps12 Tryd.results12 ?_;simp only [aX];refine zr ⟨[2,3,12,14,16],[],[],[],[]⟩ fun _ _ Z=>?_;simp (disch:=omega);and_intros<;>(try omega);apply Z;refine zr ⟨[2,3,12,14,16],[],[],[],[]⟩ fun _ _ Z=>?_;simp (disch:=omega);and_intros<;>(try omega);apply Z;apply aG;refine zr ⟨[2,3,12,14,16],[],[],[],[]⟩ fun _ _ Z=>?_;simp (disch:=omega);and_intros<;>(try omega);apply Z;apply aU;refine zk [2,3,6,7,8] ?_;refine vG 3 2 (by simp <;> rfl) ?_;refine eS (fun (k : Nat) => [(8, .d (.v (.int .i64 (k : Int)))), (3, .d (.xs 2 ((ofL nP (l.take k)).map bT)))]) [3, 5, 8, 9, 10, 11, 12, 13, 14, 15] (fun (k : Nat) => k ≤ l.length) (fun (k : Nat) => l.length - k) (0) (by simp <;> rfl) ?_ ?_ ?_
 ·simp [ofL]
 ·simp
 rintro k hk;simp only [List.cons_append, List.nil_append];have hol := ofL_len nP (l.take k);simp only [List.length_take] at hol;refine zr ⟨[2,3,12,14,16],[],[],[],[]⟩ fun _ _ Z=>?_;simp (disch:=omega);and_intros<;>(try omega);apply Z;apply aG;refine zi ?_;refine ⟨fun c1=>?_,fun c1=>?_⟩
 ·try simp at c1
  apply aM;apply aC;apply aG;apply aU;refine zr ⟨[2,3,12,14,16],[],[],[],[]⟩ fun _ _ Z=>?_;simp (disch:=omega);and_intros<;>(try omega);apply Z;refine zt ⟨[2,3,12,14,16],[],[],[],[]⟩ fun _ _ Z=>?_;refine aA 2 fun _ Y=>?_;simp (disch:=omega);and_intros<;>(try omega);apply Y;simp only [List.drop];refine aK fun _ Y=>?_;simp (disch:=omega);refine fN (Jm (ofL nP (l.take k)) l[k] _ (by omega) (ofL_sorted nP _)) ?_;apply Y;simp (disch:=omega);and_intros<;>(try omega);apply Z;apply bB;apply aC;refine zk [2,3,6,7,8] ?_;refine zt ⟨[2,3,12,14,16],[],[],[],[]⟩ fun _ _ Z=>?_;simp (disch:=omega);and_intros<;>(try omega);apply Z;refine cM (k + 1) ?_ ?_ (bV rfl ?_ (by simp) (by simp))
  ·omega
  ·try dsimp only
   omega
  ·simp (disch:=omega)[ofL_take]
 ·try simp at c1
  apply cL;apply cI;apply cK;apply bW;apply aC;refine zr ⟨[2,3,12,14,16],[],[],[],[]⟩ fun _ _ Z=>?_;simp (disch:=omega);and_intros<;>(try omega);apply Z;apply aI;simp [bE];rw [List.take_of_length_le (by omega)]
theorem Fz (l : List PI) (c : ByteArray) (σ : List (List D)) (hl : l.length ≤ 999999) (hs : Sorted nP l) : Ct Tryd.prog 61 [.sl false (l.map bT), D.str c] σ (fun r σ' => r = .tup [D.int (mF l c), .bool (oA nP l c)] ∧ ∃ J, σ' = σ ++ J) := by
 refine zf (rs:=[.tmp 4,.tmp 5]) Tryd.func61 Tryd.ntmps61 Tryd.results61 ?_;simp only [aX];refine zr ⟨[6,11],[],[],[21],[]⟩ fun _ _ Z=>?_;simp (disch:=omega)[aD,aB,jO];and_intros<;>(try omega);apply Z;refine zr ⟨[6,11],[],[],[21],[]⟩ fun _ _ Z=>?_;refine aA 1 fun _ Y=>?_;simp (disch:=omega)[aD,aB,jO];and_intros<;>(try omega);apply Y;simp only [List.drop];refine aK fun _ Y=>?_;simp (disch:=omega)[aD,aB,jO];refine fN (Iw l _ hl) ?_;rw [ofL_id nP hs];apply Y;simp (disch:=omega)[aD,aB,jO];and_intros<;>(try omega);apply Z;apply aG;refine fW 6 2 rfl (by decide) fun cap rest hcap hcm hrest hk0 hes => ?_;subst hrest;simp only [List.length_map] at hcap ⊢;rw [bD (f := cP) (fun _ => rfl)];refine zr ⟨[6,11],[],[],[21],[]⟩ fun _ _ Z=>?_;refine aA 2 fun _ Y=>?_;simp (disch:=omega)[aD,aB,jO];and_intros<;>(try omega);apply Y;simp only [List.drop];refine aK fun _ Y=>?_;simp (disch:=omega)[aD,aB,jO];refine fN (Ia σ.length cap l (List.replicate ((cap - l.length) * 2) .any) c _ (by omega) (by simp [aD]) hs) ?_;apply Y;simp (disch:=omega)[aD,aB,jO];and_intros<;>(try omega);apply Z;refine zk [4,5,6,7,8] ?_;refine zr ⟨[6,11],[],[],[21],[]⟩ fun _ _ Z=>?_;simp (disch:=omega)[aD,aB,jO];and_intros<;>(try omega);apply Z;refine zi ?_;refine ⟨fun c1=>?_,fun c1=>?_⟩
 ·try simp at c1
  have hlt := fnd_lt nP c1;have hva := vW hs hlt c1;have hhn := (tC nP hs c).symm.trans c1;refine zr ⟨[6,11],[],[],[21],[]⟩ fun _ _ Z=>?_;simp (disch:=omega)[aD,aB,jO];and_intros<;>(try omega);apply Z;apply aI;apply bP;simp [bE, hhn, hva]
 ·try simp at c1
  have hhn : oA nP l c = false := by rw [← tC nP hs c]; simpa using c1
  have hva := Hx hhn;apply aM;apply aC;refine zr ⟨[6,11],[],[],[21],[]⟩ fun _ _ Z=>?_;simp (disch:=omega)[aD,aB,jO];and_intros<;>(try omega);apply Z;refine zr ⟨[6,11],[],[],[21],[]⟩ fun _ _ Z=>?_;simp (disch:=omega)[aD,aB,jO];and_intros<;>(try omega);apply Z;apply aI;simp [bE, hhn, hva]
theorem Jh (l : List PI) (c : ByteArray) (σ : List (List D)) (hl : l.length ≤ 999999) (hs : Sorted nP l) : Ct Tryd.prog 61 [.sl false (l.map bT), D.str c] σ (fun r σ' => r = .tup [D.int (mF l c), .bool (oA nP l c)] ∧ σ' = σ) :=
 (Fz l c σ hl hs).trim fun r σ' ⟨hr, J, hs'⟩ => ⟨σ, J, hs', rfl, by rw [hr]; exact Sc.tup fun d hd => by simp at hd; rcases hd with rfl | rfl <;> exact Sc.v _, fun n cs h => .inl h, hr, rfl⟩
end Go.Proofs.YtighdhfgcdjmeaaDoor

