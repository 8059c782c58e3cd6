import Derived.Test.YtighdhfgcdjmeaaWkL19
namespace Go.Proofs.Ytighdhfgcdjmeaa
open Go Go.Vm
set_option maxRecDepth 20000
set_option linter.all false
set_option maxHeartbeats 8000000
theorem Pw (l : List FL) (σ : List (List D)) (hl : l.length ≤ 9223372036854775807) (hf : ∀ f ∈ l, FO f) : Ct Try.prog 6 [.sl false (l.map vL), D.int 25] σ (fun r σ' => (∃ v : VN, r = yO v ∧ VG v ∧ hD v ≤ 25) ∧ σ' = σ) :=
 (Ih l σ hl hf).strip fun r σ' h => ⟨h.1.1, h.1.2, h.2⟩
def Rh (l : List PI) (k : Nat) : List PI := l.take k
theorem Vh (l : List PI) : Rh l 0 = [] := rfl
theorem Jq (l : List PI) (k : Nat) (h : k < l.length) : Rh l (k + 1) = Rh l k ++ [l[k]] := cS l k h
theorem Pl (l : List PI) : Rh l l.length = l := List.take_length
theorem Qc (l : List PI) (k : Nat) : (Rh l k).length ≤ k := by unfold Rh; rw [List.length_take]; omega
theorem Pq (l : List PI) (σ : List (List D)) (hl : l.length ≤ 999999) : Ct Try.prog 12 [.sl false (l.map bH)] σ (fun r σ' => r = .sl false ((ofL nP l).map bH) ∧ σ' = σ) := (sA l σ hl).freeze fun r σ' h => h
theorem Qq (N : Nat) (t : TN) : Sc N (fE t) := Sc.agg fun d hd => by
 simp only [List.mem_cons, List.not_mem_nil, or_false] at hd;rcases hd with rfl | rfl | rfl | rfl | rfl | rfl | rfl | rfl
 ·exact Sc.v _
 ·exact Sc.v _
 ·exact Sc.v _
 ·exact Sc.v _
 ·exact Sc.sl (Sc.map fun a => Il _ a)
 ·exact Sc.sl (Sc.map fun a => Md _ a)
 ·exact Sc.sl (Sc.map fun a => Lq _ a)
 ·refine Sc.sl fun d hd => ?_;obtain ⟨k, hk, e⟩ := List.mem_map.1 hd;rw [← e, Nm];exact Qq N k
termination_by SizeOf.sizeOf t
decreasing_by
 have h := List.sizeOf_lt_of_mem hk;cases t; simp at h ⊢; omega
def jS (t : TN) : Nat := 1 + (t.kids.attach.map fun k => jS k.1).sum
termination_by SizeOf.sizeOf t
decreasing_by
 have h := List.sizeOf_lt_of_mem k.2;cases t; simp at h ⊢; omega
theorem nN (t : TN) : jS t = 1 + (t.kids.map jS).sum := by rw [jS]; simp
abbrev TF (t : TN) : Prop := (t.styles.length ≤ 4 ∧ Sorted nP t.styles) ∧ (t.attrs.length ≤ 4 ∧ Sorted nA t.attrs) ∧ t.text.size ≤ 70
inductive TG : TN → Prop
 | mk (t : TN) (h : TF t) (hk : ∀ k ∈ t.kids, TG k) : TG t
def mT (v : VN) (k : Nat) : Nat := ((v.kids.take k).map hD).sum
theorem Ii (v : VN) : mT v 0 = 0 := rfl
theorem jE (v : VN) (k : Nat) (h : k < v.kids.length) : mT v (k + 1) = mT v k + hD v.kids[k] := by
 unfold mT; rw [cS _ _ h, List.map_append, List.sum_append]; simp
theorem yS (v : VN) : mT v v.kids.length + 1 = hD v := by unfold mT; rw [List.take_length, nT]; omega
theorem Cc (v : VN) (k : Nat) : ∀ d, mT v k ≤ mT v (k + d)
 | 0 => Nat.le_refl _
 | d + 1 => by
  refine Nat.le_trans (Cc v k d) ?_;by_cases h : k + d < v.kids.length
  ·have := jE v (k + d) h;show _ ≤ mT v (k + d + 1)
   omega
  ·unfold mT; rw [List.take_of_length_le (by omega), List.take_of_length_le (by omega)]; exact Nat.le_refl _
theorem Pd (v : VN) (k : Nat) (h : k < v.kids.length) : mT v k + hD v.kids[k] + 1 ≤ hD v := by
 have h1 := jE v k h;have h2 := Cc v (k + 1) (v.kids.length - (k + 1));rw [show k + 1 + (v.kids.length - (k + 1)) = v.kids.length by omega] at h2;have h3 := yS v;omega
theorem Mw (v : VN) : ∀ k, k ≤ v.kids.length → k ≤ mT v k
 | 0, _ => Nat.zero_le _
 | k + 1, h => by
  have h1 := jE v k (by omega);have h2 := Mw v k (by omega);have h3 := nT v.kids[k];omega
abbrev Qw (v : VN) : Prop := ∀ (i : Nat) (σ : List (List D)), i + hD v ≤ 1000000 → Ct Try.prog 5 [yO v, D.int i] σ (fun r σ' => (∃ t : TN, r = .tup [fE t, D.int ((i + hD v : Nat) : Int)] ∧ TG t ∧ jS t = hD v) ∧ σ' = σ)
theorem Fk (l : List PI) (σ : List (List D)) (hl : l.length ≤ 999999) : Ct Try.prog 15 [.sl false (l.map bH)] σ (fun r σ' => r = .sl true (l.map bH) ∧ σ' = σ) := by
 refine zf (rs:=[.tmp 2]) Try.func15 Try.ntmps15 Try.results15 ?_;simp only [aM];refine zr ⟨[2,3,12,17],[],[],[],[]⟩ fun _ _ Z=>?_;simp (disch:=omega);and_intros<;>(try omega);apply Z;refine zr ⟨[2,3,12,17],[],[],[],[]⟩ fun _ _ Z=>?_;simp (disch:=omega);and_intros<;>(try omega);apply Z;apply aH;refine zr ⟨[2,3,12,17],[],[],[],[]⟩ fun _ _ Z=>?_;simp (disch:=omega);and_intros<;>(try omega);apply Z;apply aN;refine zk [2,3,6,7,8] ?_;refine cN (fun (k : Nat) => [(8, .d (.v (.int .i64 (k : Int)))), (3, .d (.sl true ((Rh l k).map bH))), (5, .d (.any))]) [3, 5, 8, 9, 10, 11, 12, 13, 14, 15, 16] (fun (k : Nat) => k ≤ l.length) (fun (k : Nat) => l.length - k) (0) (by simp <;> rfl) ?_ ?_ ?_
 ·simp [Vh]
 ·simp
 rintro k hk;simp only [List.cons_append, List.nil_append];have htl := Qc l k;refine zr ⟨[2,3,12,17],[],[],[],[]⟩ fun _ _ Z=>?_;simp (disch:=omega);and_intros<;>(try omega);apply Z;apply aH;refine zi ?_;refine ⟨fun c1=>?_,fun c1=>?_⟩
 ·try simp at c1
  apply aK;apply aE;apply aH;apply aN;refine zr ⟨[2,3,12,17],[],[],[],[]⟩ fun _ _ Z=>?_;simp (disch:=omega);and_intros<;>(try omega);apply Z;refine zt ⟨[2,3,12,17],[],[],[],[]⟩ fun _ _ Z=>?_;simp (disch:=omega);and_intros<;>(try omega);apply Z;apply aZ;apply aE;refine zk [2,3,5,6,7,8] ?_;refine zt ⟨[2,3,12,17],[],[],[],[]⟩ fun _ _ Z=>?_;simp (disch:=omega);and_intros<;>(try omega);apply Z;refine bT (k + 1) ?_ ?_ (bI rfl ?_ (by simp) (by simp))
  ·omega
  ·try dsimp only
   omega
  ·simp (disch:=omega)[Jq]
 ·try simp at c1
  obtain rfl : k = l.length := by omega
  rw [Pl];apply bP;apply bN;apply bO;apply bG;apply aE;refine zr ⟨[2,3,12,17],[],[],[],[]⟩ fun _ _ Z=>?_;simp (disch:=omega);and_intros<;>(try omega);apply Z;apply aF;simp [aR]
end Go.Proofs.Ytighdhfgcdjmeaa

