import Derived.Test.YtighdhfgcdjmeaaDoorWkL21
namespace Go.Proofs.YtighdhfgcdjmeaaDoor
open Go Go.Vm
set_option maxRecDepth 20000
set_option linter.all false
set_option maxHeartbeats 8000000
def dW (s : ByteArray) (k : Nat) : Nat := (s.data[k]?.getD 0).toNat
def kU : Nat → ByteArray → ByteArray
 | 0, s => s
 | n + 1, s => if 0 < s.size ∧ dW s (s.size - 1) = 32 then kU n (s.extract 0 (s.size - 1)) else s
def eY (s : ByteArray) : ByteArray := kU s.size s
theorem yM (s : ByteArray) (h : ¬ (0 < s.size ∧ dW s (s.size - 1) = 32)) : eY s = s := by
 unfold eY;cases s.size with
 | zero => rfl
 | succ n => simp only [kU]; rw [if_neg h]
theorem zK (s : ByteArray) (h0 : 0 < s.size) (h : dW s (s.size - 1) = 32) : eY s = eY (s.extract 0 (s.size - 1)) := by
 have e : (s.extract 0 (s.size - 1)).size = s.size - 1 := by simp
 unfold eY;rw [e];obtain ⟨n, hn⟩ : ∃ n, s.size = n + 1 := ⟨s.size - 1, by omega⟩;rw [show kU s.size s = kU (n + 1) s by rw [hn]];simp only [kU, h0, h, and_self, if_true];rw [hn]; rfl
def hC (l : List ByteArray) : ByteArray := l.foldl (fun a s => a ++ (eY s ++ ⟨#[10]⟩)) ⟨#[]⟩
theorem Kx : hC [] = ⟨#[]⟩ := rfl
theorem iP (l : List ByteArray) (k : Nat) (h : k < l.length) : hC (l.take (k + 1)) = hC (l.take k) ++ (eY l[k] ++ ⟨#[10]⟩) := by
 unfold hC; rw [fT l k h, List.foldl_append]; rfl
theorem lO : ∀ (n : Nat) (s : ByteArray), (kU n s).size ≤ s.size
 | 0, s => Nat.le_refl _
 | n + 1, s => by
  simp only [kU];split
  ·exact Nat.le_trans (lO n _) (by simp)
  ·exact Nat.le_refl _
theorem lB : ∀ (l : List ByteArray) (k : Nat), (∀ s ∈ l, s.size ≤ 1000) → k ≤ l.length → (hC (l.take k)).size ≤ k * 1001
 | l, 0, _, _ => by rw [List.take_zero]; exact Nat.le_refl _
 | l, k + 1, h, hk => by
  have ih := lB l k h (by omega);have h1 := lO (l[k]'(by omega)).size (l[k]'(by omega));have h2 := h (l[k]'(by omega)) (List.getElem_mem _);have h3 : (⟨#[10]⟩ : ByteArray).size = 1 := rfl;rw [iP l k (by omega)];simp only [ByteArray.size_append, h3];unfold eY;omega
theorem sZ (s : ByteArray) (n k : Nat) (hk : k < n) (hn : n ≤ s.size) : dW (s.extract 0 n) k = dW s k := by
 unfold dW;have hs : s.data.size = s.size := rfl;have e : (s.extract 0 n).data[k]? = s.data[k]? := by
  rw [ByteArray.data_extract, Array.getElem?_extract];simp; omega
 rw [e]
theorem Pc (s : ByteArray) (n : Nat) (hn : n ≤ s.size) : (s.extract 0 n).extract 0 (n - 1) = s.extract 0 (n - 1) := by
 apply ByteArray.ext;simp only [ByteArray.data_extract, Array.extract_extract];congr 1; omega
theorem Mb (s : ByteArray) : s.extract 0 s.size = s := by
 apply ByteArray.ext;rw [ByteArray.data_extract];exact Array.extract_size
theorem Fe (s : ByteArray) (n : Nat) (hn : n ≤ s.size) (h0 : 0 < n) (h : dW s (n - 1) = 32) : eY (s.extract 0 n) = eY (s.extract 0 (n - 1)) := by
 have e : (s.extract 0 n).size = n := by simp; omega
 have := zK (s.extract 0 n) (by omega) (by rw [e, sZ s n _ (by omega) hn]; exact h);rw [this, e, Pc s n hn]
theorem sA (s : ByteArray) (n : Nat) (hn : n ≤ s.size) (h : ¬ (0 < n ∧ dW s (n - 1) = 32)) : eY (s.extract 0 n) = s.extract 0 n := by
 have e : (s.extract 0 n).size = n := by simp; omega
 refine yM _ fun ⟨h0, h1⟩ => h ⟨by omega, ?_⟩;rw [e, sZ s n _ (by omega) hn] at h1;exact h1
theorem uU (l : Ls) (σ : List (List D)) (hl : l.length ≤ 1000) (hs : ∀ s ∈ l, s.size ≤ 1000) : Ct Tryd.prog 8 [dl l] σ (fun r σ' => r = .v (.string (hC l)) ∧ σ' = σ) := by
 refine zf (rs:=[.tmp 2]) Tryd.func8 Tryd.ntmps8 Tryd.results8 ?_;simp only [aX];have h10 : (⟨#[10]⟩ : ByteArray).size = 1 := rfl;refine cN fun _ _ Z=>?_;simp (disch:=omega);and_intros<;>(try omega);apply Z;refine cN fun _ _ Z=>?_;simp (disch:=omega);and_intros<;>(try omega);apply Z;apply aG;refine cN fun _ _ Z=>?_;simp (disch:=omega);and_intros<;>(try omega);apply Z;apply aU;refine zk [2,3,7,8,9] ?_;refine eS (fun (k : Nat) => [(9, .d (.v (.int .i64 (k : Int)))), (3, .d (.v (.string (hC (l.take k))))), (5, .d (.any)), (6, .d (.any))]) [3, 5, 6, 9, 10, 11, 12, 13, 14, 15, 16, 17, 18, 19, 20, 21, 22, 23, 24, 25, 26, 27, 28, 29, 30, 31, 32] (fun (k : Nat) => k ≤ l.length) (fun (k : Nat) => l.length - k) (0) (by simp <;> rfl) ?_ ?_ ?_
 ·simp [Kx]
 ·simp
 rintro k hk;simp only [List.cons_append, List.nil_append];have hjs := lB l k hs hk;refine cN fun _ _ Z=>?_;simp (disch:=omega);and_intros<;>(try omega);apply Z;apply aG;refine zi ?_;refine ⟨fun c1=>?_,fun c1=>?_⟩
 ·try simp at c1
  apply aM;apply aC;apply aG;apply aU;refine cN fun _ _ Z=>?_;simp (disch:=omega);and_intros<;>(try omega);apply Z;refine cN fun _ _ Z=>?_;simp (disch:=omega);and_intros<;>(try omega);apply Z;apply aG;apply aU;refine zk [2,3,5,6,7,8,9] ?_;refine eS (fun (n : Nat) => [(6, .d (.v (.int .i64 (n : Int))))]) [6, 15, 16, 17, 18, 19, 20, 21, 22, 23, 24, 25] (fun (n : Nat) => n ≤ l[k].size ∧ eY l[k] = eY (l[k].extract 0 n)) (fun (n : Nat) => n) (l[k].size) (by simp <;> rfl) ?_ ?_ ?_
  ·simp
  ·simp [Mb]
  rintro n ⟨h1, h2⟩;simp only [List.cons_append, List.nil_append];have hsk := hs l[k] (List.getElem_mem _);apply aG;refine Iz ⟨[],[],[],[],[]⟩ fun all hall _ Z=>?_;have ga2 : aT all 2 = some 17 := hall 2;refine aA 3 fun _ Y=>?_;simp (disch:=omega)[ga2];and_intros<;>(try omega);apply Y;simp only [List.drop];refine cF 17 (by simp <;> rfl) ?_;refine ⟨fun g2 => ?_, fun g2 => ?_⟩
  ·try simp at g2
   simp (disch:=omega)[ga2];and_intros<;>(try omega);apply Z;refine zi ?_;refine ⟨fun c3=>?_,fun c3=>?_⟩
   ·try simp at c3
    apply aM;apply aC;apply aU;refine zk [2,3,5,6,7,8,9] ?_;refine Hb fun _ _ Z=>?_;simp (disch:=omega);and_intros<;>(try omega);apply Z;apply bB;refine cM (n - 1) ?_ ?_ (bV rfl ?_ (by simp) (by simp))
    ·refine ⟨by omega, h2.trans (Fe l[k] n h1 (by omega) (by unfold dW; omega))⟩
    ·omega
    ·simp (disch:=omega)[show ((n - 1 : Nat) : Int) = (n : Int) - 1 from by omega]
   ·try simp at c3
    have hz : eY l[k] = l[k].extract 0 n := h2.trans (sA l[k] n h1 (by unfold dW; omega));apply cL;apply cI;apply cK;apply bW;apply aC;refine zk [2,3,5,6,7,8,9] ?_;refine Hb fun _ _ Z=>?_;simp (disch:=omega);and_intros<;>(try omega);apply Z;apply bB;apply aC;refine zk [2,3,5,6,7,8,9] ?_;refine Hb fun _ _ Z=>?_;simp (disch:=omega);and_intros<;>(try omega);apply Z;refine cM (k + 1) ?_ ?_ (bV rfl ?_ (by simp) (by simp))
    ·omega
    ·try dsimp only
     omega
    ·simp (disch:=omega)[iP,hz]
  ·try simp at g2
   have hz : eY l[k] = l[k].extract 0 n := h2.trans (sA l[k] n h1 (by omega));simp (disch:=omega)[ga2];and_intros<;>(try omega);apply Z;refine eE (t := false) (by simp) (fun h => by cases h) (fun _ => ?_);apply cL;apply cI;apply cK;apply bW;apply aC;refine zk [2,3,5,6,7,8,9] ?_;refine Hb fun _ _ Z=>?_;simp (disch:=omega);and_intros<;>(try omega);apply Z;apply bB;apply aC;refine zk [2,3,5,6,7,8,9] ?_;refine Hb fun _ _ Z=>?_;simp (disch:=omega);and_intros<;>(try omega);apply Z;refine cM (k + 1) ?_ ?_ (bV rfl ?_ (by simp) (by simp))
   ·omega
   ·try dsimp only
    omega
   ·simp (disch:=omega)[iP,hz]
 ·try simp at c1
  apply cL;apply cI;apply cK;apply bW;apply aC;refine cN fun _ _ Z=>?_;simp (disch:=omega);and_intros<;>(try omega);apply Z;apply aI;simp [bE];rw [List.take_of_length_le (by omega)]
end Go.Proofs.YtighdhfgcdjmeaaDoor

