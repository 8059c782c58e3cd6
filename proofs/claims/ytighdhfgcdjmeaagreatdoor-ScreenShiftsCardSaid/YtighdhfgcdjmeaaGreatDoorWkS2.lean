import Derived.Test.YtighdhfgcdjmeaaGreatDoorWkL21
namespace Go.Proofs.YtighdhfgcdjmeaaGreatDoor
open Go Go.Vm
set_option maxRecDepth 20000
set_option linter.all false
set_option maxHeartbeats 8000000
def jS (s : ByteArray) (k : Nat) : Nat := (s.data[k]?.getD 0).toNat
def uZ : Nat → ByteArray → ByteArray
 | 0, s => s
 | n + 1, s => if 0 < s.size ∧ jS s (s.size - 1) = 32 then uZ n (s.extract 0 (s.size - 1)) else s
def sN (s : ByteArray) : ByteArray := uZ s.size s
def kL (l : List ByteArray) : ByteArray := l.foldl (fun a s => a ++ (sN s ++ ⟨#[10]⟩)) ⟨#[]⟩
theorem sH (l : List ByteArray) (k : Nat) (h : k < l.length) : kL (l.take (k + 1)) = kL (l.take k) ++ (sN l[k] ++ ⟨#[10]⟩) := by
 unfold kL; rw [cF l k h, List.foldl_append]; rfl
theorem mN : ∀ (n : Nat) (s : ByteArray), (uZ n s).size ≤ s.size
 | 0, s => Nat.le_refl _
 | n + 1, s => by
  simp only [uZ];split
  ·exact Nat.le_trans (mN n _) (by simp)
  ·exact Nat.le_refl _
theorem rX : ∀ (l : List ByteArray) (k : Nat), (∀ s ∈ l, s.size ≤ 1000) → k ≤ l.length → (kL (l.take k)).size ≤ k * 1001
 | l, 0, _, _ => by rw [List.take_zero]; exact Nat.le_refl _
 | l, k + 1, h, hk => by
  have ih := rX l k h (by omega);have h1 := mN (l[k]'(by omega)).size (l[k]'(by omega));have h2 := h (l[k]'(by omega)) (List.getElem_mem _);have h3 : (⟨#[10]⟩ : ByteArray).size = 1 := rfl;rw [sH l k (by omega)];simp only [ByteArray.size_append, h3];unfold sN;omega
end Go.Proofs.YtighdhfgcdjmeaaGreatDoor
namespace Go.Proofs.YtighdhfgcdjmeaaGreatDoor
open Go Go.Vm
set_option maxRecDepth 20000
set_option linter.all false
set_option maxHeartbeats 8000000
def zX (c : ByteArray) (l : Ls) : Bool := l.any fun x => decide (x = c)
theorem Ks (c x : ByteArray) (l : Ls) : zX c (l ++ [x]) = (zX c l || decide (x = c)) := by simp [zX]
theorem Dq {c : ByteArray} {l : Ls} {k : Nat} (h : k < l.length) (e : l[k] = c) : zX c l = true := by
 simp only [zX, List.any_eq_true, decide_eq_true_eq];exact ⟨l[k], List.getElem_mem h, e⟩
def Cf (c : ByteArray) (l : Ls) : Int := match l.findIdx? (fun x => decide (x = c)) with | some k => k | none => -1
theorem Qv {c : ByteArray} {l : Ls} {k : Nat} (h : k < l.length) (hh : zX c (l.take k) = false) (e : c = l[k]) : Cf c l = k := by
 have : l.findIdx? (fun x => decide (x = c)) = some k := by
  rw [List.findIdx?_eq_some_iff_getElem];refine ⟨h, by simp [e], fun j hj => ?_⟩;simp only [zX, List.any_eq_false, decide_eq_true_eq] at hh;have := hh ((l.take k)[j]'(by simp; omega)) (List.getElem_mem _);simpa using this
 simp [Cf, this]
theorem Fj {c : ByteArray} {l : Ls} (h : zX c l = false) : Cf c l = -1 := by
 have : l.findIdx? (fun x => decide (x = c)) = none := by
  rw [List.findIdx?_eq_none_iff];simpa [zX] using h
 simp [Cf, this]
theorem Lk (c : ByteArray) (l : Ls) : (0 ≤ Cf c l) ↔ zX c l = true := by
 unfold Cf;split
 ·rename_i k h;rw [List.findIdx?_eq_some_iff_getElem] at h;obtain ⟨hk, he, _⟩ := h;simp only [decide_eq_true_eq] at he;simp [Dq hk he]
 ·rename_i h;rw [List.findIdx?_eq_none_iff] at h;simp [zX];intro e; have := h c e; simp at this
theorem Ny (l : Ls) (c : ByteArray) (σ : List (List D)) (hl : l.length ≤ 9223372036854775807) : Ct Tryz.prog 98 [dl l, D.str c] σ (fun r σ' => r = .int (Cf c l) ∧ σ' = σ) := by
 refine zf (rs:=[.tmp 4]) Tryz.func98 Tryz.ntmps98 Tryz.results98 ?_;simp only [aQ];refine bV fun _ _ Z=>?_;simp (disch:=omega);and_intros<;>(try omega);apply Z;apply aE;refine bV fun _ _ Z=>?_;simp (disch:=omega);and_intros<;>(try omega);apply Z;apply aI;refine zk [0,1,4,7,8] ?_;refine cM (fun (k : Nat) => [(8, .d (.int k))]) [4, 5, 8, 9, 10, 11, 12, 13, 14, 15, 16, 17, 18] (fun (k : Nat) => k ≤ l.length ∧ zX c (l.take k) = false) (fun (k : Nat) => l.length - k) (0) (by simp <;> rfl) ?_ ?_ ?_
 ·simp
 ·simp [zX]
 rintro k ⟨hk, hh⟩;simp only [List.cons_append, List.nil_append];refine bV fun _ _ Z=>?_;simp (disch:=omega);and_intros<;>(try omega);apply Z;apply aE;refine zi ?_;refine ⟨fun c1=>?_,fun c1=>?_⟩
 ·try simp at c1
  apply aG;apply aC;apply aE;apply aI;refine bV fun _ _ Z=>?_;simp (disch:=omega);and_intros<;>(try omega);apply Z;refine bV fun _ _ Z=>?_;simp (disch:=omega);and_intros<;>(try omega);apply Z;refine zi ?_;refine ⟨fun c2=>?_,fun c2=>?_⟩
  ·try simp at c2
   refine zk [0,1,5,7,8] ?_;refine bV fun _ _ Z=>?_;simp (disch:=omega);and_intros<;>(try omega);apply Z;apply aF;apply fR;apply bK;apply oI;apply fR;apply bK;simp [aS];exact (Qv c1 hh c2).symm
  ·try simp at c2
   apply aG;apply aN;apply aC;refine zk [0,1,7,8] ?_;refine Fe fun _ _ Z=>?_;simp (disch:=omega);and_intros<;>(try omega);apply Z;refine bJ (k + 1) ?_ ?_ (aV rfl ?_ (by simp) (by simp))
   ·exact ⟨by omega, by rw [cF l k (by omega), Ks, hh]; simp; exact fun e => c2 e.symm⟩
   ·try dsimp only
    omega
   ·simp (disch:=omega)
 ·try simp at c1
  apply bD;apply bE;apply bG;apply aY;apply aC;refine bV fun _ _ Z=>?_;simp (disch:=omega);and_intros<;>(try omega);apply Z;apply aF;simp [aS];rw [List.take_of_length_le (by omega)] at hh; exact (Fj hh).symm
theorem zL (l : Ls) (c : ByteArray) (σ : List (List D)) (hl : l.length ≤ 9223372036854775807) : Ct Tryz.prog 77 [dl l, D.str c] σ (fun r σ' => r = .bool (zX c l) ∧ σ' = σ) := by
 refine zf (rs:=[.tmp 4]) Tryz.func77 Tryz.ntmps77 Tryz.results77 ?_;simp only [aQ];refine bV fun _ _ Z=>?_;simp;and_intros<;>(try omega);apply Z;refine bV fun _ _ Z=>?_;refine aB 2 fun _ Y=>?_;simp;and_intros<;>(try omega);apply Y;simp only [List.drop];refine aH fun _ Y=>?_;simp;refine dW (Ny _ _ _ hl) ?_;apply Y;simp;and_intros<;>(try omega);apply Z;apply aF;simp [aS, Lk]
theorem Qi (l : Ls) (c : ByteArray) (σ : List (List D)) (hl : l.length ≤ 9223372036854775807) : Ct Tryz.prog 50 [dl l, D.str c] σ (fun r σ' => r = .bool (zX c l) ∧ σ' = σ) := by
 refine zf (rs:=[.tmp 4]) Tryz.func50 Tryz.ntmps50 Tryz.results50 ?_;simp only [aQ];refine bV fun _ _ Z=>?_;simp;and_intros<;>(try omega);apply Z;refine bV fun _ _ Z=>?_;refine aB 2 fun _ Y=>?_;simp;and_intros<;>(try omega);apply Y;simp only [List.drop];refine aH fun _ Y=>?_;simp;refine dW (zL _ _ _ hl) ?_;apply Y;simp;and_intros<;>(try omega);apply Z;apply aF;simp[aS]
def rK (r : RC) (x y : Int) : Bool := decide (r.x ≤ x) && decide (x < iV r.x r.w) && decide (r.y ≤ y) && decide (y < iV r.y r.h)
theorem Jv (q : RC) (σ : List (List D))  : Ct Tryz.prog 100 [oS q] σ (fun r σ' => r = .int (iV q.x q.w) ∧ σ' = σ) := by
 refine zf (rs:=[.tmp 2]) Tryz.func100 Tryz.ntmps100 Tryz.results100 ?_;simp only [aQ];refine bV fun _ _ Z=>?_;simp;and_intros<;>(try omega);apply Z;refine bV fun _ _ Z=>?_;refine aB 4 fun _ Y=>?_;simp;and_intros<;>(try omega);apply Y;simp only [List.drop];refine aH fun _ Y=>?_;simp;refine dW (oK q.x q.w _) ?_;apply Y;simp;and_intros<;>(try omega);apply Z;apply aF;simp [aS]
theorem Ia (q : RC) (σ : List (List D))  : Ct Tryz.prog 101 [oS q] σ (fun r σ' => r = .int (iV q.y q.h) ∧ σ' = σ) := by
 refine zf (rs:=[.tmp 2]) Tryz.func101 Tryz.ntmps101 Tryz.results101 ?_;simp only [aQ];refine bV fun _ _ Z=>?_;simp;and_intros<;>(try omega);apply Z;refine bV fun _ _ Z=>?_;refine aB 4 fun _ Y=>?_;simp;and_intros<;>(try omega);apply Y;simp only [List.drop];refine aH fun _ Y=>?_;simp;refine dW (oK q.y q.h _) ?_;apply Y;simp;and_intros<;>(try omega);apply Z;apply aF;simp [aS]
theorem Dk (q : RC) (x y : Int) (σ : List (List D))  : Ct Tryz.prog 81 [oS q, D.int x, D.int y] σ (fun r σ' => r = .bool (rK q x y) ∧ σ' = σ) := by
 refine zf (rs:=[.tmp 6]) Tryz.func81 Tryz.ntmps81 Tryz.results81 ?_;simp only [aQ];refine bV fun _ _ Z=>?_;simp;and_intros<;>(try omega);apply Z;refine Du ⟨[],[],[],[],[]⟩ fun all hall _ Z=>?_;have ga4 : bA all 4 = some 11 := hall 4;have ga10 : bA all 10 = some 17 := hall 10;have ga16 : bA all 16 = some 23 := hall 16;refine aB 5 fun _ Y=>?_;simp[ga4,ga10,ga16];and_intros<;>(try omega);apply Y;simp only [List.drop];refine cJ 11 (by simp <;> rfl) ?_;refine ⟨fun g1 => ?_, fun g1 => ?_⟩
 ·try simp at g1
  refine aB 2 fun _ Y=>?_;simp[ga4,ga10,ga16];and_intros<;>(try omega);apply Y;simp only [List.drop];refine zg ga4 fun _ Y=>?_;simp[ga4,ga10,ga16];refine dW (Jv q _) ?_;apply Y;refine aB 3 fun _ Y=>?_;simp[ga4,ga10,ga16];and_intros<;>(try omega);apply Y;simp only [List.drop];refine cJ 17 (by simp <;> rfl) ?_;refine ⟨fun g2 => ?_, fun g2 => ?_⟩
  ·try simp at g2
   refine aB 6 fun _ Y=>?_;simp[ga4,ga10,ga16];and_intros<;>(try omega);apply Y;simp only [List.drop];refine cJ 23 (by simp <;> rfl) ?_;refine ⟨fun g3 => ?_, fun g3 => ?_⟩
   ·try simp at g3
    refine aB 2 fun _ Y=>?_;simp[ga4,ga10,ga16];and_intros<;>(try omega);apply Y;simp only [List.drop];refine zg ga16 fun _ Y=>?_;simp[ga4,ga10,ga16];refine dW (Ia q _) ?_;apply Y;simp[ga4,ga10,ga16];and_intros<;>(try omega);apply Z;apply aF;simp [aS, rK, *] <;> omega
   ·try simp at g3
    simp[ga4,ga10,ga16];and_intros<;>(try omega);apply Z;apply aF;simp [aS, rK, *] <;> omega
  ·try simp at g2
   refine aB 6 fun _ Y=>?_;simp[ga4,ga10,ga16];and_intros<;>(try omega);apply Y;simp only [List.drop];simp[ga4,ga10,ga16];and_intros<;>(try omega);apply Z;apply aF;simp [aS, rK, *] <;> omega
 ·try simp at g1
  refine aB 6 fun _ Y=>?_;simp[ga4,ga10,ga16];and_intros<;>(try omega);apply Y;simp only [List.drop];refine aB 6 fun _ Y=>?_;simp[ga4,ga10,ga16];and_intros<;>(try omega);apply Y;simp only [List.drop];simp[ga4,ga10,ga16];and_intros<;>(try omega);apply Z;apply aF;simp [aS, rK, *] <;> omega
theorem rN (t : TN) (c : ByteArray) (σ : List (List D)) (h : SO t) : Ct Tryz.prog 51 [gF t, D.str c] σ (fun r σ' => r = .int (gI t.styles c) ∧ σ' = σ) := by
 refine zf (rs:=[.tmp 4]) Tryz.func51 Tryz.ntmps51 Tryz.results51 ?_;simp only [aQ];have h1 := h.1;refine bV fun _ _ Z=>?_;simp;and_intros<;>(try omega);apply Z;refine bV fun _ _ Z=>?_;refine aB 3 fun _ Y=>?_;simp;and_intros<;>(try omega);apply Y;simp only [List.drop];refine aH fun _ Y=>?_;simp;refine dW (Ph t.styles c _ (by omega) h.2) ?_;apply Y;simp;and_intros<;>(try omega);apply Z;refine bV fun _ _ Z=>?_;simp;and_intros<;>(try omega);apply Z;apply aF;simp [aS]
end Go.Proofs.YtighdhfgcdjmeaaGreatDoor

