import Derived.Test.YtighdhfgcdjmeaaGreatDoorWkL21
namespace Go.Proofs.YtighdhfgcdjmeaaGreatDoor
open Go Go.Vm
set_option maxRecDepth 20000
set_option linter.all false
set_option maxHeartbeats 8000000
def iP (s : ByteArray) (k : Nat) : Nat := (s.data[k]?.getD 0).toNat
def uP : Nat → ByteArray → ByteArray
 | 0, s => s
 | n + 1, s => if 0 < s.size ∧ iP s (s.size - 1) = 32 then uP n (s.extract 0 (s.size - 1)) else s
def tA (s : ByteArray) : ByteArray := uP s.size s
def lJ (l : List ByteArray) : ByteArray := l.foldl (fun a s => a ++ (tA s ++ ⟨#[10]⟩)) ⟨#[]⟩
theorem sE (l : List ByteArray) (k : Nat) (h : k < l.length) : lJ (l.take (k + 1)) = lJ (l.take k) ++ (tA l[k] ++ ⟨#[10]⟩) := by
 unfold lJ; rw [cG l k h, List.foldl_append]; rfl
theorem nC : ∀ (n : Nat) (s : ByteArray), (uP n s).size ≤ s.size
 | 0, s => Nat.le_refl _
 | n + 1, s => by
  simp only [uP];split
  ·exact Nat.le_trans (nC n _) (by simp)
  ·exact Nat.le_refl _
theorem tU : ∀ (l : List ByteArray) (k : Nat), (∀ s ∈ l, s.size ≤ 1000) → k ≤ l.length → (lJ (l.take k)).size ≤ k * 1001
 | l, 0, _, _ => by rw [List.take_zero]; exact Nat.le_refl _
 | l, k + 1, h, hk => by
  have ih := tU l k h (by omega);have h1 := nC (l[k]'(by omega)).size (l[k]'(by omega));have h2 := h (l[k]'(by omega)) (List.getElem_mem _);have h3 : (⟨#[10]⟩ : ByteArray).size = 1 := rfl;rw [sE l k (by omega)];simp only [ByteArray.size_append, h3];unfold tA;omega
end Go.Proofs.YtighdhfgcdjmeaaGreatDoor
namespace Go.Proofs.YtighdhfgcdjmeaaGreatDoor
open Go Go.Vm
set_option maxRecDepth 20000
set_option linter.all false
set_option maxHeartbeats 8000000
def rC (c : ByteArray) (l : Ls) : Bool := l.any fun x => decide (x = c)
theorem xW (c x : ByteArray) (l : Ls) : rC c (l ++ [x]) = (rC c l || decide (x = c)) := by simp [rC]
theorem sG {c : ByteArray} {l : Ls} {k : Nat} (h : k < l.length) (e : l[k] = c) : rC c l = true := by
 simp only [rC, List.any_eq_true, decide_eq_true_eq];exact ⟨l[k], List.getElem_mem h, e⟩
def Aq (c : ByteArray) (l : Ls) : Int := match l.findIdx? (fun x => decide (x = c)) with | some k => k | none => -1
theorem Pc {c : ByteArray} {l : Ls} {k : Nat} (h : k < l.length) (hh : rC c (l.take k) = false) (e : c = l[k]) : Aq c l = k := by
 have : l.findIdx? (fun x => decide (x = c)) = some k := by
  rw [List.findIdx?_eq_some_iff_getElem];refine ⟨h, by simp [e], fun j hj => ?_⟩;simp only [rC, List.any_eq_false, decide_eq_true_eq] at hh;have := hh ((l.take k)[j]'(by simp; omega)) (List.getElem_mem _);simpa using this
 simp [Aq, this]
theorem Fj {c : ByteArray} {l : Ls} (h : rC c l = false) : Aq c l = -1 := by
 have : l.findIdx? (fun x => decide (x = c)) = none := by
  rw [List.findIdx?_eq_none_iff];simpa [rC] using h
 simp [Aq, this]
theorem Lh (c : ByteArray) (l : Ls) : (0 ≤ Aq c l) ↔ rC c l = true := by
 unfold Aq;split
 ·rename_i k h;rw [List.findIdx?_eq_some_iff_getElem] at h;obtain ⟨hk, he, _⟩ := h;simp only [decide_eq_true_eq] at he;simp [sG hk he]
 ·rename_i h;rw [List.findIdx?_eq_none_iff] at h;simp [rC];intro e; have := h c e; simp at this
theorem Mp (l : Ls) (c : ByteArray) (σ : List (List D)) (hl : l.length ≤ 9223372036854775807) : Ct Tryz.prog 98 [dl l, D.str c] σ (fun r σ' => r = .int (Aq c l) ∧ σ' = σ) := by
 refine zf (rs:=[.tmp 4]) Tryz.func98 Tryz.ntmps98 Tryz.results98 ?_;simp only [aU];refine bP fun _ _ Z=>?_;simp (disch:=omega);and_intros<;>(try omega);apply Z;apply aE;refine bP fun _ _ Z=>?_;simp (disch:=omega);and_intros<;>(try omega);apply Z;apply aH;refine zk [0,1,4,7,8] ?_;refine cR (fun (k : Nat) => [(8, .d (.int k))]) [4, 5, 8, 9, 10, 11, 12, 13, 14, 15, 16, 17, 18] (fun (k : Nat) => k ≤ l.length ∧ rC c (l.take k) = false) (fun (k : Nat) => l.length - k) (0) (by simp <;> rfl) ?_ ?_ ?_
 ·simp
 ·simp [rC]
 rintro k ⟨hk, hh⟩;simp only [List.cons_append, List.nil_append];refine bP fun _ _ Z=>?_;simp (disch:=omega);and_intros<;>(try omega);apply Z;apply aE;refine zi ?_;refine ⟨fun c1=>?_,fun c1=>?_⟩
 ·try simp at c1
  apply aF;apply aB;apply aE;apply aH;refine bP fun _ _ Z=>?_;simp (disch:=omega);and_intros<;>(try omega);apply Z;refine bP fun _ _ Z=>?_;simp (disch:=omega);and_intros<;>(try omega);apply Z;refine zi ?_;refine ⟨fun c2=>?_,fun c2=>?_⟩
  ·try simp at c2
   refine zk [0,1,5,7,8] ?_;refine bP fun _ _ Z=>?_;simp (disch:=omega);and_intros<;>(try omega);apply Z;apply aG;apply eK;apply bG;apply lN;apply eK;apply bG;simp [aQ];exact (Pc c1 hh c2).symm
  ·try simp at c2
   apply aF;apply aN;apply aB;refine zk [0,1,7,8] ?_;refine mW fun _ _ Z=>?_;simp (disch:=omega);and_intros<;>(try omega);apply Z;refine bL (k + 1) ?_ ?_ (aW rfl ?_ (by simp) (by simp))
   ·exact ⟨by omega, by rw [cG l k (by omega), xW, hh]; simp; exact fun e => c2 e.symm⟩
   ·try dsimp only
    omega
   ·simp (disch:=omega)
 ·try simp at c1
  apply bB;apply bC;apply bA;apply aS;apply aB;refine bP fun _ _ Z=>?_;simp (disch:=omega);and_intros<;>(try omega);apply Z;apply aG;simp [aQ];rw [List.take_of_length_le (by omega)] at hh; exact (Fj hh).symm
theorem zJ (l : Ls) (c : ByteArray) (σ : List (List D)) (hl : l.length ≤ 9223372036854775807) : Ct Tryz.prog 77 [dl l, D.str c] σ (fun r σ' => r = .bool (rC c l) ∧ σ' = σ) := by
 refine zf (rs:=[.tmp 4]) Tryz.func77 Tryz.ntmps77 Tryz.results77 ?_;simp only [aU];refine bP fun _ _ Z=>?_;simp;and_intros<;>(try omega);apply Z;refine bP fun _ _ Z=>?_;refine aA 2 fun _ Y=>?_;simp;and_intros<;>(try omega);apply Y;simp only [List.drop];refine aI fun _ Y=>?_;simp;refine dO (Mp _ _ _ hl) ?_;apply Y;simp;and_intros<;>(try omega);apply Z;apply aG;simp [aQ, Lh]
theorem On (l : Ls) (c : ByteArray) (σ : List (List D)) (hl : l.length ≤ 9223372036854775807) : Ct Tryz.prog 50 [dl l, D.str c] σ (fun r σ' => r = .bool (rC c l) ∧ σ' = σ) := by
 refine zf (rs:=[.tmp 4]) Tryz.func50 Tryz.ntmps50 Tryz.results50 ?_;simp only [aU];refine bP fun _ _ Z=>?_;simp;and_intros<;>(try omega);apply Z;refine bP fun _ _ Z=>?_;refine aA 2 fun _ Y=>?_;simp;and_intros<;>(try omega);apply Y;simp only [List.drop];refine aI fun _ Y=>?_;simp;refine dO (zJ _ _ _ hl) ?_;apply Y;simp;and_intros<;>(try omega);apply Z;apply aG;simp[aQ]
def inR (r : RC) (x y : Int) : Bool := decide (r.x ≤ x) && decide (x < kZ r.x r.w) && decide (r.y ≤ y) && decide (y < kZ r.y r.h)
theorem Lw (q : RC) (σ : List (List D))  : Ct Tryz.prog 100 [xS q] σ (fun r σ' => r = .int (kZ q.x q.w) ∧ σ' = σ) := by
 refine zf (rs:=[.tmp 2]) Tryz.func100 Tryz.ntmps100 Tryz.results100 ?_;simp only [aU];refine bP fun _ _ Z=>?_;simp;and_intros<;>(try omega);apply Z;refine bP fun _ _ Z=>?_;refine aA 4 fun _ Y=>?_;simp;and_intros<;>(try omega);apply Y;simp only [List.drop];refine aI fun _ Y=>?_;simp;refine dO (xT q.x q.w _) ?_;apply Y;simp;and_intros<;>(try omega);apply Z;apply aG;simp [aQ]
theorem Fw (q : RC) (σ : List (List D))  : Ct Tryz.prog 101 [xS q] σ (fun r σ' => r = .int (kZ q.y q.h) ∧ σ' = σ) := by
 refine zf (rs:=[.tmp 2]) Tryz.func101 Tryz.ntmps101 Tryz.results101 ?_;simp only [aU];refine bP fun _ _ Z=>?_;simp;and_intros<;>(try omega);apply Z;refine bP fun _ _ Z=>?_;refine aA 4 fun _ Y=>?_;simp;and_intros<;>(try omega);apply Y;simp only [List.drop];refine aI fun _ Y=>?_;simp;refine dO (xT q.y q.h _) ?_;apply Y;simp;and_intros<;>(try omega);apply Z;apply aG;simp [aQ]
theorem Cd (q : RC) (x y : Int) (σ : List (List D))  : Ct Tryz.prog 81 [xS q, D.int x, D.int y] σ (fun r σ' => r = .bool (inR q x y) ∧ σ' = σ) := by
 refine zf (rs:=[.tmp 6]) Tryz.func81 Tryz.ntmps81 Tryz.results81 ?_;simp only [aU];refine bP fun _ _ Z=>?_;simp;and_intros<;>(try omega);apply Z;refine oA ⟨[],[],[],[],[]⟩ fun all hall _ Z=>?_;have ga4 : aL all 4 = some 11 := hall 4;have ga10 : aL all 10 = some 17 := hall 10;have ga16 : aL all 16 = some 23 := hall 16;refine aA 5 fun _ Y=>?_;simp[ga4,ga10,ga16];and_intros<;>(try omega);apply Y;simp only [List.drop];refine aX 11 (by simp <;> rfl) ?_;refine ⟨fun g1 => ?_, fun g1 => ?_⟩
 ·try simp at g1
  refine aA 2 fun _ Y=>?_;simp[ga4,ga10,ga16];and_intros<;>(try omega);apply Y;simp only [List.drop];refine zg ga4 fun _ Y=>?_;simp[ga4,ga10,ga16];refine dO (Lw q _) ?_;apply Y;refine aA 3 fun _ Y=>?_;simp[ga4,ga10,ga16];and_intros<;>(try omega);apply Y;simp only [List.drop];refine aX 17 (by simp <;> rfl) ?_;refine ⟨fun g2 => ?_, fun g2 => ?_⟩
  ·try simp at g2
   refine aA 6 fun _ Y=>?_;simp[ga4,ga10,ga16];and_intros<;>(try omega);apply Y;simp only [List.drop];refine aX 23 (by simp <;> rfl) ?_;refine ⟨fun g3 => ?_, fun g3 => ?_⟩
   ·try simp at g3
    refine aA 2 fun _ Y=>?_;simp[ga4,ga10,ga16];and_intros<;>(try omega);apply Y;simp only [List.drop];refine zg ga16 fun _ Y=>?_;simp[ga4,ga10,ga16];refine dO (Fw q _) ?_;apply Y;simp[ga4,ga10,ga16];and_intros<;>(try omega);apply Z;apply aG;simp [aQ, inR, *] <;> omega
   ·try simp at g3
    simp[ga4,ga10,ga16];and_intros<;>(try omega);apply Z;apply aG;simp [aQ, inR, *] <;> omega
  ·try simp at g2
   refine aA 6 fun _ Y=>?_;simp[ga4,ga10,ga16];and_intros<;>(try omega);apply Y;simp only [List.drop];simp[ga4,ga10,ga16];and_intros<;>(try omega);apply Z;apply aG;simp [aQ, inR, *] <;> omega
 ·try simp at g1
  refine aA 6 fun _ Y=>?_;simp[ga4,ga10,ga16];and_intros<;>(try omega);apply Y;simp only [List.drop];refine aA 6 fun _ Y=>?_;simp[ga4,ga10,ga16];and_intros<;>(try omega);apply Y;simp only [List.drop];simp[ga4,ga10,ga16];and_intros<;>(try omega);apply Z;apply aG;simp [aQ, inR, *] <;> omega
theorem Ea (t : TN) (c : ByteArray) (σ : List (List D)) (h : SO t) : Ct Tryz.prog 51 [iT t, D.str c] σ (fun r σ' => r = .int (lK t.styles c) ∧ σ' = σ) := by
 refine zf (rs:=[.tmp 4]) Tryz.func51 Tryz.ntmps51 Tryz.results51 ?_;simp only [aU];have h1 := h.1;refine bP fun _ _ Z=>?_;simp;and_intros<;>(try omega);apply Z;refine bP fun _ _ Z=>?_;refine aA 3 fun _ Y=>?_;simp;and_intros<;>(try omega);apply Y;simp only [List.drop];refine aI fun _ Y=>?_;simp;refine dO (Og t.styles c _ (by omega) h.2) ?_;apply Y;simp;and_intros<;>(try omega);apply Z;refine bP fun _ _ Z=>?_;simp;and_intros<;>(try omega);apply Z;apply aG;simp [aQ]
end Go.Proofs.YtighdhfgcdjmeaaGreatDoor

