import Derived.Test.YtighdhfgcdjmeaaDoorWkS1
namespace Go.Proofs.YtighdhfgcdjmeaaDoor
open Go Go.Vm
set_option maxRecDepth 20000
set_option linter.all false
set_option maxHeartbeats 8000000
def wV (c : ByteArray) (l : Ls) : Bool := l.any fun x => decide (x = c)
theorem Gz (c x : ByteArray) (l : Ls) : wV c (l ++ [x]) = (wV c l || decide (x = c)) := by simp [wV]
theorem Ba {c : ByteArray} {l : Ls} {k : Nat} (h : k < l.length) (e : l[k] = c) : wV c l = true := by
 simp only [wV, List.any_eq_true, decide_eq_true_eq];exact ⟨l[k], List.getElem_mem h, e⟩
def Ag (c : ByteArray) (l : Ls) : Int := match l.findIdx? (fun x => decide (x = c)) with | some k => k | none => -1
theorem Ln {c : ByteArray} {l : Ls} {k : Nat} (h : k < l.length) (hh : wV c (l.take k) = false) (e : c = l[k]) : Ag c l = k := by
 have : l.findIdx? (fun x => decide (x = c)) = some k := by
  rw [List.findIdx?_eq_some_iff_getElem];refine ⟨h, by simp [e], fun j hj => ?_⟩;simp only [wV, List.any_eq_false, decide_eq_true_eq] at hh;have := hh ((l.take k)[j]'(by simp; omega)) (List.getElem_mem _);simpa using this
 simp [Ag, this]
theorem Dc {c : ByteArray} {l : Ls} (h : wV c l = false) : Ag c l = -1 := by
 have : l.findIdx? (fun x => decide (x = c)) = none := by
  rw [List.findIdx?_eq_none_iff];simpa [wV] using h
 simp [Ag, this]
theorem Kt (c : ByteArray) (l : Ls) : (0 ≤ Ag c l) ↔ wV c l = true := by
 unfold Ag;split
 ·rename_i k h;rw [List.findIdx?_eq_some_iff_getElem] at h;obtain ⟨hk, he, _⟩ := h;simp only [decide_eq_true_eq] at he;simp [Ba hk he]
 ·rename_i h;rw [List.findIdx?_eq_none_iff] at h;simp [wV];intro e; have := h c e; simp at this
theorem Jl (l : Ls) (c : ByteArray) (σ : List (List D)) (hl : l.length ≤ 9223372036854775807) : Ct Tryd.prog 79 [dl l, D.str c] σ (fun r σ' => r = .int (Ag c l) ∧ σ' = σ) := by
 refine zf (rs:=[.tmp 4]) Tryd.func79 Tryd.ntmps79 Tryd.results79 ?_;simp only [aU];refine cH fun _ _ Z=>?_;simp (disch:=omega);and_intros<;>(try omega);apply Z;apply aE;refine cH fun _ _ Z=>?_;simp (disch:=omega);and_intros<;>(try omega);apply Z;apply aN;refine zk [0,1,4,7,8] ?_;refine dA (fun (k : Nat) => [(8, .d (.int k))]) [4, 5, 8, 9, 10, 11, 12, 13, 14, 15, 16, 17, 18] (fun (k : Nat) => k ≤ l.length ∧ wV c (l.take k) = false) (fun (k : Nat) => l.length - k) (0) (by simp <;> rfl) ?_ ?_ ?_
 ·simp
 ·simp [wV]
 rintro k ⟨hk, hh⟩;simp only [List.cons_append, List.nil_append];refine cH fun _ _ Z=>?_;simp (disch:=omega);and_intros<;>(try omega);apply Z;apply aE;refine zi ?_;refine ⟨fun c1=>?_,fun c1=>?_⟩
 ·try simp at c1
  apply aJ;apply aD;apply aE;apply aN;refine cH fun _ _ Z=>?_;simp (disch:=omega);and_intros<;>(try omega);apply Z;refine cH fun _ _ Z=>?_;simp (disch:=omega);and_intros<;>(try omega);apply Z;refine zi ?_;refine ⟨fun c2=>?_,fun c2=>?_⟩
  ·try simp at c2
   refine zk [0,1,5,7,8] ?_;refine cH fun _ _ Z=>?_;simp (disch:=omega);and_intros<;>(try omega);apply Z;apply aH;apply tL;apply bJ;apply Hp;apply tL;apply bJ;simp [bB];exact (Ln c1 hh c2).symm
  ·try simp at c2
   apply aJ;apply aX;apply aD;refine zk [0,1,7,8] ?_;refine Nc fun _ _ Z=>?_;simp (disch:=omega);and_intros<;>(try omega);apply Z;refine bW (k + 1) ?_ ?_ (bK rfl ?_ (by simp) (by simp))
   ·exact ⟨by omega, by rw [dQ l k (by omega), Gz, hh]; simp; exact fun e => c2 e.symm⟩
   ·try dsimp only
    omega
   ·simp (disch:=omega)
 ·try simp at c1
  apply bM;apply bO;apply bP;apply bE;apply aD;refine cH fun _ _ Z=>?_;simp (disch:=omega);and_intros<;>(try omega);apply Z;apply aH;simp [bB];rw [List.take_of_length_le (by omega)] at hh; exact (Dc hh).symm
theorem xE (l : Ls) (c : ByteArray) (σ : List (List D)) (hl : l.length ≤ 9223372036854775807) : Ct Tryd.prog 60 [dl l, D.str c] σ (fun r σ' => r = .bool (wV c l) ∧ σ' = σ) := by
 refine zf (rs:=[.tmp 4]) Tryd.func60 Tryd.ntmps60 Tryd.results60 ?_;simp only [aU];refine cH fun _ _ Z=>?_;simp;and_intros<;>(try omega);apply Z;refine cH fun _ _ Z=>?_;refine aC 2 fun _ Y=>?_;simp;and_intros<;>(try omega);apply Y;simp only [List.drop];refine aI fun _ Y=>?_;simp;refine eV (Jl _ _ _ hl) ?_;apply Y;simp;and_intros<;>(try omega);apply Z;apply aH;simp [bB, Kt]
theorem Ly (l : Ls) (c : ByteArray) (σ : List (List D)) (hl : l.length ≤ 9223372036854775807) : Ct Tryd.prog 40 [dl l, D.str c] σ (fun r σ' => r = .bool (wV c l) ∧ σ' = σ) := by
 refine zf (rs:=[.tmp 4]) Tryd.func40 Tryd.ntmps40 Tryd.results40 ?_;simp only [aU];refine cH fun _ _ Z=>?_;simp;and_intros<;>(try omega);apply Z;refine cH fun _ _ Z=>?_;refine aC 2 fun _ Y=>?_;simp;and_intros<;>(try omega);apply Y;simp only [List.drop];refine aI fun _ Y=>?_;simp;refine eV (xE _ _ _ hl) ?_;apply Y;simp;and_intros<;>(try omega);apply Z;apply aH;simp[bB]
def qA (r : RC) (x y : Int) : Bool := decide (r.x ≤ x) && decide (x < nT r.x r.w) && decide (r.y ≤ y) && decide (y < nT r.y r.h)
theorem Ja (q : RC) (σ : List (List D))  : Ct Tryd.prog 81 [Cw q] σ (fun r σ' => r = .int (nT q.x q.w) ∧ σ' = σ) := by
 refine zf (rs:=[.tmp 2]) Tryd.func81 Tryd.ntmps81 Tryd.results81 ?_;simp only [aU];refine cH fun _ _ Z=>?_;simp;and_intros<;>(try omega);apply Z;refine cH fun _ _ Z=>?_;refine aC 4 fun _ Y=>?_;simp;and_intros<;>(try omega);apply Y;simp only [List.drop];refine aI fun _ Y=>?_;simp;refine eV (vW q.x q.w _) ?_;apply Y;simp;and_intros<;>(try omega);apply Z;apply aH;simp [bB]
theorem Gc (q : RC) (σ : List (List D))  : Ct Tryd.prog 82 [Cw q] σ (fun r σ' => r = .int (nT q.y q.h) ∧ σ' = σ) := by
 refine zf (rs:=[.tmp 2]) Tryd.func82 Tryd.ntmps82 Tryd.results82 ?_;simp only [aU];refine cH fun _ _ Z=>?_;simp;and_intros<;>(try omega);apply Z;refine cH fun _ _ Z=>?_;refine aC 4 fun _ Y=>?_;simp;and_intros<;>(try omega);apply Y;simp only [List.drop];refine aI fun _ Y=>?_;simp;refine eV (vW q.y q.h _) ?_;apply Y;simp;and_intros<;>(try omega);apply Z;apply aH;simp [bB]
theorem Bm (q : RC) (x y : Int) (σ : List (List D))  : Ct Tryd.prog 64 [Cw q, D.int x, D.int y] σ (fun r σ' => r = .bool (qA q x y) ∧ σ' = σ) := by
 refine zf (rs:=[.tmp 6]) Tryd.func64 Tryd.ntmps64 Tryd.results64 ?_;simp only [aU];refine cH fun _ _ Z=>?_;simp;and_intros<;>(try omega);apply Z;refine Cu ⟨[],[],[],[],[]⟩ fun all hall _ Z=>?_;have ga4 : aY all 4 = some 11 := hall 4;have ga10 : aY all 10 = some 17 := hall 10;have ga16 : aY all 16 = some 23 := hall 16;refine aC 5 fun _ Y=>?_;simp[ga4,ga10,ga16];and_intros<;>(try omega);apply Y;simp only [List.drop];refine cC 11 (by simp <;> rfl) ?_;refine ⟨fun g1 => ?_, fun g1 => ?_⟩
 ·try simp at g1
  refine aC 2 fun _ Y=>?_;simp[ga4,ga10,ga16];and_intros<;>(try omega);apply Y;simp only [List.drop];refine zg ga4 fun _ Y=>?_;simp[ga4,ga10,ga16];refine eV (Ja q _) ?_;apply Y;refine aC 3 fun _ Y=>?_;simp[ga4,ga10,ga16];and_intros<;>(try omega);apply Y;simp only [List.drop];refine cC 17 (by simp <;> rfl) ?_;refine ⟨fun g2 => ?_, fun g2 => ?_⟩
  ·try simp at g2
   refine aC 6 fun _ Y=>?_;simp[ga4,ga10,ga16];and_intros<;>(try omega);apply Y;simp only [List.drop];refine cC 23 (by simp <;> rfl) ?_;refine ⟨fun g3 => ?_, fun g3 => ?_⟩
   ·try simp at g3
    refine aC 2 fun _ Y=>?_;simp[ga4,ga10,ga16];and_intros<;>(try omega);apply Y;simp only [List.drop];refine zg ga16 fun _ Y=>?_;simp[ga4,ga10,ga16];refine eV (Gc q _) ?_;apply Y;simp[ga4,ga10,ga16];and_intros<;>(try omega);apply Z;apply aH;simp [bB, qA, *] <;> omega
   ·try simp at g3
    simp[ga4,ga10,ga16];and_intros<;>(try omega);apply Z;apply aH;simp [bB, qA, *] <;> omega
  ·try simp at g2
   refine aC 6 fun _ Y=>?_;simp[ga4,ga10,ga16];and_intros<;>(try omega);apply Y;simp only [List.drop];simp[ga4,ga10,ga16];and_intros<;>(try omega);apply Z;apply aH;simp [bB, qA, *] <;> omega
 ·try simp at g1
  refine aC 6 fun _ Y=>?_;simp[ga4,ga10,ga16];and_intros<;>(try omega);apply Y;simp only [List.drop];refine aC 6 fun _ Y=>?_;simp[ga4,ga10,ga16];and_intros<;>(try omega);apply Y;simp only [List.drop];simp[ga4,ga10,ga16];and_intros<;>(try omega);apply Z;apply aH;simp [bB, qA, *] <;> omega
theorem Bo (t : TN) (c : ByteArray) (σ : List (List D)) (h : SO t) : Ct Tryd.prog 42 [oO t, D.str c] σ (fun r σ' => r = .int (mO t.styles c) ∧ σ' = σ) := by
 refine zf (rs:=[.tmp 4]) Tryd.func42 Tryd.ntmps42 Tryd.results42 ?_;simp only [aU];have h1 := h.1;refine cH fun _ _ Z=>?_;simp;and_intros<;>(try omega);apply Z;refine cH fun _ _ Z=>?_;refine aC 3 fun _ Y=>?_;simp;and_intros<;>(try omega);apply Y;simp only [List.drop];refine aI fun _ Y=>?_;simp;refine eV (Mq t.styles c _ (by omega) h.2) ?_;apply Y;simp;and_intros<;>(try omega);apply Z;refine cH fun _ _ Z=>?_;simp;and_intros<;>(try omega);apply Z;apply aH;simp [bB]
end Go.Proofs.YtighdhfgcdjmeaaDoor

