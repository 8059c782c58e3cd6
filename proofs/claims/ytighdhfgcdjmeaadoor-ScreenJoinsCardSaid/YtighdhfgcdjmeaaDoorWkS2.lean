import Derived.Test.YtighdhfgcdjmeaaDoorWkS1
namespace Go.Proofs.YtighdhfgcdjmeaaDoor
open Go Go.Vm
set_option maxRecDepth 20000
set_option linter.all false
set_option maxHeartbeats 8000000
def xK (c : ByteArray) (l : Ls) : Bool := l.any fun x => decide (x = c)
theorem Ii (c x : ByteArray) (l : Ls) : xK c (l ++ [x]) = (xK c l || decide (x = c)) := by simp [xK]
theorem yU {c : ByteArray} {l : Ls} {k : Nat} (h : k < l.length) (e : l[k] = c) : xK c l = true := by
 simp only [xK, List.any_eq_true, decide_eq_true_eq];exact ⟨l[k], List.getElem_mem h, e⟩
def zE (c : ByteArray) (l : Ls) : Int := match l.findIdx? (fun x => decide (x = c)) with | some k => k | none => -1
theorem Jt {c : ByteArray} {l : Ls} {k : Nat} (h : k < l.length) (hh : xK c (l.take k) = false) (e : c = l[k]) : zE c l = k := by
 have : l.findIdx? (fun x => decide (x = c)) = some k := by
  rw [List.findIdx?_eq_some_iff_getElem];refine ⟨h, by simp [e], fun j hj => ?_⟩;simp only [xK, List.any_eq_false, decide_eq_true_eq] at hh;have := hh ((l.take k)[j]'(by simp; omega)) (List.getElem_mem _);simpa using this
 simp [zE, this]
theorem Bp {c : ByteArray} {l : Ls} (h : xK c l = false) : zE c l = -1 := by
 have : l.findIdx? (fun x => decide (x = c)) = none := by
  rw [List.findIdx?_eq_none_iff];simpa [xK] using h
 simp [zE, this]
theorem Ew (c : ByteArray) (l : Ls) : (0 ≤ zE c l) ↔ xK c l = true := by
 unfold zE;split
 ·rename_i k h;rw [List.findIdx?_eq_some_iff_getElem] at h;obtain ⟨hk, he, _⟩ := h;simp only [decide_eq_true_eq] at he;simp [yU hk he]
 ·rename_i h;rw [List.findIdx?_eq_none_iff] at h;simp [xK];intro e; have := h c e; simp at this
theorem Ep (l : Ls) (c : ByteArray) (σ : List (List D)) (hl : l.length ≤ 9223372036854775807) : Ct Tryd.prog 79 [dl l, D.str c] σ (fun r σ' => r = .int (zE c l) ∧ σ' = σ) := by
 refine zf (rs:=[.tmp 4]) Tryd.func79 Tryd.ntmps79 Tryd.results79 ?_;simp only [aX];refine cN fun _ _ Z=>?_;simp (disch:=omega);and_intros<;>(try omega);apply Z;apply aG;refine cN fun _ _ Z=>?_;simp (disch:=omega);and_intros<;>(try omega);apply Z;apply aU;refine zk [0,1,4,7,8] ?_;refine eS (fun (k : Nat) => [(8, .d (.int k))]) [4, 5, 8, 9, 10, 11, 12, 13, 14, 15, 16, 17, 18] (fun (k : Nat) => k ≤ l.length ∧ xK c (l.take k) = false) (fun (k : Nat) => l.length - k) (0) (by simp <;> rfl) ?_ ?_ ?_
 ·simp
 ·simp [xK]
 rintro k ⟨hk, hh⟩;simp only [List.cons_append, List.nil_append];refine cN fun _ _ Z=>?_;simp (disch:=omega);and_intros<;>(try omega);apply Z;apply aG;refine zi ?_;refine ⟨fun c1=>?_,fun c1=>?_⟩
 ·try simp at c1
  apply aM;apply aC;apply aG;apply aU;refine cN fun _ _ Z=>?_;simp (disch:=omega);and_intros<;>(try omega);apply Z;refine cN fun _ _ Z=>?_;simp (disch:=omega);and_intros<;>(try omega);apply Z;refine zi ?_;refine ⟨fun c2=>?_,fun c2=>?_⟩
  ·try simp at c2
   refine zk [0,1,5,7,8] ?_;refine cN fun _ _ Z=>?_;simp (disch:=omega);and_intros<;>(try omega);apply Z;apply aI;apply sI;apply bP;apply Gy;apply sI;apply bP;simp [bE];exact (Jt c1 hh c2).symm
  ·try simp at c2
   apply aM;apply bB;apply aC;refine zk [0,1,7,8] ?_;refine Hb fun _ _ Z=>?_;simp (disch:=omega);and_intros<;>(try omega);apply Z;refine cM (k + 1) ?_ ?_ (bV rfl ?_ (by simp) (by simp))
   ·exact ⟨by omega, by rw [fT l k (by omega), Ii, hh]; simp; exact fun e => c2 e.symm⟩
   ·try dsimp only
    omega
   ·simp (disch:=omega)
 ·try simp at c1
  apply cL;apply cI;apply cK;apply bW;apply aC;refine cN fun _ _ Z=>?_;simp (disch:=omega);and_intros<;>(try omega);apply Z;apply aI;simp [bE];rw [List.take_of_length_le (by omega)] at hh; exact (Bp hh).symm
theorem vC (l : Ls) (c : ByteArray) (σ : List (List D)) (hl : l.length ≤ 9223372036854775807) : Ct Tryd.prog 60 [dl l, D.str c] σ (fun r σ' => r = .bool (xK c l) ∧ σ' = σ) := by
 refine zf (rs:=[.tmp 4]) Tryd.func60 Tryd.ntmps60 Tryd.results60 ?_;simp only [aX];refine cN fun _ _ Z=>?_;simp;and_intros<;>(try omega);apply Z;refine cN fun _ _ Z=>?_;refine aA 2 fun _ Y=>?_;simp;and_intros<;>(try omega);apply Y;simp only [List.drop];refine aK fun _ Y=>?_;simp;refine fN (Ep _ _ _ hl) ?_;apply Y;simp;and_intros<;>(try omega);apply Z;apply aI;simp [bE, Ew]
theorem Jf (l : Ls) (c : ByteArray) (σ : List (List D)) (hl : l.length ≤ 9223372036854775807) : Ct Tryd.prog 40 [dl l, D.str c] σ (fun r σ' => r = .bool (xK c l) ∧ σ' = σ) := by
 refine zf (rs:=[.tmp 4]) Tryd.func40 Tryd.ntmps40 Tryd.results40 ?_;simp only [aX];refine cN fun _ _ Z=>?_;simp;and_intros<;>(try omega);apply Z;refine cN fun _ _ Z=>?_;refine aA 2 fun _ Y=>?_;simp;and_intros<;>(try omega);apply Y;simp only [List.drop];refine aK fun _ Y=>?_;simp;refine fN (vC _ _ _ hl) ?_;apply Y;simp;and_intros<;>(try omega);apply Z;apply aI;simp[bE]
def oY (r : RC) (x y : Int) : Bool := decide (r.x ≤ x) && decide (x < nI r.x r.w) && decide (r.y ≤ y) && decide (y < nI r.y r.h)
theorem Et (q : RC) (σ : List (List D))  : Ct Tryd.prog 81 [Cs q] σ (fun r σ' => r = .int (nI q.x q.w) ∧ σ' = σ) := by
 refine zf (rs:=[.tmp 2]) Tryd.func81 Tryd.ntmps81 Tryd.results81 ?_;simp only [aX];refine cN fun _ _ Z=>?_;simp;and_intros<;>(try omega);apply Z;refine cN fun _ _ Z=>?_;refine aA 4 fun _ Y=>?_;simp;and_intros<;>(try omega);apply Y;simp only [List.drop];refine aK fun _ Y=>?_;simp;refine fN (tD q.x q.w _) ?_;apply Y;simp;and_intros<;>(try omega);apply Z;apply aI;simp [bE]
theorem Co (q : RC) (σ : List (List D))  : Ct Tryd.prog 82 [Cs q] σ (fun r σ' => r = .int (nI q.y q.h) ∧ σ' = σ) := by
 refine zf (rs:=[.tmp 2]) Tryd.func82 Tryd.ntmps82 Tryd.results82 ?_;simp only [aX];refine cN fun _ _ Z=>?_;simp;and_intros<;>(try omega);apply Z;refine cN fun _ _ Z=>?_;refine aA 4 fun _ Y=>?_;simp;and_intros<;>(try omega);apply Y;simp only [List.drop];refine aK fun _ Y=>?_;simp;refine fN (tD q.y q.h _) ?_;apply Y;simp;and_intros<;>(try omega);apply Z;apply aI;simp [bE]
theorem zI (q : RC) (x y : Int) (σ : List (List D))  : Ct Tryd.prog 64 [Cs q, D.int x, D.int y] σ (fun r σ' => r = .bool (oY q x y) ∧ σ' = σ) := by
 refine zf (rs:=[.tmp 6]) Tryd.func64 Tryd.ntmps64 Tryd.results64 ?_;simp only [aX];refine cN fun _ _ Z=>?_;simp;and_intros<;>(try omega);apply Z;refine Iz ⟨[],[],[],[],[]⟩ fun all hall _ Z=>?_;have ga4 : aT all 4 = some 11 := hall 4;have ga10 : aT all 10 = some 17 := hall 10;have ga16 : aT all 16 = some 23 := hall 16;refine aA 5 fun _ Y=>?_;simp[ga4,ga10,ga16];and_intros<;>(try omega);apply Y;simp only [List.drop];refine cF 11 (by simp <;> rfl) ?_;refine ⟨fun g1 => ?_, fun g1 => ?_⟩
 ·try simp at g1
  refine aA 2 fun _ Y=>?_;simp[ga4,ga10,ga16];and_intros<;>(try omega);apply Y;simp only [List.drop];refine zg ga4 fun _ Y=>?_;simp[ga4,ga10,ga16];refine fN (Et q _) ?_;apply Y;refine aA 3 fun _ Y=>?_;simp[ga4,ga10,ga16];and_intros<;>(try omega);apply Y;simp only [List.drop];refine cF 17 (by simp <;> rfl) ?_;refine ⟨fun g2 => ?_, fun g2 => ?_⟩
  ·try simp at g2
   refine aA 6 fun _ Y=>?_;simp[ga4,ga10,ga16];and_intros<;>(try omega);apply Y;simp only [List.drop];refine cF 23 (by simp <;> rfl) ?_;refine ⟨fun g3 => ?_, fun g3 => ?_⟩
   ·try simp at g3
    refine aA 2 fun _ Y=>?_;simp[ga4,ga10,ga16];and_intros<;>(try omega);apply Y;simp only [List.drop];refine zg ga16 fun _ Y=>?_;simp[ga4,ga10,ga16];refine fN (Co q _) ?_;apply Y;simp[ga4,ga10,ga16];and_intros<;>(try omega);apply Z;apply aI;simp [bE, oY, *] <;> omega
   ·try simp at g3
    simp[ga4,ga10,ga16];and_intros<;>(try omega);apply Z;apply aI;simp [bE, oY, *] <;> omega
  ·try simp at g2
   refine aA 6 fun _ Y=>?_;simp[ga4,ga10,ga16];and_intros<;>(try omega);apply Y;simp only [List.drop];simp[ga4,ga10,ga16];and_intros<;>(try omega);apply Z;apply aI;simp [bE, oY, *] <;> omega
 ·try simp at g1
  refine aA 6 fun _ Y=>?_;simp[ga4,ga10,ga16];and_intros<;>(try omega);apply Y;simp only [List.drop];refine aA 6 fun _ Y=>?_;simp[ga4,ga10,ga16];and_intros<;>(try omega);apply Y;simp only [List.drop];simp[ga4,ga10,ga16];and_intros<;>(try omega);apply Z;apply aI;simp [bE, oY, *] <;> omega
theorem As (t : TN) (c : ByteArray) (σ : List (List D)) (h : SO t) : Ct Tryd.prog 42 [uQ t, D.str c] σ (fun r σ' => r = .int (mF t.styles c) ∧ σ' = σ) := by
 refine zf (rs:=[.tmp 4]) Tryd.func42 Tryd.ntmps42 Tryd.results42 ?_;simp only [aX];have h1 := h.1;refine cN fun _ _ Z=>?_;simp;and_intros<;>(try omega);apply Z;refine cN fun _ _ Z=>?_;refine aA 3 fun _ Y=>?_;simp;and_intros<;>(try omega);apply Y;simp only [List.drop];refine aK fun _ Y=>?_;simp;refine fN (Jh t.styles c _ (by omega) h.2) ?_;apply Y;simp;and_intros<;>(try omega);apply Z;refine cN fun _ _ Z=>?_;simp;and_intros<;>(try omega);apply Z;apply aI;simp [bE]
end Go.Proofs.YtighdhfgcdjmeaaDoor

