import Derived.Test.YtpfmpeaekgdgnaaGreatWkAr1
import Derived.Test.YtpfmpeaekgdgnaaGreatVmX6
namespace Go.Proofs.YtpfmpeaekgdgnaaGreat
open Go Go.Vm
set_option maxRecDepth 20000
set_option linter.all false
set_option maxHeartbeats 8000000
abbrev Ls := List ByteArray
@[simp] abbrev dl (l : Ls) : D := .sl false (l.map D.str)
@[simp] abbrev dlo (l : Ls) : D := .sl true (l.map D.str)
def qB (c : ByteArray) (l : Ls) : Bool := l.any fun x => decide (x = c)
theorem Cg (c x : ByteArray) (l : Ls) : qB c (l ++ [x]) = (qB c l || decide (x = c)) := by simp [qB]
theorem vN {c : ByteArray} {l : Ls} {k : Nat} (h : k < l.length) (e : l[k] = c) : qB c l = true := by
 simp only [qB, List.any_eq_true, decide_eq_true_eq];exact ⟨l[k], List.getElem_mem h, e⟩
def Mu (l : Ls) (c : ByteArray) : Ls := if qB c l then l else l ++ [c]
def Fu (c : ByteArray) (l : Ls) : Int := match l.findIdx? (fun x => decide (x = c)) with | some k => k | none => -1
theorem Xn {c : ByteArray} {l : Ls} {k : Nat} (h : k < l.length) (hh : qB c (l.take k) = false) (e : c = l[k]) : Fu c l = k := by
 have : l.findIdx? (fun x => decide (x = c)) = some k := by
  rw [List.findIdx?_eq_some_iff_getElem];refine ⟨h, by simp [e], fun j hj => ?_⟩;simp only [qB, List.any_eq_false, decide_eq_true_eq] at hh;have := hh ((l.take k)[j]'(by simp; omega)) (List.getElem_mem _);simpa using this
 simp [Fu, this]
theorem Kc {c : ByteArray} {l : Ls} (h : qB c l = false) : Fu c l = -1 := by
 have : l.findIdx? (fun x => decide (x = c)) = none := by
  rw [List.findIdx?_eq_none_iff];simpa [qB] using h
 simp [Fu, this]
theorem Sx (c : ByteArray) (l : Ls) : (0 ≤ Fu c l) ↔ qB c l = true := by
 unfold Fu;split
 ·rename_i k h;rw [List.findIdx?_eq_some_iff_getElem] at h;obtain ⟨hk, he, _⟩ := h;simp only [decide_eq_true_eq] at he;simp [vN hk he]
 ·rename_i h;rw [List.findIdx?_eq_none_iff] at h;simp [qB];intro e; have := h c e; simp at this
def jC (l : Ls) (c : ByteArray) : Ls := l.filter fun x => !decide (x = c)
theorem Ep (l : Ls) (x c : ByteArray) : jC (l ++ [x]) c = jC l c ++ if x = c then [] else [x] := by
 simp [jC, List.filter_append, List.filter_cons]
theorem vI (l : Ls) (c : ByteArray) (k : Nat) (h : k < l.length) : jC (l.take (k + 1)) c = jC (l.take k) c ++ if l[k] = c then [] else [l[k]] := by rw [cU l k h, Ep]
theorem yD (l : Ls) (c : ByteArray) : (jC l c).length ≤ l.length := List.length_filter_le _ _
theorem It (l : Ls) (c : ByteArray) (σ : List (List D)) (hl : l.length ≤ 9223372036854775807) : Ct Tryz.prog 102 [dl l, D.str c] σ (fun r σ' => r = .bool (qB c l) ∧ σ' = σ) := by
 refine zf (rs:=[.tmp 4]) Tryz.func102 Tryz.ntmps102 Tryz.results102 ?_;simp only [aQ];refine bC fun _ _ Z=>?_;simp (disch:=omega);and_intros<;>(try omega);apply Z;apply aD;refine bC fun _ _ Z=>?_;simp (disch:=omega);and_intros<;>(try omega);apply Z;apply aK;refine zk [1,4,7,8,9] ?_;refine bQ (fun (k : Nat) => [(9, .d (.int k))]) [4, 6, 9, 10, 11, 12, 13, 14, 15, 16] (fun (k : Nat) => k ≤ l.length ∧ qB c (l.take k) = false) (fun (k : Nat) => l.length - k) (0) (by simp <;> rfl) ?_ ?_ ?_
 ·simp
 ·simp [qB]
 rintro k ⟨hk, hh⟩;simp only [List.cons_append, List.nil_append];refine bC fun _ _ Z=>?_;simp (disch:=omega);and_intros<;>(try omega);apply Z;apply aD;refine zi ?_;refine ⟨fun c1=>?_,fun c1=>?_⟩
 ·try simp at c1
  apply aH;apply aB;apply aD;apply aK;refine bC fun _ _ Z=>?_;simp (disch:=omega);and_intros<;>(try omega);apply Z;refine bC fun _ _ Z=>?_;simp (disch:=omega);and_intros<;>(try omega);apply Z;refine zi ?_;refine ⟨fun c2=>?_,fun c2=>?_⟩
  ·try simp at c2
   refine bC fun _ _ Z=>?_;simp (disch:=omega);and_intros<;>(try omega);apply Z;apply aE;apply aV;apply aL;apply eE;apply aV;apply aL;simp [aN];exact vN c1 c2
  ·try simp at c2
   apply aH;apply aP;apply aB;refine vS fun _ _ Z=>?_;simp (disch:=omega);and_intros<;>(try omega);apply Z;refine bA (k + 1) ?_ ?_ (aW rfl ?_ (by simp) (by simp))
   ·exact ⟨by omega, by rw [cU l k (by omega), Cg, hh]; simp [*]⟩
   ·try dsimp only
    omega
   ·simp (disch:=omega)
 ·try simp at c1
  apply bK;apply bJ;apply bL;apply aY;apply aB;refine bC fun _ _ Z=>?_;simp (disch:=omega);and_intros<;>(try omega);apply Z;apply aE;simp [aN];rw [List.take_of_length_le (by omega)] at hh; exact hh
theorem Xq (a b : Ls) (σ : List (List D)) (ha : a.length ≤ 9223372036854775807) (hb : b.length ≤ 9223372036854775807) : Ct Tryz.prog 104 [dl a, dl b] σ (fun r σ' => r = .bool (decide (a = b)) ∧ σ' = σ) := by
 refine zf (rs:=[.tmp 4]) Tryz.func104 Tryz.ntmps104 Tryz.results104 ?_;simp only [aQ];refine bC fun _ _ Z=>?_;simp (disch:=omega);and_intros<;>(try omega);apply Z;apply aD;refine bC fun _ _ Z=>?_;simp (disch:=omega);and_intros<;>(try omega);apply Z;refine zi ?_;refine ⟨fun c1=>?_,fun c1=>?_⟩
 ·try simp at c1
  refine bC fun _ _ Z=>?_;simp (disch:=omega);and_intros<;>(try omega);apply Z;apply aE;apply aL;simp [aN];intro e; subst e; exact absurd rfl c1
 ·try simp at c1
  apply aH;apply aB;apply aD;refine bC fun _ _ Z=>?_;simp (disch:=omega);and_intros<;>(try omega);apply Z;apply aK;refine zk [0,1,4,12,13] ?_;refine bQ (fun (k : Nat) => [(13, .d (.int k))]) [4, 5, 13, 14, 15, 16, 17, 18, 19, 20, 21, 22, 23, 24, 25] (fun (k : Nat) => k ≤ a.length ∧ a.take k = b.take k) (fun (k : Nat) => a.length - k) (0) (by simp <;> rfl) ?_ ?_ ?_
  ·simp
  ·simp
  rintro k ⟨hk, hh⟩;simp only [List.cons_append, List.nil_append];refine bC fun _ _ Z=>?_;simp (disch:=omega);and_intros<;>(try omega);apply Z;apply aD;refine zi ?_;refine ⟨fun c2=>?_,fun c2=>?_⟩
  ·try simp at c2
   apply aH;apply aB;apply aD;apply aK;refine bC fun _ _ Z=>?_;simp (disch:=omega);and_intros<;>(try omega);apply Z;refine zd ⟨[],[],[],[],[]⟩ [.op {},.op {},.op {},.op {},.op {},.op {},.op {},.op {},.op {}] fun all hall _ Z=>?_;refine aR 8 (by simp) fun _ Y=>?_;simp (disch:=omega);and_intros<;>(try omega);apply Y;simp only [List.drop];simp (disch:=omega);and_intros<;>(try omega);apply Z;refine zi ?_;refine ⟨fun c3=>?_,fun c3=>?_⟩
   ·try simp at c3
    refine zk [0,1,12,13] ?_;refine bC fun _ _ Z=>?_;simp (disch:=omega);and_intros<;>(try omega);apply Z;apply aE;apply aV;apply aL;apply eE;apply aV;apply aL;simp [aN];intro e; subst e; exact c3 rfl
   ·try simp at c3
    apply aH;apply aP;apply aB;refine zk [0,1,12,13] ?_;refine vS fun _ _ Z=>?_;simp (disch:=omega);and_intros<;>(try omega);apply Z;refine bA (k + 1) ?_ ?_ (aW rfl ?_ (by simp) (by simp))
    ·exact ⟨by omega, by rw [cU a k (by omega), cU b k (by omega), hh]; simp [*]⟩
    ·try dsimp only
     omega
    ·simp (disch:=omega)
  ·try simp at c2
   apply bK;apply bJ;apply bL;apply aY;apply aB;refine bC fun _ _ Z=>?_;simp (disch:=omega);and_intros<;>(try omega);apply Z;apply aE;simp [aN]
   rwa [List.take_of_length_le (by omega), List.take_of_length_le (by omega)] at hh
theorem Pb (l : Ls) (c : ByteArray) (σ : List (List D)) (hl : l.length ≤ 1000000) : Ct Tryz.prog 103 [dl l, D.str c] σ (fun r σ' => r = dlo (jC l c) ∧ σ' = σ) := by
 refine zf (rs:=[.tmp 4]) Tryz.func103 Tryz.ntmps103 Tryz.results103 ?_;simp only [aQ];refine zr ⟨[4,5,18,23],[],[],[],[]⟩ fun _ _ Z=>?_;simp (disch:=omega);and_intros<;>(try omega);apply Z;refine zr ⟨[4,5,18,23],[],[],[],[]⟩ fun _ _ Z=>?_;simp (disch:=omega);and_intros<;>(try omega);apply Z;apply aD;refine zr ⟨[4,5,18,23],[],[],[],[]⟩ fun _ _ Z=>?_;simp (disch:=omega);and_intros<;>(try omega);apply Z;apply aK;refine zk [1,4,5,9,10,11] ?_;refine bQ (fun (k : Nat) => [(11, .d (.int k)), (5, .d (dlo (jC (l.take k) c)))]) [5, 7, 11, 12, 13, 14, 15, 16, 17, 18, 19, 20, 21, 22] (fun (k : Nat) => k ≤ l.length) (fun (k : Nat) => l.length - k) (0) (by simp <;> rfl) ?_ ?_ ?_
 ·simp [jC]
 ·simp
 rintro k hk;simp only [List.cons_append, List.nil_append];have hcl := yD (l.take k) c;simp only [List.length_take] at hcl;refine zr ⟨[4,5,18,23],[],[],[],[]⟩ fun _ _ Z=>?_;simp (disch:=omega);and_intros<;>(try omega);apply Z;apply aD;refine zi ?_;refine ⟨fun c1=>?_,fun c1=>?_⟩
 ·try simp at c1
  apply aH;apply aB;apply aD;apply aK;refine zr ⟨[4,5,18,23],[],[],[],[]⟩ fun _ _ Z=>?_;simp (disch:=omega);and_intros<;>(try omega);apply Z;refine zr ⟨[4,5,18,23],[],[],[],[]⟩ fun _ _ Z=>?_;simp (disch:=omega);and_intros<;>(try omega);apply Z;refine zi ?_;refine ⟨fun c2=>?_,fun c2=>?_⟩
  ·try simp at c2
   refine zk [1,4,5,7,9,10,11] ?_;refine zt ⟨[4,5,18,23],[],[],[],[]⟩ fun _ _ Z=>?_;simp (disch:=omega);and_intros<;>(try omega);apply Z;apply aP;apply aB;refine zk [1,4,5,9,10,11] ?_;refine zt ⟨[4,5,18,23],[],[],[],[]⟩ fun _ _ Z=>?_;simp (disch:=omega);and_intros<;>(try omega);apply Z;refine bA (k + 1) ?_ ?_ (aW rfl ?_ (by simp) (by simp))
   ·omega
   ·try dsimp only
    omega
   ·simp (disch:=omega)[vI,c2]
  ·try simp at c2
   apply aH;apply aP;apply aB;refine zk [1,4,5,9,10,11] ?_;refine zt ⟨[4,5,18,23],[],[],[],[]⟩ fun _ _ Z=>?_;simp (disch:=omega);and_intros<;>(try omega);apply Z;refine bA (k + 1) ?_ ?_ (aW rfl ?_ (by simp) (by simp))
   ·omega
   ·try dsimp only
    omega
   ·simp (disch:=omega)[vI,c2]
 ·try simp at c1
  apply bK;apply bJ;apply bL;apply aY;apply aB;refine zr ⟨[4,5,18,23],[],[],[],[]⟩ fun _ _ Z=>?_;simp (disch:=omega);and_intros<;>(try omega);apply Z;apply aE;simp [aN];rw [List.take_of_length_le (by omega)]
theorem Sy (l : Ls) (c : ByteArray) (σ : List (List D)) (hl : l.length ≤ 9223372036854775807) : Ct Tryz.prog 163 [dl l, D.str c] σ (fun r σ' => r = .int (Fu c l) ∧ σ' = σ) := by
 refine zf (rs:=[.tmp 4]) Tryz.func163 Tryz.ntmps163 Tryz.results163 ?_;simp only [aQ];refine bC fun _ _ Z=>?_;simp (disch:=omega);and_intros<;>(try omega);apply Z;apply aD;refine bC fun _ _ Z=>?_;simp (disch:=omega);and_intros<;>(try omega);apply Z;apply aK;refine zk [0,1,4,7,8] ?_;refine bQ (fun (k : Nat) => [(8, .d (.int k))]) [4, 5, 8, 9, 10, 11, 12, 13, 14, 15, 16, 17, 18] (fun (k : Nat) => k ≤ l.length ∧ qB c (l.take k) = false) (fun (k : Nat) => l.length - k) (0) (by simp <;> rfl) ?_ ?_ ?_
 ·simp
 ·simp [qB]
 rintro k ⟨hk, hh⟩;simp only [List.cons_append, List.nil_append];refine bC fun _ _ Z=>?_;simp (disch:=omega);and_intros<;>(try omega);apply Z;apply aD;refine zi ?_;refine ⟨fun c1=>?_,fun c1=>?_⟩
 ·try simp at c1
  apply aH;apply aB;apply aD;apply aK;refine bC fun _ _ Z=>?_;simp (disch:=omega);and_intros<;>(try omega);apply Z;refine bC fun _ _ Z=>?_;simp (disch:=omega);and_intros<;>(try omega);apply Z;refine zi ?_;refine ⟨fun c2=>?_,fun c2=>?_⟩
  ·try simp at c2
   refine zk [0,1,5,7,8] ?_;refine bC fun _ _ Z=>?_;simp (disch:=omega);and_intros<;>(try omega);apply Z;apply aE;apply aV;apply aL;apply eE;apply aV;apply aL;simp [aN];exact (Xn c1 hh c2).symm
  ·try simp at c2
   apply aH;apply aP;apply aB;refine zk [0,1,7,8] ?_;refine vS fun _ _ Z=>?_;simp (disch:=omega);and_intros<;>(try omega);apply Z;refine bA (k + 1) ?_ ?_ (aW rfl ?_ (by simp) (by simp))
   ·exact ⟨by omega, by rw [cU l k (by omega), Cg, hh]; simp; exact fun e => c2 e.symm⟩
   ·try dsimp only
    omega
   ·simp (disch:=omega)
 ·try simp at c1
  apply bK;apply bJ;apply bL;apply aY;apply aB;refine bC fun _ _ Z=>?_;simp (disch:=omega);and_intros<;>(try omega);apply Z;apply aE;simp [aN];rw [List.take_of_length_le (by omega)] at hh; exact (Kc hh).symm
theorem Ea (l : Ls) (c : ByteArray) (σ : List (List D)) (hl : l.length ≤ 9223372036854775807) : Ct Tryz.prog 147 [dl l, D.str c] σ (fun r σ' => r = .bool (qB c l) ∧ σ' = σ) := by
 refine zf (rs:=[.tmp 4]) Tryz.func147 Tryz.ntmps147 Tryz.results147 ?_;simp only [aQ];refine bC fun _ _ Z=>?_;simp;and_intros<;>(try omega);apply Z;refine bC fun _ _ Z=>?_;refine aA 2 fun _ Y=>?_;simp;and_intros<;>(try omega);apply Y;simp only [List.drop];refine aG fun _ Y=>?_;simp;refine cO (Sy _ _ _ hl) ?_;apply Y;simp;and_intros<;>(try omega);apply Z;apply aE;simp [aN, Sx]
theorem qG (l : Ls) (c : ByteArray) (σ : List (List D)) (hl : l.length ≤ 9223372036854775807) : Ct Tryz.prog 131 [dl l, D.str c] σ (fun r σ' => r = .bool (qB c l) ∧ σ' = σ) := by
 refine zf (rs:=[.tmp 4]) Tryz.func131 Tryz.ntmps131 Tryz.results131 ?_;simp only [aQ];refine bC fun _ _ Z=>?_;simp;and_intros<;>(try omega);apply Z;refine bC fun _ _ Z=>?_;refine aA 2 fun _ Y=>?_;simp;and_intros<;>(try omega);apply Y;simp only [List.drop];refine aG fun _ Y=>?_;simp;refine cO (Ea _ _ _ hl) ?_;apply Y;simp;and_intros<;>(try omega);apply Z;apply aE;simp[aN]
theorem Di (l : Ls) (σ : List (List D)) (hl : l.length ≤ 1000000) : Ct Tryz.prog 106 [dl l] σ (fun r σ' => r = dlo l ∧ σ' = σ) := by
 refine zf (rs:=[.tmp 2]) Tryz.func106 Tryz.ntmps106 Tryz.results106 ?_;simp only [aQ];refine zr ⟨[2],[],[],[],[]⟩ fun _ _ Z=>?_;simp;and_intros<;>(try omega);apply Z;apply aD;refine zr ⟨[2],[],[],[],[]⟩ fun _ _ Z=>?_;refine aA 1 fun _ Y=>?_;simp;and_intros<;>(try omega);apply Y;simp only [List.drop];refine aG fun _ Y=>?_;simp;refine ⟨Y _ ?_, fun e1 => Y _ ?_⟩
 ·skip
  simp only [dF];apply Z;refine bR (t := false) (by simp) (fun h => by cases h) (fun _ => ?_);apply aH;apply aB;refine zr ⟨[2],[],[],[],[]⟩ fun _ _ Z=>?_;simp;and_intros<;>(try omega);apply Z;apply aE;simp [aN]
 ·skip
  simp only [dF];apply Z;refine bR (t := true) (by simp) (fun _ => ?_) (fun h => by cases h);refine zr ⟨[2],[],[],[],[]⟩ fun _ _ Z=>?_;simp;and_intros<;>(try omega);apply Z;apply aE;apply aL;simp [aN, e1]
theorem aA7 (l : Ls) (c : ByteArray) (σ : List (List D)) (hl : l.length ≤ 1000000) : Ct Tryz.prog 132 [dl l, D.str c] σ (fun r σ' => r = dlo (Mu l c) ∧ σ' = σ) := by
 refine zf (rs:=[.tmp 4]) Tryz.func132 Tryz.ntmps132 Tryz.results132 ?_;simp only [aQ];refine zr ⟨[4,5,12,16],[],[],[],[]⟩ fun _ _ Z=>?_;simp;and_intros<;>(try omega);apply Z;refine zr ⟨[4,5,12,16],[],[],[],[]⟩ fun _ _ Z=>?_;refine aA 1 fun _ Y=>?_;simp;and_intros<;>(try omega);apply Y;simp only [List.drop];refine aG fun _ Y=>?_;simp;refine cO (Di _ _ hl) ?_;apply Y;simp;and_intros<;>(try omega);apply Z;apply aD;refine zr ⟨[4,5,12,16],[],[],[],[]⟩ fun _ _ Z=>?_;refine aA 2 fun _ Y=>?_;simp;and_intros<;>(try omega);apply Y;simp only [List.drop];refine aG fun _ Y=>?_;simp;refine cO (qG l _ _ (by omega)) ?_;apply Y;simp;and_intros<;>(try omega);apply Z;refine zi ?_;refine ⟨fun c1=>?_,fun c1=>?_⟩
 ·try simp at c1
  refine zt ⟨[4,5,12,16],[],[],[],[]⟩ fun _ _ Z=>?_;simp;and_intros<;>(try omega);apply Z;apply aB;refine zk [4,5] ?_;refine zr ⟨[4,5,12,16],[],[],[],[]⟩ fun _ _ Z=>?_;simp;and_intros<;>(try omega);apply Z;apply aE;simp [aN, Mu, c1]
 ·try simp at c1
  apply aH;apply aB;refine zr ⟨[4,5,12,16],[],[],[],[]⟩ fun _ _ Z=>?_;simp;and_intros<;>(try omega);apply Z;apply aE;simp [aN, Mu, c1]
theorem wX (l : Ls) (p : ByteArray → Bool) (f : FuncId) (caps : List D) (m cap : Nat) (rest : List D) (σ : List (List D)) (hl : l.length ≤ 9223372036854775807) (hσ : σ[m]? = some (l.map D.str ++ rest)) (hcp : ∀ d ∈ caps, d.plain = true) (hcs : caps.map D.strip = caps) (hp : ∀ x τ, Ct Tryz.prog f (D.str x :: caps) τ (fun r τ' => r = .bool (p x) ∧ τ' = τ)) : Ct Tryz.prog 170 [.slo m 0 l.length cap, .clo (.func f) [] caps] σ (fun r σ' => r = .int (pO p l) ∧ σ' = σ) := by
 refine zf (rs:=[.tmp 4]) Tryz.func170 Tryz.ntmps170 Tryz.results170 ?_;simp only [aQ];refine zr ⟨[],[],[],[7,14],[]⟩ fun _ _ Z=>?_;simp (disch:=omega)[hσ,hcs,aT];and_intros<;>(try omega);apply Z;apply aD;refine zr ⟨[],[],[],[7,14],[]⟩ fun _ _ Z=>?_;simp (disch:=omega)[hσ,hcs,aT];and_intros<;>(try omega);apply Z;apply aK;refine zk [0,1,4,7,8] ?_;refine bQ (fun (k : Nat) => [(8, .d (.v (.int .i64 (k : Int))))]) [4, 5, 8, 9, 10, 11, 12, 13, 14, 15, 16, 17, 18] (fun (k : Nat) => k ≤ l.length ∧ ∀ x ∈ l.take k, p x = false) (fun (k : Nat) => l.length - k) (0) (by simp <;> rfl) ?_ ?_ ?_
 ·simp
 ·simp
 rintro k ⟨hk, hh⟩;simp only [List.cons_append, List.nil_append];refine zr ⟨[],[],[],[7,14],[]⟩ fun _ _ Z=>?_;simp (disch:=omega)[hσ,hcs,aT];and_intros<;>(try omega);apply Z;apply aD;refine zi ?_;refine ⟨fun c1=>?_,fun c1=>?_⟩
 ·try simp at c1
  apply aH;apply aB;apply aD;apply aK;refine zr ⟨[],[],[],[7,14],[]⟩ fun _ _ Z=>?_;simp (disch:=omega)[hσ,hcs,aT];and_intros<;>(try omega);apply Z;refine zr ⟨[],[],[],[7,14],[]⟩ fun _ _ Z=>?_;refine aA 5 fun _ Y=>?_;simp (disch:=omega)[hσ,hcs,aT];and_intros<;>(try omega);apply Y;simp only [List.drop];refine aG fun _ Y=>?_;simp (disch:=omega)[hσ,hcs,aT];refine ⟨hcp, ?_⟩;refine cO (hp l[k] _) ?_;apply Y;simp only [dF];apply Z;refine zi ?_;refine ⟨fun c2=>?_,fun c2=>?_⟩
  ·try simp at c2
   refine zk [0,1,5,7,8] ?_;refine zr ⟨[],[],[],[7,14],[]⟩ fun _ _ Z=>?_;simp (disch:=omega)[hσ,hcs,aT];and_intros<;>(try omega);apply Z;apply aE;apply aV;apply aL;apply eE;apply aV;apply aL;simp [aN];exact (oK c1 hh c2).symm
  ·try simp at c2
   apply aH;apply aP;apply aB;refine zk [0,1,7,8] ?_;refine zt ⟨[],[],[],[7,14],[]⟩ fun _ _ Z=>?_;simp (disch:=omega)[hσ,hcs,aT];and_intros<;>(try omega);apply Z;refine bA (k + 1) ?_ ?_ (aW rfl ?_ (by simp) (by simp))
   ·exact ⟨by omega, jG (by omega) hh c2⟩
   ·try dsimp only
    omega
   ·simp (disch:=omega)[hσ,hcs,aT]
 ·try simp at c1
  apply bK;apply bJ;apply bL;apply aY;apply aB;refine zr ⟨[],[],[],[7,14],[]⟩ fun _ _ Z=>?_;simp (disch:=omega)[hσ,hcs,aT];and_intros<;>(try omega);apply Z;apply aE;simp [aN];rw [List.take_of_length_le (by omega)] at hh; exact (kA hh).symm
theorem xD (f : FuncId) (caps : List D) (σ : List (List D)) (hcp : ∀ d ∈ caps, d.plain = true) : Ct Tryz.prog 170 [.xl 0, .clo (.func f) [] caps] σ (fun r σ' => r = .int (-1) ∧ σ' = σ) := by
 refine zf (rs:=[.tmp 4]) Tryz.func170 Tryz.ntmps170 Tryz.results170 ?_;simp only [aQ];refine zr ⟨[],[],[],[7],[]⟩ fun _ _ Z=>?_;simp;and_intros<;>(try omega);apply Z;apply aD;refine zr ⟨[],[],[],[7],[]⟩ fun _ _ Z=>?_;simp;and_intros<;>(try omega);apply Z;apply aK;refine zk [0,1,4,7,8] ?_;refine bQ (fun (k : Nat) => [(8, .d (.int 0))]) [4, 5, 8, 9, 10, 11, 12, 13, 14, 15, 16, 17, 18] (fun (k : Nat) => k = 0) (fun (k : Nat) => 0) (0) (by simp <;> rfl) ?_ ?_ ?_
 ·simp
 ·rfl
 rintro k hk;simp only [List.cons_append, List.nil_append];refine zr ⟨[],[],[],[7],[]⟩ fun _ _ Z=>?_;simp;and_intros<;>(try omega);apply Z;apply aD;refine zi ?_;refine ⟨fun c1=>?_,fun c1=>?_⟩
 ·simp at c1
 ·try simp at c1
  apply bK;apply bJ;apply bL;apply aY;apply aB;refine zr ⟨[],[],[],[7],[]⟩ fun _ _ Z=>?_;simp;and_intros<;>(try omega);apply Z;apply aE;simp [aN]
theorem De (p : ByteArray → Bool) (l k : Ls) (rest : List D) : List.take k.length ((k ++ l).map D.str ++ rest) = k.map D.str := by
 rw [List.map_append, List.append_assoc, List.take_append_of_le_length (by simp)];rw [List.take_of_length_le (by simp)]
theorem uX (l : Ls) (p : ByteArray → Bool) (f : FuncId) (caps : List D) (σ : List (List D)) (hl : l.length ≤ 1000000) (hne : l ≠ []) (hcp : ∀ d ∈ caps, d.plain = true) (hcs : caps.map D.strip = caps) (hp : ∀ x τ, Ct Tryz.prog f (D.str x :: caps) τ (fun r τ' => r = .bool (p x) ∧ τ' = τ)) : Ct Tryz.prog 164 [.xs 1 (l.map D.str), .clo (.func f) [] caps] σ (fun r σ' => r = .xs 1 ((l.filter fun x => !p x).map D.str) ∧ σ' = σ ++ [[]]) := by
 refine zf (rs:=[.tmp 4]) Tryz.func164 Tryz.ntmps164 Tryz.results164 ?_;simp only [aQ];refine iW 0 1 rfl (by decide) fun cap rest hcap hcm hrest hk0 hes => ?_;simp only [List.length_map] at hcap hrest ⊢;rw [dA (f := D.str) (fun _ => rfl)];refine zr ⟨[4,13],[],[],[18,24,33,38,41],[]⟩ fun _ _ Z=>?_;simp (disch:=first|omega|assumption)[hcs,aT,cF];and_intros<;>try first|omega|exact rfl
 apply Z;refine zr ⟨[4,13],[],[],[18,24,33,38,41],[]⟩ fun _ _ Z=>?_;refine aA 2 fun _ Y=>?_;simp (disch:=first|omega|assumption)[hcs,aT,cF];and_intros<;>try first|omega|exact rfl
 apply Y;simp only [List.drop];refine aG fun _ Y=>?_;simp (disch:=first|omega|assumption)[hcs,aT,cF];refine cO (wX l p f caps σ.length cap rest _ (by omega) (by simp) hcp hcs hp) ?_;apply Y;simp (disch:=first|omega|assumption)[hcs,aT,cF];and_intros<;>try first|omega|exact rfl
 apply Z;apply aD;refine zr ⟨[4,13],[],[],[18,24,33,38,41],[]⟩ fun _ _ Z=>?_;simp (disch:=first|omega|assumption)[hcs,aT,cF];and_intros<;>try first|omega|exact rfl
 apply Z;refine zi ?_;refine ⟨fun c1=>?_,fun c1=>?_⟩
 ·try simp at c1
  refine zr ⟨[4,13],[],[],[18,24,33,38,41],[]⟩ fun _ _ Z=>?_;simp (disch:=first|omega|assumption)[hcs,aT,cF];and_intros<;>try first|omega|exact rfl
  apply Z;refine cZ 4 1 σ.length l.length cap (l.map D.str) (l.map D.str ++ rest) (by simp <;> rfl) (by simp) (by omega) (by simp [hrest]; omega) (by simp) (by simp) (by rw [dA (fun _ => rfl)]; exact List.prefix_append _ _) ?_;simp only [iN];apply aE;apply aL;simp [aN];rcases mS p l with ⟨_, h⟩ | ⟨k, h, _⟩
  ·rw [h]
  ·omega
 ·try simp at c1
  obtain ⟨k0, e0, e1, e2, e3⟩ := rE c1;rw [e0];apply aH;apply aB;apply aD;refine zr ⟨[4,13],[],[],[18,24,33,38,41],[]⟩ fun _ _ Z=>?_;simp (disch:=first|omega|assumption)[hcs,aT,cF];and_intros<;>try first|omega|exact rfl
  apply Z;apply aK;refine zk [0,1,4,5,6] ?_;refine lP (fun (j : Nat) => [(5, .d (.v (.int .i64 ((kp p l j).length : Int)))), (6, .d (.v (.int .i64 (j : Int))))]) (fun (j : Nat) => []) (fun (j : Nat) => [(σ.length, (ar p l j).map D.str ++ rest)]) [5, 6, 7, 16, 17, 18, 19, 20, 21, 22, 23, 24, 25, 26, 27, 28, 29, 30, 31, 32, 33, 34, 35] (fun (j : Nat) => j ≤ l.length) (fun (j : Nat) => l.length - j) (k0 + 1) (by simp <;> rfl) ?_ (by simp) (by simp [e1]) ?_ ?_
  ·simp [e1, e2]
  ·omega
  rintro j hj;simp only [List.cons_append, List.nil_append, lL, kB, List.set_cons_zero, List.set_cons_succ];have hkl := xY p l j hj;have hal := vC p l j;apply aD;refine zr ⟨[4,13],[],[],[18,24,33,38,41],[]⟩ fun _ _ Z=>?_;simp (disch:=first|omega|assumption)[hcs,aT,cF];and_intros<;>try first|omega|exact rfl
  apply Z;refine zi ?_;refine ⟨fun c2=>?_,fun c2=>?_⟩
  ·try simp at c2
   apply aH;apply aB;apply aD;apply aK;refine zr ⟨[4,13],[],[],[18,24,33,38,41],[]⟩ fun _ _ Z=>?_;simp (disch:=first|omega|assumption)[hcs,aT,cF];and_intros<;>try first|omega|exact rfl
   apply Z;refine zk [0,1,4,5,6,7] ?_;refine zr ⟨[4,13],[],[],[18,24,33,38,41],[]⟩ fun _ _ Z=>?_;refine aA 2 fun _ Y=>?_;simp (disch:=first|omega|assumption)[hcs,aT,cF];and_intros<;>try first|omega|exact rfl
   apply Y;simp only [List.drop];refine aG fun _ Y=>?_;simp (disch:=first|omega|assumption)[hcs,aT,cF];simp only [Jm p l j (by omega)];refine ⟨hcp, ?_⟩;refine cO (hp l[j] _) ?_;apply Y;simp (disch:=first|omega|assumption)[hcs,aT,cF];and_intros<;>try first|omega|exact rfl
   apply Z;refine zi ?_;refine ⟨fun c3=>?_,fun c3=>?_⟩
   ·try simp at c3
    refine zr ⟨[4,13],[],[],[18,24,33,38,41],[]⟩ fun _ _ Z=>?_;simp (disch:=first|omega|assumption)[hcs,aT,cF];and_intros<;>try first|omega|exact rfl
    apply Z;refine zk [0,1,4,5,6] ?_;refine zt ⟨[4,13],[],[],[18,24,33,38,41],[]⟩ fun _ _ Z=>?_;simp (disch:=first|omega|assumption)[hcs,aT,cF];and_intros<;>try first|omega|exact rfl
    apply Z;apply aP;apply aB;refine zt ⟨[4,13],[],[],[18,24,33,38,41],[]⟩ fun _ _ Z=>?_;simp (disch:=first|omega|assumption)[hcs,aT,cF];and_intros<;>try first|omega|exact rfl
    apply Z;refine bA (j + 1) ?_ ?_ (aW rfl ?_ (by simp) (by rw [← (pA p l j (by omega) c3).1]; simp (disch := omega) [Cq, hal]))
    ·omega
    ·try dsimp only
     omega
    ·simp (disch:=first|omega|assumption)[hcs,aT,cF,(pA p l j (by omega) c3).2]
   ·try simp at c3
    apply aH;apply aP;apply aB;refine zt ⟨[4,13],[],[],[18,24,33,38,41],[]⟩ fun _ _ Z=>?_;simp (disch:=first|omega|assumption)[hcs,aT,cF];and_intros<;>try first|omega|exact rfl
    apply Z;refine bA (j + 1) ?_ ?_ (aW rfl ?_ (by simp) (by simp [(mH p l j (by omega) c3).1]))
    ·omega
    ·try dsimp only
     omega
    ·simp (disch:=first|omega|assumption)[hcs,aT,cF,(mH p l j (by omega) c3).2]
  ·try simp at c2
   apply bK;apply bJ;apply bL;apply aY;apply aB;refine zr ⟨[4,13],[],[],[18,24,33,38,41],[]⟩ fun _ _ Z=>?_;simp (disch:=first|omega|assumption)[hcs,aT,cF];and_intros<;>try first|omega|exact rfl
   apply Z;refine zk [0,4,5] ?_;refine zr ⟨[4,13],[],[],[18,24,33,38,41],[]⟩ fun _ _ Z=>?_;simp (disch:=first|omega|assumption)[hcs,aT,cF];and_intros<;>try first|omega|exact rfl
   apply Z;refine cZ 4 1 σ.length (kp p l j).length cap ((kp p l j).map D.str) ((kp p l j).map D.str ++ (eK #[.string ⟨#[]⟩] (l.length - (kp p l j).length) ++ rest)) (by simp <;> rfl) (by rw [show List.map D.str (kp p l j) = List.take (kp p l j).length (List.map D.str (ar p l j) ++ rest) from (De p _ _ rest).symm]; simp [dX (z := #[.string ⟨#[]⟩]) (k := 1) rfl, show (kp p l j).length + (l.length - (kp p l j).length) = l.length by omega, Ch D.str (ar p l j) rest l.length hal.symm]) (by omega) (by simp [hrest, dX (z := #[.string ⟨#[]⟩]) (k := 1) rfl]; omega) (by simp) (by simp) (by rw [dA (fun _ => rfl)]; exact List.prefix_append _ _) ?_;simp only [iN];apply aE;simp [aN];unfold kp; rw [List.take_of_length_le (by omega)]
theorem wE (f : FuncId) (caps : List D) (σ : List (List D)) (hcp : ∀ d ∈ caps, d.plain = true) : Ct Tryz.prog 164 [.xs 1 [], .clo (.func f) [] caps] σ (fun r σ' => r = .xs 1 [] ∧ σ' = σ) := by
 refine zf (rs:=[.tmp 4]) Tryz.func164 Tryz.ntmps164 Tryz.results164 ?_;simp only [aQ];refine zr ⟨[4,13],[],[],[],[]⟩ fun _ _ Z=>?_;simp;and_intros<;>(try omega);apply Z;refine zr ⟨[4,13],[],[],[],[]⟩ fun _ _ Z=>?_;refine aA 2 fun _ Y=>?_;simp;and_intros<;>(try omega);apply Y;simp only [List.drop];refine aG fun _ Y=>?_;simp;refine cO (xD f caps _ hcp) ?_;apply Y;simp;and_intros<;>(try omega);apply Z;apply aD;refine zr ⟨[4,13],[],[],[],[]⟩ fun _ _ Z=>?_;simp;and_intros<;>(try omega);apply Z;refine zi ?_;refine ⟨fun c1=>?_,fun c1=>?_⟩
 ·try simp at c1
  refine zr ⟨[4,13],[],[],[],[]⟩ fun _ _ Z=>?_;simp;and_intros<;>(try omega);apply Z;apply aE;apply aL;simp[aN]
 ·simp at c1
theorem Wh (N : Nat) (l : Ls) : Sc N (.xs 1 (l.map D.str)) := Sc.xs fun d hd e he => by
 obtain ⟨a, _, rfl⟩ := List.mem_map.1 hd;simp [D.cells] at he;subst he;exact Sc.v _
theorem xH (l : Ls) (p : ByteArray → Bool) (f : FuncId) (caps : List D) (σ : List (List D)) (hl : l.length ≤ 1000000) (hcp : ∀ d ∈ caps, d.plain = true) (hcs : caps.map D.strip = caps) (hp : ∀ x τ, Ct Tryz.prog f (D.str x :: caps) τ (fun r τ' => r = .bool (p x) ∧ τ' = τ)) :
  Ct Tryz.prog 164 [.xs 1 (l.map D.str), .clo (.func f) [] caps] σ (fun r σ' => r = .xs 1 ((l.filter fun x => !p x).map D.str) ∧ σ' = σ) := by
 by_cases hne : l = []
 ·subst hne; exact wE f caps σ hcp
 ·exact (uX l p f caps σ hl hne hcp hcs hp).trim fun r σ' ⟨hr, hs⟩ => ⟨σ, [[]], hs, rfl, by rw [hr]; exact Wh _ _, fun n cs h => .inl h, hr, rfl⟩
theorem Gk (l : Ls) (σ : List (List D)) (hl : l.length ≤ 1000000) : Ct Tryz.prog 106 [dl l] σ (fun r σ' => kV 1 (l.map D.str) r ∧ σ' = σ) := by
 refine zf (rs:=[.tmp 2]) Tryz.func106 Tryz.ntmps106 Tryz.results106 ?_;simp only [aQ];refine zr ⟨[2],[],[],[7],[]⟩ fun _ _ Z=>?_;simp (disch:=first|omega|assumption);and_intros<;>try first|omega|exact rfl
 apply Z;apply aD;refine zr ⟨[2],[],[],[7],[]⟩ fun _ _ Z=>?_;refine aA 1 fun _ Y=>?_;simp (disch:=first|omega|assumption);and_intros<;>try first|omega|exact rfl
 apply Y;simp only [List.drop];refine aG fun _ Y=>?_;simp (disch:=first|omega|assumption);refine ⟨Y _ ?_, fun e1 => Y _ ?_⟩
 ·skip
  simp only [dF];apply Z;refine bR (t := false) (by simp) (fun h => by cases h) (fun _ => ?_);apply aH;apply aB;refine zr ⟨[2],[],[],[7],[]⟩ fun _ _ Z=>?_;simp (disch:=first|omega|assumption);and_intros<;>try first|omega|exact rfl
  apply Z;apply aE;simp [aN, kV]
 ·skip
  simp only [dF];apply Z;refine bR (t := true) (by simp) (fun _ => ?_) (fun h => by cases h);refine zr ⟨[2],[],[],[7],[]⟩ fun _ _ Z=>?_;simp (disch:=first|omega|assumption);and_intros<;>try first|omega|exact rfl
  apply Z;apply aE;apply aL;simp [aN, kV, e1]
theorem xJ (l : Ls) (σ : List (List D)) (hl : l.length ≤ 1000000) : Ct Tryz.prog 106 [dl l] σ (fun r σ' => r = .xs 1 (l.map D.str) ∧ σ' = σ) := (Gk l σ hl).toX fun _ _ h => h
theorem Hk (l : Ls) (p : ByteArray → Bool) (f : FuncId) (caps : List D) (σ : List (List D)) (hl : l.length ≤ 1000000) (hcp : ∀ d ∈ caps, d.plain = true) (hcs : caps.map D.strip = caps) (hp : ∀ x τ, Ct Tryz.prog f (D.str x :: caps) τ (fun r τ' => r = .bool (p x) ∧ τ' = τ)) : Ct Tryz.prog 148 [dl l, .clo (.func f) [] caps] σ (fun r σ' => r = .xs 1 ((l.filter fun x => !p x).map D.str) ∧ σ' = σ) := by
 refine zf (rs:=[.tmp 4]) Tryz.func148 Tryz.ntmps148 Tryz.results148 ?_;simp only [aQ];refine zr ⟨[4,7,8],[],[],[],[]⟩ fun _ _ Z=>?_;simp;and_intros<;>(try omega);apply Z;refine zr ⟨[4,7,8],[],[],[],[]⟩ fun _ _ Z=>?_;refine aA 1 fun _ Y=>?_;simp;and_intros<;>(try omega);apply Y;simp only [List.drop];refine aG fun _ Y=>?_;simp;refine cO (xJ l _ hl) ?_;apply Y;refine aA 1 fun _ Y=>?_;simp;and_intros<;>(try omega);apply Y;simp only [List.drop];refine aG fun _ Y=>?_;simp;refine cO (xH l p f caps _ hl hcp hcs hp) ?_;apply Y;simp;and_intros<;>(try omega);apply Z;apply aE;simp[aN]
theorem Uk (x c : ByteArray) (σ : List (List D))  : Ct Tryz.prog 149 [D.str x, .adr [D.str c]] σ (fun r σ' => r = .bool (decide (x = c)) ∧ σ' = σ) := by
 refine zf (rs:=[.tmp 3]) Tryz.func149 Tryz.ntmps149 Tryz.results149 ?_;simp only [aQ];refine bC fun _ _ Z=>?_;simp;and_intros<;>(try omega);apply Z;refine bC fun _ _ Z=>?_;simp;and_intros<;>(try omega);apply Z;apply aE;simp[aN]
theorem Ny (l : Ls) (c : ByteArray) (σ : List (List D)) (hl : l.length ≤ 1000000) : Ct Tryz.prog 133 [dl l, D.str c] σ (fun r σ' => r = .xs 1 ((jC l c).map D.str) ∧ σ' = σ) := by
 refine zf (rs:=[.tmp 4]) Tryz.func133 Tryz.ntmps133 Tryz.results133 ?_;simp only [aQ];refine zr ⟨[4],[3],[],[],[]⟩ fun _ _ Z=>?_;simp;and_intros<;>(try omega);apply Z;refine zr ⟨[4],[3],[],[],[]⟩ fun _ _ Z=>?_;refine aA 2 fun _ Y=>?_;simp;and_intros<;>(try omega);apply Y;simp only [List.drop];refine aG fun _ Y=>?_;simp;refine cO (Hk l (fun x => decide (x = c)) 149 [.adr [D.str c]] _ hl (by simp) (by simp) (fun x τ => Uk x c τ)) ?_;apply Y;simp;and_intros<;>(try omega);apply Z;apply aE;simp [aN, jC]
theorem Rt (l : Ls) (c : ByteArray) (σ : List (List D)) (hl : l.length ≤ 1000000) : Ct Tryz.prog 133 [dl l, D.str c] σ (fun r σ' => r = dl (jC l c) ∧ σ' = σ) := (Ny l c σ hl).freeze fun _ _ h => h
end Go.Proofs.YtpfmpeaekgdgnaaGreat

