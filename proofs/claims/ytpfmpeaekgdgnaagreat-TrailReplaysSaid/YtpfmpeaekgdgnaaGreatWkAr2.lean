import Derived.Test.YtpfmpeaekgdgnaaGreatWkAr1
import Derived.Test.YtpfmpeaekgdgnaaGreatVmX6
namespace Go.Proofs.YtpfmpeaekgdgnaaGreat
open Go Go.Vm
set_option maxRecDepth 20000
set_option linter.all false
set_option maxHeartbeats 8000000
abbrev Ls := List ByteArray
@[simp] abbrev dl (l : Ls) : D := .sl false (l.map D.str)
@[simp] abbrev dlo (l : Ls) : D := .sl true (l.map D.str)
def qN (c : ByteArray) (l : Ls) : Bool := l.any fun x => decide (x = c)
theorem Es (c x : ByteArray) (l : Ls) : qN c (l ++ [x]) = (qN c l || decide (x = c)) := by simp [qN]
theorem wG {c : ByteArray} {l : Ls} {k : Nat} (h : k < l.length) (e : l[k] = c) : qN c l = true := by
 simp only [qN, List.any_eq_true, decide_eq_true_eq];exact ⟨l[k], List.getElem_mem h, e⟩
def Mq (l : Ls) (c : ByteArray) : Ls := if qN c l then l else l ++ [c]
def Gl (c : ByteArray) (l : Ls) : Int := match l.findIdx? (fun x => decide (x = c)) with | some k => k | none => -1
theorem Yw {c : ByteArray} {l : Ls} {k : Nat} (h : k < l.length) (hh : qN c (l.take k) = false) (e : c = l[k]) : Gl c l = k := by
 have : l.findIdx? (fun x => decide (x = c)) = some k := by
  rw [List.findIdx?_eq_some_iff_getElem];refine ⟨h, by simp [e], fun j hj => ?_⟩;simp only [qN, List.any_eq_false, decide_eq_true_eq] at hh;have := hh ((l.take k)[j]'(by simp; omega)) (List.getElem_mem _);simpa using this
 simp [Gl, this]
theorem On {c : ByteArray} {l : Ls} (h : qN c l = false) : Gl c l = -1 := by
 have : l.findIdx? (fun x => decide (x = c)) = none := by
  rw [List.findIdx?_eq_none_iff];simpa [qN] using h
 simp [Gl, this]
theorem Vq (c : ByteArray) (l : Ls) : (0 ≤ Gl c l) ↔ qN c l = true := by
 unfold Gl;split
 ·rename_i k h;rw [List.findIdx?_eq_some_iff_getElem] at h;obtain ⟨hk, he, _⟩ := h;simp only [decide_eq_true_eq] at he;simp [wG hk he]
 ·rename_i h;rw [List.findIdx?_eq_none_iff] at h;simp [qN];intro e; have := h c e; simp at this
def jW (l : Ls) (c : ByteArray) : Ls := l.filter fun x => !decide (x = c)
theorem Gi (l : Ls) (x c : ByteArray) : jW (l ++ [x]) c = jW l c ++ if x = c then [] else [x] := by
 simp [jW, List.filter_append, List.filter_cons]
theorem vW (l : Ls) (c : ByteArray) (k : Nat) (h : k < l.length) : jW (l.take (k + 1)) c = jW (l.take k) c ++ if l[k] = c then [] else [l[k]] := by rw [cY l k h, Gi]
theorem yH (l : Ls) (c : ByteArray) : (jW l c).length ≤ l.length := List.length_filter_le _ _
theorem La (l : Ls) (c : ByteArray) (σ : List (List D)) (hl : l.length ≤ 9223372036854775807) : Ct Tryz.prog 102 [dl l, D.str c] σ (fun r σ' => r = .bool (qN c l) ∧ σ' = σ) := by
 refine zf (rs:=[.tmp 4]) Tryz.func102 Tryz.ntmps102 Tryz.results102 ?_;simp only [aN];refine aY fun _ _ Z=>?_;simp (disch:=omega);and_intros<;>(try omega);apply Z;apply aE;refine aY fun _ _ Z=>?_;simp (disch:=omega);and_intros<;>(try omega);apply Z;apply aM;refine zk [1,4,7,8,9] ?_;refine bV (fun (k : Nat) => [(9, .d (.int k))]) [4, 6, 9, 10, 11, 12, 13, 14, 15, 16] (fun (k : Nat) => k ≤ l.length ∧ qN c (l.take k) = false) (fun (k : Nat) => l.length - k) (0) (by simp <;> rfl) ?_ ?_ ?_
 ·simp
 ·simp [qN]
 rintro k ⟨hk, hh⟩;simp only [List.cons_append, List.nil_append];refine aY fun _ _ Z=>?_;simp (disch:=omega);and_intros<;>(try omega);apply Z;apply aE;refine zi ?_;refine ⟨fun c1=>?_,fun c1=>?_⟩
 ·try simp at c1
  apply aG;apply aB;apply aE;apply aM;refine aY fun _ _ Z=>?_;simp (disch:=omega);and_intros<;>(try omega);apply Z;refine aY fun _ _ Z=>?_;simp (disch:=omega);and_intros<;>(try omega);apply Z;refine zi ?_;refine ⟨fun c2=>?_,fun c2=>?_⟩
  ·try simp at c2
   refine aY fun _ _ Z=>?_;simp (disch:=omega);and_intros<;>(try omega);apply Z;apply aC;apply aR;apply aH;apply eM;apply aR;apply aH;simp [aK];exact wG c1 c2
  ·try simp at c2
   apply aG;apply aQ;apply aB;refine uP fun _ _ Z=>?_;simp (disch:=omega);and_intros<;>(try omega);apply Z;refine bB (k + 1) ?_ ?_ (aV rfl ?_ (by simp) (by simp))
   ·exact ⟨by omega, by rw [cY l k (by omega), Es, hh]; simp [*]⟩
   ·try dsimp only
    omega
   ·simp (disch:=omega)
 ·try simp at c1
  apply bO;apply bM;apply bN;apply bG;apply aB;refine aY fun _ _ Z=>?_;simp (disch:=omega);and_intros<;>(try omega);apply Z;apply aC;simp [aK];rw [List.take_of_length_le (by omega)] at hh; exact hh
theorem Ve (l : Ls) (c : ByteArray) (σ : List (List D)) (hl : l.length ≤ 1000000) : Ct Tryz.prog 103 [dl l, D.str c] σ (fun r σ' => r = dlo (jW l c) ∧ σ' = σ) := by
 refine zf (rs:=[.tmp 4]) Tryz.func103 Tryz.ntmps103 Tryz.results103 ?_;simp only [aN];refine zr ⟨[4,5,18,23],[],[],[],[]⟩ fun _ _ Z=>?_;simp (disch:=omega);and_intros<;>(try omega);apply Z;refine zr ⟨[4,5,18,23],[],[],[],[]⟩ fun _ _ Z=>?_;simp (disch:=omega);and_intros<;>(try omega);apply Z;apply aE;refine zr ⟨[4,5,18,23],[],[],[],[]⟩ fun _ _ Z=>?_;simp (disch:=omega);and_intros<;>(try omega);apply Z;apply aM;refine zk [1,4,5,9,10,11] ?_;refine bV (fun (k : Nat) => [(11, .d (.int k)), (5, .d (dlo (jW (l.take k) c)))]) [5, 7, 11, 12, 13, 14, 15, 16, 17, 18, 19, 20, 21, 22] (fun (k : Nat) => k ≤ l.length) (fun (k : Nat) => l.length - k) (0) (by simp <;> rfl) ?_ ?_ ?_
 ·simp [jW]
 ·simp
 rintro k hk;simp only [List.cons_append, List.nil_append];have hcl := yH (l.take k) c;simp only [List.length_take] at hcl;refine zr ⟨[4,5,18,23],[],[],[],[]⟩ fun _ _ Z=>?_;simp (disch:=omega);and_intros<;>(try omega);apply Z;apply aE;refine zi ?_;refine ⟨fun c1=>?_,fun c1=>?_⟩
 ·try simp at c1
  apply aG;apply aB;apply aE;apply aM;refine zr ⟨[4,5,18,23],[],[],[],[]⟩ fun _ _ Z=>?_;simp (disch:=omega);and_intros<;>(try omega);apply Z;refine zr ⟨[4,5,18,23],[],[],[],[]⟩ fun _ _ Z=>?_;simp (disch:=omega);and_intros<;>(try omega);apply Z;refine zi ?_;refine ⟨fun c2=>?_,fun c2=>?_⟩
  ·try simp at c2
   refine zk [1,4,5,7,9,10,11] ?_;refine zt ⟨[4,5,18,23],[],[],[],[]⟩ fun _ _ Z=>?_;simp (disch:=omega);and_intros<;>(try omega);apply Z;apply aQ;apply aB;refine zk [1,4,5,9,10,11] ?_;refine zt ⟨[4,5,18,23],[],[],[],[]⟩ fun _ _ Z=>?_;simp (disch:=omega);and_intros<;>(try omega);apply Z;refine bB (k + 1) ?_ ?_ (aV rfl ?_ (by simp) (by simp))
   ·omega
   ·try dsimp only
    omega
   ·simp (disch:=omega)[vW,c2]
  ·try simp at c2
   apply aG;apply aQ;apply aB;refine zk [1,4,5,9,10,11] ?_;refine zt ⟨[4,5,18,23],[],[],[],[]⟩ fun _ _ Z=>?_;simp (disch:=omega);and_intros<;>(try omega);apply Z;refine bB (k + 1) ?_ ?_ (aV rfl ?_ (by simp) (by simp))
   ·omega
   ·try dsimp only
    omega
   ·simp (disch:=omega)[vW,c2]
 ·try simp at c1
  apply bO;apply bM;apply bN;apply bG;apply aB;refine zr ⟨[4,5,18,23],[],[],[],[]⟩ fun _ _ Z=>?_;simp (disch:=omega);and_intros<;>(try omega);apply Z;apply aC;simp [aK];rw [List.take_of_length_le (by omega)]
theorem Ta (l : Ls) (c : ByteArray) (σ : List (List D)) (hl : l.length ≤ 9223372036854775807) : Ct Tryz.prog 163 [dl l, D.str c] σ (fun r σ' => r = .int (Gl c l) ∧ σ' = σ) := by
 refine zf (rs:=[.tmp 4]) Tryz.func163 Tryz.ntmps163 Tryz.results163 ?_;simp only [aN];refine aY fun _ _ Z=>?_;simp (disch:=omega);and_intros<;>(try omega);apply Z;apply aE;refine aY fun _ _ Z=>?_;simp (disch:=omega);and_intros<;>(try omega);apply Z;apply aM;refine zk [0,1,4,7,8] ?_;refine bV (fun (k : Nat) => [(8, .d (.int k))]) [4, 5, 8, 9, 10, 11, 12, 13, 14, 15, 16, 17, 18] (fun (k : Nat) => k ≤ l.length ∧ qN c (l.take k) = false) (fun (k : Nat) => l.length - k) (0) (by simp <;> rfl) ?_ ?_ ?_
 ·simp
 ·simp [qN]
 rintro k ⟨hk, hh⟩;simp only [List.cons_append, List.nil_append];refine aY fun _ _ Z=>?_;simp (disch:=omega);and_intros<;>(try omega);apply Z;apply aE;refine zi ?_;refine ⟨fun c1=>?_,fun c1=>?_⟩
 ·try simp at c1
  apply aG;apply aB;apply aE;apply aM;refine aY fun _ _ Z=>?_;simp (disch:=omega);and_intros<;>(try omega);apply Z;refine aY fun _ _ Z=>?_;simp (disch:=omega);and_intros<;>(try omega);apply Z;refine zi ?_;refine ⟨fun c2=>?_,fun c2=>?_⟩
  ·try simp at c2
   refine zk [0,1,5,7,8] ?_;refine aY fun _ _ Z=>?_;simp (disch:=omega);and_intros<;>(try omega);apply Z;apply aC;apply aR;apply aH;apply eM;apply aR;apply aH;simp [aK];exact (Yw c1 hh c2).symm
  ·try simp at c2
   apply aG;apply aQ;apply aB;refine zk [0,1,7,8] ?_;refine uP fun _ _ Z=>?_;simp (disch:=omega);and_intros<;>(try omega);apply Z;refine bB (k + 1) ?_ ?_ (aV rfl ?_ (by simp) (by simp))
   ·exact ⟨by omega, by rw [cY l k (by omega), Es, hh]; simp; exact fun e => c2 e.symm⟩
   ·try dsimp only
    omega
   ·simp (disch:=omega)
 ·try simp at c1
  apply bO;apply bM;apply bN;apply bG;apply aB;refine aY fun _ _ Z=>?_;simp (disch:=omega);and_intros<;>(try omega);apply Z;apply aC;simp [aK];rw [List.take_of_length_le (by omega)] at hh; exact (On hh).symm
theorem Eg (l : Ls) (c : ByteArray) (σ : List (List D)) (hl : l.length ≤ 9223372036854775807) : Ct Tryz.prog 147 [dl l, D.str c] σ (fun r σ' => r = .bool (qN c l) ∧ σ' = σ) := by
 refine zf (rs:=[.tmp 4]) Tryz.func147 Tryz.ntmps147 Tryz.results147 ?_;simp only [aN];refine aY fun _ _ Z=>?_;simp;and_intros<;>(try omega);apply Z;refine aY fun _ _ Z=>?_;refine aA 2 fun _ Y=>?_;simp;and_intros<;>(try omega);apply Y;simp only [List.drop];refine aD fun _ Y=>?_;simp;refine bY (Ta _ _ _ hl) ?_;apply Y;simp;and_intros<;>(try omega);apply Z;apply aC;simp [aK, Vq]
theorem rW (l : Ls) (c : ByteArray) (σ : List (List D)) (hl : l.length ≤ 9223372036854775807) : Ct Tryz.prog 131 [dl l, D.str c] σ (fun r σ' => r = .bool (qN c l) ∧ σ' = σ) := by
 refine zf (rs:=[.tmp 4]) Tryz.func131 Tryz.ntmps131 Tryz.results131 ?_;simp only [aN];refine aY fun _ _ Z=>?_;simp;and_intros<;>(try omega);apply Z;refine aY fun _ _ Z=>?_;refine aA 2 fun _ Y=>?_;simp;and_intros<;>(try omega);apply Y;simp only [List.drop];refine aD fun _ Y=>?_;simp;refine bY (Eg _ _ _ hl) ?_;apply Y;simp;and_intros<;>(try omega);apply Z;apply aC;simp[aK]
theorem xL (l : Ls) (σ : List (List D)) (hl : l.length ≤ 1000000) : Ct Tryz.prog 106 [dl l] σ (fun r σ' => r = dlo l ∧ σ' = σ) := by
 refine zf (rs:=[.tmp 2]) Tryz.func106 Tryz.ntmps106 Tryz.results106 ?_;simp only [aN];refine zr ⟨[2],[],[],[],[]⟩ fun _ _ Z=>?_;simp;and_intros<;>(try omega);apply Z;apply aE;refine zr ⟨[2],[],[],[],[]⟩ fun _ _ Z=>?_;refine aA 1 fun _ Y=>?_;simp;and_intros<;>(try omega);apply Y;simp only [List.drop];refine aD fun _ Y=>?_;simp;refine ⟨Y _ ?_, fun e1 => Y _ ?_⟩
 ·skip
  simp only [dE];apply Z;refine bQ (t := false) (by simp) (fun h => by cases h) (fun _ => ?_);apply aG;apply aB;refine zr ⟨[2],[],[],[],[]⟩ fun _ _ Z=>?_;simp;and_intros<;>(try omega);apply Z;apply aC;simp [aK]
 ·skip
  simp only [dE];apply Z;refine bQ (t := true) (by simp) (fun _ => ?_) (fun h => by cases h);refine zr ⟨[2],[],[],[],[]⟩ fun _ _ Z=>?_;simp;and_intros<;>(try omega);apply Z;apply aC;apply aH;simp [aK, e1]
theorem aC1 (l : Ls) (c : ByteArray) (σ : List (List D)) (hl : l.length ≤ 1000000) : Ct Tryz.prog 132 [dl l, D.str c] σ (fun r σ' => r = dlo (Mq l c) ∧ σ' = σ) := by
 refine zf (rs:=[.tmp 4]) Tryz.func132 Tryz.ntmps132 Tryz.results132 ?_;simp only [aN];refine zr ⟨[4,5,12,16],[],[],[],[]⟩ fun _ _ Z=>?_;simp;and_intros<;>(try omega);apply Z;refine zr ⟨[4,5,12,16],[],[],[],[]⟩ fun _ _ Z=>?_;refine aA 1 fun _ Y=>?_;simp;and_intros<;>(try omega);apply Y;simp only [List.drop];refine aD fun _ Y=>?_;simp;refine bY (xL _ _ hl) ?_;apply Y;simp;and_intros<;>(try omega);apply Z;apply aE;refine zr ⟨[4,5,12,16],[],[],[],[]⟩ fun _ _ Z=>?_;refine aA 2 fun _ Y=>?_;simp;and_intros<;>(try omega);apply Y;simp only [List.drop];refine aD fun _ Y=>?_;simp;refine bY (rW l _ _ (by omega)) ?_;apply Y;simp;and_intros<;>(try omega);apply Z;refine zi ?_;refine ⟨fun c1=>?_,fun c1=>?_⟩
 ·try simp at c1
  refine zt ⟨[4,5,12,16],[],[],[],[]⟩ fun _ _ Z=>?_;simp;and_intros<;>(try omega);apply Z;apply aB;refine zk [4,5] ?_;refine zr ⟨[4,5,12,16],[],[],[],[]⟩ fun _ _ Z=>?_;simp;and_intros<;>(try omega);apply Z;apply aC;simp [aK, Mq, c1]
 ·try simp at c1
  apply aG;apply aB;refine zr ⟨[4,5,12,16],[],[],[],[]⟩ fun _ _ Z=>?_;simp;and_intros<;>(try omega);apply Z;apply aC;simp [aK, Mq, c1]
theorem yA (l : Ls) (p : ByteArray → Bool) (f : FuncId) (caps : List D) (m cap : Nat) (rest : List D) (σ : List (List D)) (hl : l.length ≤ 9223372036854775807) (hσ : σ[m]? = some (l.map D.str ++ rest)) (hcp : ∀ d ∈ caps, d.plain = true) (hcs : caps.map D.strip = caps) (hp : ∀ x τ, Ct Tryz.prog f (D.str x :: caps) τ (fun r τ' => r = .bool (p x) ∧ τ' = τ)) : Ct Tryz.prog 170 [.slo m 0 l.length cap, .clo (.func f) [] caps] σ (fun r σ' => r = .int (qE p l) ∧ σ' = σ) := by
 refine zf (rs:=[.tmp 4]) Tryz.func170 Tryz.ntmps170 Tryz.results170 ?_;simp only [aN];refine zr ⟨[],[],[],[7,14],[]⟩ fun _ _ Z=>?_;simp (disch:=omega)[hσ,hcs,aW];and_intros<;>(try omega);apply Z;apply aE;refine zr ⟨[],[],[],[7,14],[]⟩ fun _ _ Z=>?_;simp (disch:=omega)[hσ,hcs,aW];and_intros<;>(try omega);apply Z;apply aM;refine zk [0,1,4,7,8] ?_;refine bV (fun (k : Nat) => [(8, .d (.v (.int .i64 (k : Int))))]) [4, 5, 8, 9, 10, 11, 12, 13, 14, 15, 16, 17, 18] (fun (k : Nat) => k ≤ l.length ∧ ∀ x ∈ l.take k, p x = false) (fun (k : Nat) => l.length - k) (0) (by simp <;> rfl) ?_ ?_ ?_
 ·simp
 ·simp
 rintro k ⟨hk, hh⟩;simp only [List.cons_append, List.nil_append];refine zr ⟨[],[],[],[7,14],[]⟩ fun _ _ Z=>?_;simp (disch:=omega)[hσ,hcs,aW];and_intros<;>(try omega);apply Z;apply aE;refine zi ?_;refine ⟨fun c1=>?_,fun c1=>?_⟩
 ·try simp at c1
  apply aG;apply aB;apply aE;apply aM;refine zr ⟨[],[],[],[7,14],[]⟩ fun _ _ Z=>?_;simp (disch:=omega)[hσ,hcs,aW];and_intros<;>(try omega);apply Z;refine zr ⟨[],[],[],[7,14],[]⟩ fun _ _ Z=>?_;refine aA 5 fun _ Y=>?_;simp (disch:=omega)[hσ,hcs,aW];and_intros<;>(try omega);apply Y;simp only [List.drop];refine aD fun _ Y=>?_;simp (disch:=omega)[hσ,hcs,aW];refine ⟨hcp, ?_⟩;refine bY (hp l[k] _) ?_;apply Y;simp only [dE];apply Z;refine zi ?_;refine ⟨fun c2=>?_,fun c2=>?_⟩
  ·try simp at c2
   refine zk [0,1,5,7,8] ?_;refine zr ⟨[],[],[],[7,14],[]⟩ fun _ _ Z=>?_;simp (disch:=omega)[hσ,hcs,aW];and_intros<;>(try omega);apply Z;apply aC;apply aR;apply aH;apply eM;apply aR;apply aH;simp [aK];exact (uV c1 hh c2).symm
  ·try simp at c2
   apply aG;apply aQ;apply aB;refine zk [0,1,7,8] ?_;refine zt ⟨[],[],[],[7,14],[]⟩ fun _ _ Z=>?_;simp (disch:=omega)[hσ,hcs,aW];and_intros<;>(try omega);apply Z;refine bB (k + 1) ?_ ?_ (aV rfl ?_ (by simp) (by simp))
   ·exact ⟨by omega, lQ (by omega) hh c2⟩
   ·try dsimp only
    omega
   ·simp (disch:=omega)[hσ,hcs,aW]
 ·try simp at c1
  apply bO;apply bM;apply bN;apply bG;apply aB;refine zr ⟨[],[],[],[7,14],[]⟩ fun _ _ Z=>?_;simp (disch:=omega)[hσ,hcs,aW];and_intros<;>(try omega);apply Z;apply aC;simp [aK];rw [List.take_of_length_le (by omega)] at hh; exact (oZ hh).symm
theorem xQ (f : FuncId) (caps : List D) (σ : List (List D)) (hcp : ∀ d ∈ caps, d.plain = true) : Ct Tryz.prog 170 [.xl 0, .clo (.func f) [] caps] σ (fun r σ' => r = .int (-1) ∧ σ' = σ) := by
 refine zf (rs:=[.tmp 4]) Tryz.func170 Tryz.ntmps170 Tryz.results170 ?_;simp only [aN];refine zr ⟨[],[],[],[7],[]⟩ fun _ _ Z=>?_;simp;and_intros<;>(try omega);apply Z;apply aE;refine zr ⟨[],[],[],[7],[]⟩ fun _ _ Z=>?_;simp;and_intros<;>(try omega);apply Z;apply aM;refine zk [0,1,4,7,8] ?_;refine bV (fun (k : Nat) => [(8, .d (.int 0))]) [4, 5, 8, 9, 10, 11, 12, 13, 14, 15, 16, 17, 18] (fun (k : Nat) => k = 0) (fun (k : Nat) => 0) (0) (by simp <;> rfl) ?_ ?_ ?_
 ·simp
 ·rfl
 rintro k hk;simp only [List.cons_append, List.nil_append];refine zr ⟨[],[],[],[7],[]⟩ fun _ _ Z=>?_;simp;and_intros<;>(try omega);apply Z;apply aE;refine zi ?_;refine ⟨fun c1=>?_,fun c1=>?_⟩
 ·simp at c1
 ·try simp at c1
  apply bO;apply bM;apply bN;apply bG;apply aB;refine zr ⟨[],[],[],[7],[]⟩ fun _ _ Z=>?_;simp;and_intros<;>(try omega);apply Z;apply aC;simp [aK]
theorem Ds (p : ByteArray → Bool) (l k : Ls) (rest : List D) : List.take k.length ((k ++ l).map D.str ++ rest) = k.map D.str := by
 rw [List.map_append, List.append_assoc, List.take_append_of_le_length (by simp)];rw [List.take_of_length_le (by simp)]
theorem vY (l : Ls) (p : ByteArray → Bool) (f : FuncId) (caps : List D) (σ : List (List D)) (hl : l.length ≤ 1000000) (hne : l ≠ []) (hcp : ∀ d ∈ caps, d.plain = true) (hcs : caps.map D.strip = caps) (hp : ∀ x τ, Ct Tryz.prog f (D.str x :: caps) τ (fun r τ' => r = .bool (p x) ∧ τ' = τ)) : Ct Tryz.prog 164 [.xs 1 (l.map D.str), .clo (.func f) [] caps] σ (fun r σ' => r = .xs 1 ((l.filter fun x => !p x).map D.str) ∧ σ' = σ ++ [[]]) := by
 refine zf (rs:=[.tmp 4]) Tryz.func164 Tryz.ntmps164 Tryz.results164 ?_;simp only [aN];refine jJ 0 1 rfl (by decide) fun cap rest hcap hcm hrest hk0 hes => ?_;simp only [List.length_map] at hcap hrest ⊢;rw [dZ (f := D.str) (fun _ => rfl)];refine zr ⟨[4,13],[],[],[18,24,33,38,41],[]⟩ fun _ _ Z=>?_;simp (disch:=first|omega|assumption)[hcs,aW,cH];and_intros<;>try first|omega|exact rfl
 apply Z;refine zr ⟨[4,13],[],[],[18,24,33,38,41],[]⟩ fun _ _ Z=>?_;refine aA 2 fun _ Y=>?_;simp (disch:=first|omega|assumption)[hcs,aW,cH];and_intros<;>try first|omega|exact rfl
 apply Y;simp only [List.drop];refine aD fun _ Y=>?_;simp (disch:=first|omega|assumption)[hcs,aW,cH];refine bY (yA l p f caps σ.length cap rest _ (by omega) (by simp) hcp hcs hp) ?_;apply Y;simp (disch:=first|omega|assumption)[hcs,aW,cH];and_intros<;>try first|omega|exact rfl
 apply Z;apply aE;refine zr ⟨[4,13],[],[],[18,24,33,38,41],[]⟩ fun _ _ Z=>?_;simp (disch:=first|omega|assumption)[hcs,aW,cH];and_intros<;>try first|omega|exact rfl
 apply Z;refine zi ?_;refine ⟨fun c1=>?_,fun c1=>?_⟩
 ·try simp at c1
  refine zr ⟨[4,13],[],[],[18,24,33,38,41],[]⟩ fun _ _ Z=>?_;simp (disch:=first|omega|assumption)[hcs,aW,cH];and_intros<;>try first|omega|exact rfl
  apply Z;refine dC 4 1 σ.length l.length cap (l.map D.str) (l.map D.str ++ rest) (by simp <;> rfl) (by simp) (by omega) (by simp [hrest]; omega) (by simp) (by simp) (by rw [dZ (fun _ => rfl)]; exact List.prefix_append _ _) ?_;simp only [iY];apply aC;apply aH;simp [aK];rcases mE p l with ⟨_, h⟩ | ⟨k, h, _⟩
  ·rw [h]
  ·omega
 ·try simp at c1
  obtain ⟨k0, e0, e1, e2, e3⟩ := rE c1;rw [e0];apply aG;apply aB;apply aE;refine zr ⟨[4,13],[],[],[18,24,33,38,41],[]⟩ fun _ _ Z=>?_;simp (disch:=first|omega|assumption)[hcs,aW,cH];and_intros<;>try first|omega|exact rfl
  apply Z;apply aM;refine zk [0,1,4,5,6] ?_;refine lZ (fun (j : Nat) => [(5, .d (.v (.int .i64 ((kp p l j).length : Int)))), (6, .d (.v (.int .i64 (j : Int))))]) (fun (j : Nat) => []) (fun (j : Nat) => [(σ.length, (ar p l j).map D.str ++ rest)]) [5, 6, 7, 16, 17, 18, 19, 20, 21, 22, 23, 24, 25, 26, 27, 28, 29, 30, 31, 32, 33, 34, 35] (fun (j : Nat) => j ≤ l.length) (fun (j : Nat) => l.length - j) (k0 + 1) (by simp <;> rfl) ?_ (by simp) (by simp [e1]) ?_ ?_
  ·simp [e1, e2]
  ·omega
  rintro j hj;simp only [List.cons_append, List.nil_append, lX, kI, List.set_cons_zero, List.set_cons_succ];have hkl := zP p l j hj;have hal := wR p l j;apply aE;refine zr ⟨[4,13],[],[],[18,24,33,38,41],[]⟩ fun _ _ Z=>?_;simp (disch:=first|omega|assumption)[hcs,aW,cH];and_intros<;>try first|omega|exact rfl
  apply Z;refine zi ?_;refine ⟨fun c2=>?_,fun c2=>?_⟩
  ·try simp at c2
   apply aG;apply aB;apply aE;apply aM;refine zr ⟨[4,13],[],[],[18,24,33,38,41],[]⟩ fun _ _ Z=>?_;simp (disch:=first|omega|assumption)[hcs,aW,cH];and_intros<;>try first|omega|exact rfl
   apply Z;refine zk [0,1,4,5,6,7] ?_;refine zr ⟨[4,13],[],[],[18,24,33,38,41],[]⟩ fun _ _ Z=>?_;refine aA 2 fun _ Y=>?_;simp (disch:=first|omega|assumption)[hcs,aW,cH];and_intros<;>try first|omega|exact rfl
   apply Y;simp only [List.drop];refine aD fun _ Y=>?_;simp (disch:=first|omega|assumption)[hcs,aW,cH];simp only [Jq p l j (by omega)];refine ⟨hcp, ?_⟩;refine bY (hp l[j] _) ?_;apply Y;simp (disch:=first|omega|assumption)[hcs,aW,cH];and_intros<;>try first|omega|exact rfl
   apply Z;refine zi ?_;refine ⟨fun c3=>?_,fun c3=>?_⟩
   ·try simp at c3
    refine zr ⟨[4,13],[],[],[18,24,33,38,41],[]⟩ fun _ _ Z=>?_;simp (disch:=first|omega|assumption)[hcs,aW,cH];and_intros<;>try first|omega|exact rfl
    apply Z;refine zk [0,1,4,5,6] ?_;refine zt ⟨[4,13],[],[],[18,24,33,38,41],[]⟩ fun _ _ Z=>?_;simp (disch:=first|omega|assumption)[hcs,aW,cH];and_intros<;>try first|omega|exact rfl
    apply Z;apply aQ;apply aB;refine zt ⟨[4,13],[],[],[18,24,33,38,41],[]⟩ fun _ _ Z=>?_;simp (disch:=first|omega|assumption)[hcs,aW,cH];and_intros<;>try first|omega|exact rfl
    apply Z;refine bB (j + 1) ?_ ?_ (aV rfl ?_ (by simp) (by rw [← (pR p l j (by omega) c3).1]; simp (disch := omega) [Dg, hal]))
    ·omega
    ·try dsimp only
     omega
    ·simp (disch:=first|omega|assumption)[hcs,aW,cH,(pR p l j (by omega) c3).2]
   ·try simp at c3
    apply aG;apply aQ;apply aB;refine zt ⟨[4,13],[],[],[18,24,33,38,41],[]⟩ fun _ _ Z=>?_;simp (disch:=first|omega|assumption)[hcs,aW,cH];and_intros<;>try first|omega|exact rfl
    apply Z;refine bB (j + 1) ?_ ?_ (aV rfl ?_ (by simp) (by simp [(mQ p l j (by omega) c3).1]))
    ·omega
    ·try dsimp only
     omega
    ·simp (disch:=first|omega|assumption)[hcs,aW,cH,(mQ p l j (by omega) c3).2]
  ·try simp at c2
   apply bO;apply bM;apply bN;apply bG;apply aB;refine zr ⟨[4,13],[],[],[18,24,33,38,41],[]⟩ fun _ _ Z=>?_;simp (disch:=first|omega|assumption)[hcs,aW,cH];and_intros<;>try first|omega|exact rfl
   apply Z;refine zk [0,4,5] ?_;refine zr ⟨[4,13],[],[],[18,24,33,38,41],[]⟩ fun _ _ Z=>?_;simp (disch:=first|omega|assumption)[hcs,aW,cH];and_intros<;>try first|omega|exact rfl
   apply Z;refine dC 4 1 σ.length (kp p l j).length cap ((kp p l j).map D.str) ((kp p l j).map D.str ++ (eL #[.string ⟨#[]⟩] (l.length - (kp p l j).length) ++ rest)) (by simp <;> rfl) (by rw [show List.map D.str (kp p l j) = List.take (kp p l j).length (List.map D.str (ar p l j) ++ rest) from (Ds p _ _ rest).symm]; simp [eC (z := #[.string ⟨#[]⟩]) (k := 1) rfl, show (kp p l j).length + (l.length - (kp p l j).length) = l.length by omega, Cn D.str (ar p l j) rest l.length hal.symm]) (by omega) (by simp [hrest, eC (z := #[.string ⟨#[]⟩]) (k := 1) rfl]; omega) (by simp) (by simp) (by rw [dZ (fun _ => rfl)]; exact List.prefix_append _ _) ?_;simp only [iY];apply aC;simp [aK];unfold kp; rw [List.take_of_length_le (by omega)]
theorem xF (f : FuncId) (caps : List D) (σ : List (List D)) (hcp : ∀ d ∈ caps, d.plain = true) : Ct Tryz.prog 164 [.xs 1 [], .clo (.func f) [] caps] σ (fun r σ' => r = .xs 1 [] ∧ σ' = σ) := by
 refine zf (rs:=[.tmp 4]) Tryz.func164 Tryz.ntmps164 Tryz.results164 ?_;simp only [aN];refine zr ⟨[4,13],[],[],[],[]⟩ fun _ _ Z=>?_;simp;and_intros<;>(try omega);apply Z;refine zr ⟨[4,13],[],[],[],[]⟩ fun _ _ Z=>?_;refine aA 2 fun _ Y=>?_;simp;and_intros<;>(try omega);apply Y;simp only [List.drop];refine aD fun _ Y=>?_;simp;refine bY (xQ f caps _ hcp) ?_;apply Y;simp;and_intros<;>(try omega);apply Z;apply aE;refine zr ⟨[4,13],[],[],[],[]⟩ fun _ _ Z=>?_;simp;and_intros<;>(try omega);apply Z;refine zi ?_;refine ⟨fun c1=>?_,fun c1=>?_⟩
 ·try simp at c1
  refine zr ⟨[4,13],[],[],[],[]⟩ fun _ _ Z=>?_;simp;and_intros<;>(try omega);apply Z;apply aC;apply aH;simp[aK]
 ·simp at c1
theorem Zw (N : Nat) (l : Ls) : Sc N (.xs 1 (l.map D.str)) := Sc.xs fun d hd e he => by
 obtain ⟨a, _, rfl⟩ := List.mem_map.1 hd;simp [D.cells] at he;subst he;exact Sc.v _
theorem xW (l : Ls) (p : ByteArray → Bool) (f : FuncId) (caps : List D) (σ : List (List D)) (hl : l.length ≤ 1000000) (hcp : ∀ d ∈ caps, d.plain = true) (hcs : caps.map D.strip = caps) (hp : ∀ x τ, Ct Tryz.prog f (D.str x :: caps) τ (fun r τ' => r = .bool (p x) ∧ τ' = τ)) :
  Ct Tryz.prog 164 [.xs 1 (l.map D.str), .clo (.func f) [] caps] σ (fun r σ' => r = .xs 1 ((l.filter fun x => !p x).map D.str) ∧ σ' = σ) := by
 by_cases hne : l = []
 ·subst hne; exact xF f caps σ hcp
 ·exact (vY l p f caps σ hl hne hcp hcs hp).trim fun r σ' ⟨hr, hs⟩ => ⟨σ, [[]], hs, rfl, by rw [hr]; exact Zw _ _, fun n cs h => .inl h, hr, rfl⟩
theorem Hw (l : Ls) (σ : List (List D)) (hl : l.length ≤ 1000000) : Ct Tryz.prog 106 [dl l] σ (fun r σ' => rV 1 (l.map D.str) r ∧ σ' = σ) := by
 refine zf (rs:=[.tmp 2]) Tryz.func106 Tryz.ntmps106 Tryz.results106 ?_;simp only [aN];refine zr ⟨[2],[],[],[7],[]⟩ fun _ _ Z=>?_;simp (disch:=first|omega|assumption);and_intros<;>try first|omega|exact rfl
 apply Z;apply aE;refine zr ⟨[2],[],[],[7],[]⟩ fun _ _ Z=>?_;refine aA 1 fun _ Y=>?_;simp (disch:=first|omega|assumption);and_intros<;>try first|omega|exact rfl
 apply Y;simp only [List.drop];refine aD fun _ Y=>?_;simp (disch:=first|omega|assumption);refine ⟨Y _ ?_, fun e1 => Y _ ?_⟩
 ·skip
  simp only [dE];apply Z;refine bQ (t := false) (by simp) (fun h => by cases h) (fun _ => ?_);apply aG;apply aB;refine zr ⟨[2],[],[],[7],[]⟩ fun _ _ Z=>?_;simp (disch:=first|omega|assumption);and_intros<;>try first|omega|exact rfl
  apply Z;apply aC;simp [aK, rV]
 ·skip
  simp only [dE];apply Z;refine bQ (t := true) (by simp) (fun _ => ?_) (fun h => by cases h);refine zr ⟨[2],[],[],[7],[]⟩ fun _ _ Z=>?_;simp (disch:=first|omega|assumption);and_intros<;>try first|omega|exact rfl
  apply Z;apply aC;apply aH;simp [aK, rV, e1]
theorem Nc (l : Ls) (σ : List (List D)) (hl : l.length ≤ 1000000) : Ct Tryz.prog 106 [dl l] σ (fun r σ' => r = .xs 1 (l.map D.str) ∧ σ' = σ) := (Hw l σ hl).toX fun _ _ h => h
theorem Gq (l : Ls) (p : ByteArray → Bool) (f : FuncId) (caps : List D) (σ : List (List D)) (hl : l.length ≤ 1000000) (hcp : ∀ d ∈ caps, d.plain = true) (hcs : caps.map D.strip = caps) (hp : ∀ x τ, Ct Tryz.prog f (D.str x :: caps) τ (fun r τ' => r = .bool (p x) ∧ τ' = τ)) : Ct Tryz.prog 148 [dl l, .clo (.func f) [] caps] σ (fun r σ' => r = .xs 1 ((l.filter fun x => !p x).map D.str) ∧ σ' = σ) := by
 refine zf (rs:=[.tmp 4]) Tryz.func148 Tryz.ntmps148 Tryz.results148 ?_;simp only [aN];refine zr ⟨[4,7,8],[],[],[],[]⟩ fun _ _ Z=>?_;simp;and_intros<;>(try omega);apply Z;refine zr ⟨[4,7,8],[],[],[],[]⟩ fun _ _ Z=>?_;refine aA 1 fun _ Y=>?_;simp;and_intros<;>(try omega);apply Y;simp only [List.drop];refine aD fun _ Y=>?_;simp;refine bY (Nc l _ hl) ?_;apply Y;refine aA 1 fun _ Y=>?_;simp;and_intros<;>(try omega);apply Y;simp only [List.drop];refine aD fun _ Y=>?_;simp;refine bY (xW l p f caps _ hl hcp hcs hp) ?_;apply Y;simp;and_intros<;>(try omega);apply Z;apply aC;simp[aK]
theorem Sy (x c : ByteArray) (σ : List (List D))  : Ct Tryz.prog 149 [D.str x, .adr [D.str c]] σ (fun r σ' => r = .bool (decide (x = c)) ∧ σ' = σ) := by
 refine zf (rs:=[.tmp 3]) Tryz.func149 Tryz.ntmps149 Tryz.results149 ?_;simp only [aN];refine aY fun _ _ Z=>?_;simp;and_intros<;>(try omega);apply Z;refine aY fun _ _ Z=>?_;simp;and_intros<;>(try omega);apply Z;apply aC;simp[aK]
theorem Pm (l : Ls) (c : ByteArray) (σ : List (List D)) (hl : l.length ≤ 1000000) : Ct Tryz.prog 133 [dl l, D.str c] σ (fun r σ' => r = .xs 1 ((jW l c).map D.str) ∧ σ' = σ) := by
 refine zf (rs:=[.tmp 4]) Tryz.func133 Tryz.ntmps133 Tryz.results133 ?_;simp only [aN];refine zr ⟨[4],[3],[],[],[]⟩ fun _ _ Z=>?_;simp;and_intros<;>(try omega);apply Z;refine zr ⟨[4],[3],[],[],[]⟩ fun _ _ Z=>?_;refine aA 2 fun _ Y=>?_;simp;and_intros<;>(try omega);apply Y;simp only [List.drop];refine aD fun _ Y=>?_;simp;refine bY (Gq l (fun x => decide (x = c)) 149 [.adr [D.str c]] _ hl (by simp) (by simp) (fun x τ => Sy x c τ)) ?_;apply Y;simp;and_intros<;>(try omega);apply Z;apply aC;simp [aK, jW]
theorem Vw (l : Ls) (c : ByteArray) (σ : List (List D)) (hl : l.length ≤ 1000000) : Ct Tryz.prog 133 [dl l, D.str c] σ (fun r σ' => r = dl (jW l c) ∧ σ' = σ) := (Pm l c σ hl).freeze fun _ _ h => h
end Go.Proofs.YtpfmpeaekgdgnaaGreat

