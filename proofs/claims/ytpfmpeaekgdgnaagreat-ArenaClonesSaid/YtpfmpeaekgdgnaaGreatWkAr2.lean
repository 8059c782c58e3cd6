import Derived.Test.YtpfmpeaekgdgnaaGreatWkAr1
import Derived.Test.YtpfmpeaekgdgnaaGreatVmX6
namespace Go.Proofs.YtpfmpeaekgdgnaaGreat
open Go Go.Vm
set_option maxRecDepth 20000
set_option linter.all false
set_option maxHeartbeats 8000000
abbrev Ls := List ByteArray
@[simp] abbrev dl (l : Ls) : D := .sl false (l.map D.str)
@[simp] abbrev dlo (l : Ls) : D := .sl true (l.map D.str)
def qO (c : ByteArray) (l : Ls) : Bool := l.any fun x => decide (x = c)
theorem Fe (c x : ByteArray) (l : Ls) : qO c (l ++ [x]) = (qO c l || decide (x = c)) := by simp [qO]
theorem wW {c : ByteArray} {l : Ls} {k : Nat} (h : k < l.length) (e : l[k] = c) : qO c l = true := by
 simp only [qO, List.any_eq_true, decide_eq_true_eq];exact ⟨l[k], List.getElem_mem h, e⟩
def Og (l : Ls) (c : ByteArray) : Ls := if qO c l then l else l ++ [c]
def Hl (c : ByteArray) (l : Ls) : Int := match l.findIdx? (fun x => decide (x = c)) with | some k => k | none => -1
theorem Wv {c : ByteArray} {l : Ls} {k : Nat} (h : k < l.length) (hh : qO c (l.take k) = false) (e : c = l[k]) : Hl c l = k := by
 have : l.findIdx? (fun x => decide (x = c)) = some k := by
  rw [List.findIdx?_eq_some_iff_getElem];refine ⟨h, by simp [e], fun j hj => ?_⟩;simp only [qO, List.any_eq_false, decide_eq_true_eq] at hh;have := hh ((l.take k)[j]'(by simp; omega)) (List.getElem_mem _);simpa using this
 simp [Hl, this]
theorem Ox {c : ByteArray} {l : Ls} (h : qO c l = false) : Hl c l = -1 := by
 have : l.findIdx? (fun x => decide (x = c)) = none := by
  rw [List.findIdx?_eq_none_iff];simpa [qO] using h
 simp [Hl, this]
theorem Sv (c : ByteArray) (l : Ls) : (0 ≤ Hl c l) ↔ qO c l = true := by
 unfold Hl;split
 ·rename_i k h;rw [List.findIdx?_eq_some_iff_getElem] at h;obtain ⟨hk, he, _⟩ := h;simp only [decide_eq_true_eq] at he;simp [wW hk he]
 ·rename_i h;rw [List.findIdx?_eq_none_iff] at h;simp [qO];intro e; have := h c e; simp at this
def jR (l : Ls) (c : ByteArray) : Ls := l.filter fun x => !decide (x = c)
theorem Gd (l : Ls) (x c : ByteArray) : jR (l ++ [x]) c = jR l c ++ if x = c then [] else [x] := by
 simp [jR, List.filter_append, List.filter_cons]
theorem wM (l : Ls) (c : ByteArray) (k : Nat) (h : k < l.length) : jR (l.take (k + 1)) c = jR (l.take k) c ++ if l[k] = c then [] else [l[k]] := by rw [cV l k h, Gd]
theorem Ag (l : Ls) (c : ByteArray) : (jR l c).length ≤ l.length := List.length_filter_le _ _
theorem Jk (l : Ls) (c : ByteArray) (σ : List (List D)) (hl : l.length ≤ 9223372036854775807) : Ct Tryz.prog 102 [dl l, D.str c] σ (fun r σ' => r = .bool (qO c l) ∧ σ' = σ) := by
 refine zf (rs:=[.tmp 4]) Tryz.func102 Tryz.ntmps102 Tryz.results102 ?_;simp only [aQ];refine aZ fun _ _ Z=>?_;simp (disch:=omega);and_intros<;>(try omega);apply Z;apply aD;refine aZ fun _ _ Z=>?_;simp (disch:=omega);and_intros<;>(try omega);apply Z;apply aK;refine zk [1,4,7,8,9] ?_;refine bR (fun (k : Nat) => [(9, .d (.int k))]) [4, 6, 9, 10, 11, 12, 13, 14, 15, 16] (fun (k : Nat) => k ≤ l.length ∧ qO c (l.take k) = false) (fun (k : Nat) => l.length - k) (0) (by simp <;> rfl) ?_ ?_ ?_
 ·simp
 ·simp [qO]
 rintro k ⟨hk, hh⟩;simp only [List.cons_append, List.nil_append];refine aZ fun _ _ Z=>?_;simp (disch:=omega);and_intros<;>(try omega);apply Z;apply aD;refine zi ?_;refine ⟨fun c1=>?_,fun c1=>?_⟩
 ·try simp at c1
  apply aG;apply aB;apply aD;apply aK;refine aZ fun _ _ Z=>?_;simp (disch:=omega);and_intros<;>(try omega);apply Z;refine aZ fun _ _ Z=>?_;simp (disch:=omega);and_intros<;>(try omega);apply Z;refine zi ?_;refine ⟨fun c2=>?_,fun c2=>?_⟩
  ·try simp at c2
   refine aZ fun _ _ Z=>?_;simp (disch:=omega);and_intros<;>(try omega);apply Z;apply aC;apply aU;apply aJ;apply eJ;apply aU;apply aJ;simp [aM];exact wW c1 c2
  ·try simp at c2
   apply aG;apply aP;apply aB;refine uM fun _ _ Z=>?_;simp (disch:=omega);and_intros<;>(try omega);apply Z;refine bB (k + 1) ?_ ?_ (aW rfl ?_ (by simp) (by simp))
   ·exact ⟨by omega, by rw [cV l k (by omega), Fe, hh]; simp [*]⟩
   ·try dsimp only
    omega
   ·simp (disch:=omega)
 ·try simp at c1
  apply bN;apply bP;apply bO;apply bG;apply aB;refine aZ fun _ _ Z=>?_;simp (disch:=omega);and_intros<;>(try omega);apply Z;apply aC;simp [aM];rw [List.take_of_length_le (by omega)] at hh; exact hh
theorem Zd (a b : Ls) (σ : List (List D)) (ha : a.length ≤ 9223372036854775807) (hb : b.length ≤ 9223372036854775807) : Ct Tryz.prog 104 [dl a, dl b] σ (fun r σ' => r = .bool (decide (a = b)) ∧ σ' = σ) := by
 refine zf (rs:=[.tmp 4]) Tryz.func104 Tryz.ntmps104 Tryz.results104 ?_;simp only [aQ];refine aZ fun _ _ Z=>?_;simp (disch:=omega);and_intros<;>(try omega);apply Z;apply aD;refine aZ fun _ _ Z=>?_;simp (disch:=omega);and_intros<;>(try omega);apply Z;refine zi ?_;refine ⟨fun c1=>?_,fun c1=>?_⟩
 ·try simp at c1
  refine aZ fun _ _ Z=>?_;simp (disch:=omega);and_intros<;>(try omega);apply Z;apply aC;apply aJ;simp [aM];intro e; subst e; exact absurd rfl c1
 ·try simp at c1
  apply aG;apply aB;apply aD;refine aZ fun _ _ Z=>?_;simp (disch:=omega);and_intros<;>(try omega);apply Z;apply aK;refine zk [0,1,4,12,13] ?_;refine bR (fun (k : Nat) => [(13, .d (.int k))]) [4, 5, 13, 14, 15, 16, 17, 18, 19, 20, 21, 22, 23, 24, 25] (fun (k : Nat) => k ≤ a.length ∧ a.take k = b.take k) (fun (k : Nat) => a.length - k) (0) (by simp <;> rfl) ?_ ?_ ?_
  ·simp
  ·simp
  rintro k ⟨hk, hh⟩;simp only [List.cons_append, List.nil_append];refine aZ fun _ _ Z=>?_;simp (disch:=omega);and_intros<;>(try omega);apply Z;apply aD;refine zi ?_;refine ⟨fun c2=>?_,fun c2=>?_⟩
  ·try simp at c2
   apply aG;apply aB;apply aD;apply aK;refine aZ fun _ _ Z=>?_;simp (disch:=omega);and_intros<;>(try omega);apply Z;refine zd ⟨[],[],[],[],[]⟩ [.op {},.op {},.op {},.op {},.op {},.op {},.op {},.op {},.op {}] fun all hall _ Z=>?_;refine aO 8 (by simp) fun _ Y=>?_;simp (disch:=omega);and_intros<;>(try omega);apply Y;simp only [List.drop];simp (disch:=omega);and_intros<;>(try omega);apply Z;refine zi ?_;refine ⟨fun c3=>?_,fun c3=>?_⟩
   ·try simp at c3
    refine zk [0,1,12,13] ?_;refine aZ fun _ _ Z=>?_;simp (disch:=omega);and_intros<;>(try omega);apply Z;apply aC;apply aU;apply aJ;apply eJ;apply aU;apply aJ;simp [aM];intro e; subst e; exact c3 rfl
   ·try simp at c3
    apply aG;apply aP;apply aB;refine zk [0,1,12,13] ?_;refine uM fun _ _ Z=>?_;simp (disch:=omega);and_intros<;>(try omega);apply Z;refine bB (k + 1) ?_ ?_ (aW rfl ?_ (by simp) (by simp))
    ·exact ⟨by omega, by rw [cV a k (by omega), cV b k (by omega), hh]; simp [*]⟩
    ·try dsimp only
     omega
    ·simp (disch:=omega)
  ·try simp at c2
   apply bN;apply bP;apply bO;apply bG;apply aB;refine aZ fun _ _ Z=>?_;simp (disch:=omega);and_intros<;>(try omega);apply Z;apply aC;simp [aM]
   rwa [List.take_of_length_le (by omega), List.take_of_length_le (by omega)] at hh
theorem Sy (l : Ls) (c : ByteArray) (σ : List (List D)) (hl : l.length ≤ 1000000) : Ct Tryz.prog 103 [dl l, D.str c] σ (fun r σ' => r = dlo (jR l c) ∧ σ' = σ) := by
 refine zf (rs:=[.tmp 4]) Tryz.func103 Tryz.ntmps103 Tryz.results103 ?_;simp only [aQ];refine zr ⟨[4,5,18,23],[],[],[],[]⟩ fun _ _ Z=>?_;simp (disch:=omega);and_intros<;>(try omega);apply Z;refine zr ⟨[4,5,18,23],[],[],[],[]⟩ fun _ _ Z=>?_;simp (disch:=omega);and_intros<;>(try omega);apply Z;apply aD;refine zr ⟨[4,5,18,23],[],[],[],[]⟩ fun _ _ Z=>?_;simp (disch:=omega);and_intros<;>(try omega);apply Z;apply aK;refine zk [1,4,5,9,10,11] ?_;refine bR (fun (k : Nat) => [(11, .d (.int k)), (5, .d (dlo (jR (l.take k) c)))]) [5, 7, 11, 12, 13, 14, 15, 16, 17, 18, 19, 20, 21, 22] (fun (k : Nat) => k ≤ l.length) (fun (k : Nat) => l.length - k) (0) (by simp <;> rfl) ?_ ?_ ?_
 ·simp [jR]
 ·simp
 rintro k hk;simp only [List.cons_append, List.nil_append];have hcl := Ag (l.take k) c;simp only [List.length_take] at hcl;refine zr ⟨[4,5,18,23],[],[],[],[]⟩ fun _ _ Z=>?_;simp (disch:=omega);and_intros<;>(try omega);apply Z;apply aD;refine zi ?_;refine ⟨fun c1=>?_,fun c1=>?_⟩
 ·try simp at c1
  apply aG;apply aB;apply aD;apply aK;refine zr ⟨[4,5,18,23],[],[],[],[]⟩ fun _ _ Z=>?_;simp (disch:=omega);and_intros<;>(try omega);apply Z;refine zr ⟨[4,5,18,23],[],[],[],[]⟩ fun _ _ Z=>?_;simp (disch:=omega);and_intros<;>(try omega);apply Z;refine zi ?_;refine ⟨fun c2=>?_,fun c2=>?_⟩
  ·try simp at c2
   refine zk [1,4,5,7,9,10,11] ?_;refine zt ⟨[4,5,18,23],[],[],[],[]⟩ fun _ _ Z=>?_;simp (disch:=omega);and_intros<;>(try omega);apply Z;apply aP;apply aB;refine zk [1,4,5,9,10,11] ?_;refine zt ⟨[4,5,18,23],[],[],[],[]⟩ fun _ _ Z=>?_;simp (disch:=omega);and_intros<;>(try omega);apply Z;refine bB (k + 1) ?_ ?_ (aW rfl ?_ (by simp) (by simp))
   ·omega
   ·try dsimp only
    omega
   ·simp (disch:=omega)[wM,c2]
  ·try simp at c2
   apply aG;apply aP;apply aB;refine zk [1,4,5,9,10,11] ?_;refine zt ⟨[4,5,18,23],[],[],[],[]⟩ fun _ _ Z=>?_;simp (disch:=omega);and_intros<;>(try omega);apply Z;refine bB (k + 1) ?_ ?_ (aW rfl ?_ (by simp) (by simp))
   ·omega
   ·try dsimp only
    omega
   ·simp (disch:=omega)[wM,c2]
 ·try simp at c1
  apply bN;apply bP;apply bO;apply bG;apply aB;refine zr ⟨[4,5,18,23],[],[],[],[]⟩ fun _ _ Z=>?_;simp (disch:=omega);and_intros<;>(try omega);apply Z;apply aC;simp [aM];rw [List.take_of_length_le (by omega)]
theorem Sb (l : Ls) (c : ByteArray) (σ : List (List D)) (hl : l.length ≤ 9223372036854775807) : Ct Tryz.prog 163 [dl l, D.str c] σ (fun r σ' => r = .int (Hl c l) ∧ σ' = σ) := by
 refine zf (rs:=[.tmp 4]) Tryz.func163 Tryz.ntmps163 Tryz.results163 ?_;simp only [aQ];refine aZ fun _ _ Z=>?_;simp (disch:=omega);and_intros<;>(try omega);apply Z;apply aD;refine aZ fun _ _ Z=>?_;simp (disch:=omega);and_intros<;>(try omega);apply Z;apply aK;refine zk [0,1,4,7,8] ?_;refine bR (fun (k : Nat) => [(8, .d (.int k))]) [4, 5, 8, 9, 10, 11, 12, 13, 14, 15, 16, 17, 18] (fun (k : Nat) => k ≤ l.length ∧ qO c (l.take k) = false) (fun (k : Nat) => l.length - k) (0) (by simp <;> rfl) ?_ ?_ ?_
 ·simp
 ·simp [qO]
 rintro k ⟨hk, hh⟩;simp only [List.cons_append, List.nil_append];refine aZ fun _ _ Z=>?_;simp (disch:=omega);and_intros<;>(try omega);apply Z;apply aD;refine zi ?_;refine ⟨fun c1=>?_,fun c1=>?_⟩
 ·try simp at c1
  apply aG;apply aB;apply aD;apply aK;refine aZ fun _ _ Z=>?_;simp (disch:=omega);and_intros<;>(try omega);apply Z;refine aZ fun _ _ Z=>?_;simp (disch:=omega);and_intros<;>(try omega);apply Z;refine zi ?_;refine ⟨fun c2=>?_,fun c2=>?_⟩
  ·try simp at c2
   refine zk [0,1,5,7,8] ?_;refine aZ fun _ _ Z=>?_;simp (disch:=omega);and_intros<;>(try omega);apply Z;apply aC;apply aU;apply aJ;apply eJ;apply aU;apply aJ;simp [aM];exact (Wv c1 hh c2).symm
  ·try simp at c2
   apply aG;apply aP;apply aB;refine zk [0,1,7,8] ?_;refine uM fun _ _ Z=>?_;simp (disch:=omega);and_intros<;>(try omega);apply Z;refine bB (k + 1) ?_ ?_ (aW rfl ?_ (by simp) (by simp))
   ·exact ⟨by omega, by rw [cV l k (by omega), Fe, hh]; simp; exact fun e => c2 e.symm⟩
   ·try dsimp only
    omega
   ·simp (disch:=omega)
 ·try simp at c1
  apply bN;apply bP;apply bO;apply bG;apply aB;refine aZ fun _ _ Z=>?_;simp (disch:=omega);and_intros<;>(try omega);apply Z;apply aC;simp [aM];rw [List.take_of_length_le (by omega)] at hh; exact (Ox hh).symm
theorem Fu (l : Ls) (c : ByteArray) (σ : List (List D)) (hl : l.length ≤ 9223372036854775807) : Ct Tryz.prog 147 [dl l, D.str c] σ (fun r σ' => r = .bool (qO c l) ∧ σ' = σ) := by
 refine zf (rs:=[.tmp 4]) Tryz.func147 Tryz.ntmps147 Tryz.results147 ?_;simp only [aQ];refine aZ fun _ _ Z=>?_;simp;and_intros<;>(try omega);apply Z;refine aZ fun _ _ Z=>?_;refine aA 2 fun _ Y=>?_;simp;and_intros<;>(try omega);apply Y;simp only [List.drop];refine aF fun _ Y=>?_;simp;refine cO (Sb _ _ _ hl) ?_;apply Y;simp;and_intros<;>(try omega);apply Z;apply aC;simp [aM, Sv]
theorem rD (l : Ls) (c : ByteArray) (σ : List (List D)) (hl : l.length ≤ 9223372036854775807) : Ct Tryz.prog 131 [dl l, D.str c] σ (fun r σ' => r = .bool (qO c l) ∧ σ' = σ) := by
 refine zf (rs:=[.tmp 4]) Tryz.func131 Tryz.ntmps131 Tryz.results131 ?_;simp only [aQ];refine aZ fun _ _ Z=>?_;simp;and_intros<;>(try omega);apply Z;refine aZ fun _ _ Z=>?_;refine aA 2 fun _ Y=>?_;simp;and_intros<;>(try omega);apply Y;simp only [List.drop];refine aF fun _ Y=>?_;simp;refine cO (Fu _ _ _ hl) ?_;apply Y;simp;and_intros<;>(try omega);apply Z;apply aC;simp[aM]
theorem wU (l : Ls) (σ : List (List D)) (hl : l.length ≤ 1000000) : Ct Tryz.prog 106 [dl l] σ (fun r σ' => r = dlo l ∧ σ' = σ) := by
 refine zf (rs:=[.tmp 2]) Tryz.func106 Tryz.ntmps106 Tryz.results106 ?_;simp only [aQ];refine zr ⟨[2],[],[],[],[]⟩ fun _ _ Z=>?_;simp;and_intros<;>(try omega);apply Z;apply aD;refine zr ⟨[2],[],[],[],[]⟩ fun _ _ Z=>?_;refine aA 1 fun _ Y=>?_;simp;and_intros<;>(try omega);apply Y;simp only [List.drop];refine aF fun _ Y=>?_;simp;refine ⟨Y _ ?_, fun e1 => Y _ ?_⟩
 ·skip
  simp only [dZ];apply Z;refine bT (t := false) (by simp) (fun h => by cases h) (fun _ => ?_);apply aG;apply aB;refine zr ⟨[2],[],[],[],[]⟩ fun _ _ Z=>?_;simp;and_intros<;>(try omega);apply Z;apply aC;simp [aM]
 ·skip
  simp only [dZ];apply Z;refine bT (t := true) (by simp) (fun _ => ?_) (fun h => by cases h);refine zr ⟨[2],[],[],[],[]⟩ fun _ _ Z=>?_;simp;and_intros<;>(try omega);apply Z;apply aC;apply aJ;simp [aM, e1]
theorem aB2 (l : Ls) (c : ByteArray) (σ : List (List D)) (hl : l.length ≤ 1000000) : Ct Tryz.prog 132 [dl l, D.str c] σ (fun r σ' => r = dlo (Og l c) ∧ σ' = σ) := by
 refine zf (rs:=[.tmp 4]) Tryz.func132 Tryz.ntmps132 Tryz.results132 ?_;simp only [aQ];refine zr ⟨[4,5,12,16],[],[],[],[]⟩ fun _ _ Z=>?_;simp;and_intros<;>(try omega);apply Z;refine zr ⟨[4,5,12,16],[],[],[],[]⟩ fun _ _ Z=>?_;refine aA 1 fun _ Y=>?_;simp;and_intros<;>(try omega);apply Y;simp only [List.drop];refine aF fun _ Y=>?_;simp;refine cO (wU _ _ hl) ?_;apply Y;simp;and_intros<;>(try omega);apply Z;apply aD;refine zr ⟨[4,5,12,16],[],[],[],[]⟩ fun _ _ Z=>?_;refine aA 2 fun _ Y=>?_;simp;and_intros<;>(try omega);apply Y;simp only [List.drop];refine aF fun _ Y=>?_;simp;refine cO (rD l _ _ (by omega)) ?_;apply Y;simp;and_intros<;>(try omega);apply Z;refine zi ?_;refine ⟨fun c1=>?_,fun c1=>?_⟩
 ·try simp at c1
  refine zt ⟨[4,5,12,16],[],[],[],[]⟩ fun _ _ Z=>?_;simp;and_intros<;>(try omega);apply Z;apply aB;refine zk [4,5] ?_;refine zr ⟨[4,5,12,16],[],[],[],[]⟩ fun _ _ Z=>?_;simp;and_intros<;>(try omega);apply Z;apply aC;simp [aM, Og, c1]
 ·try simp at c1
  apply aG;apply aB;refine zr ⟨[4,5,12,16],[],[],[],[]⟩ fun _ _ Z=>?_;simp;and_intros<;>(try omega);apply Z;apply aC;simp [aM, Og, c1]
theorem yG (l : Ls) (p : ByteArray → Bool) (f : FuncId) (caps : List D) (m cap : Nat) (rest : List D) (σ : List (List D)) (hl : l.length ≤ 9223372036854775807) (hσ : σ[m]? = some (l.map D.str ++ rest)) (hcp : ∀ d ∈ caps, d.plain = true) (hcs : caps.map D.strip = caps) (hp : ∀ x τ, Ct Tryz.prog f (D.str x :: caps) τ (fun r τ' => r = .bool (p x) ∧ τ' = τ)) : Ct Tryz.prog 170 [.slo m 0 l.length cap, .clo (.func f) [] caps] σ (fun r σ' => r = .int (qD p l) ∧ σ' = σ) := by
 refine zf (rs:=[.tmp 4]) Tryz.func170 Tryz.ntmps170 Tryz.results170 ?_;simp only [aQ];refine zr ⟨[],[],[],[7,14],[]⟩ fun _ _ Z=>?_;simp (disch:=omega)[hσ,hcs,aT];and_intros<;>(try omega);apply Z;apply aD;refine zr ⟨[],[],[],[7,14],[]⟩ fun _ _ Z=>?_;simp (disch:=omega)[hσ,hcs,aT];and_intros<;>(try omega);apply Z;apply aK;refine zk [0,1,4,7,8] ?_;refine bR (fun (k : Nat) => [(8, .d (.v (.int .i64 (k : Int))))]) [4, 5, 8, 9, 10, 11, 12, 13, 14, 15, 16, 17, 18] (fun (k : Nat) => k ≤ l.length ∧ ∀ x ∈ l.take k, p x = false) (fun (k : Nat) => l.length - k) (0) (by simp <;> rfl) ?_ ?_ ?_
 ·simp
 ·simp
 rintro k ⟨hk, hh⟩;simp only [List.cons_append, List.nil_append];refine zr ⟨[],[],[],[7,14],[]⟩ fun _ _ Z=>?_;simp (disch:=omega)[hσ,hcs,aT];and_intros<;>(try omega);apply Z;apply aD;refine zi ?_;refine ⟨fun c1=>?_,fun c1=>?_⟩
 ·try simp at c1
  apply aG;apply aB;apply aD;apply aK;refine zr ⟨[],[],[],[7,14],[]⟩ fun _ _ Z=>?_;simp (disch:=omega)[hσ,hcs,aT];and_intros<;>(try omega);apply Z;refine zr ⟨[],[],[],[7,14],[]⟩ fun _ _ Z=>?_;refine aA 5 fun _ Y=>?_;simp (disch:=omega)[hσ,hcs,aT];and_intros<;>(try omega);apply Y;simp only [List.drop];refine aF fun _ Y=>?_;simp (disch:=omega)[hσ,hcs,aT];refine ⟨hcp, ?_⟩;refine cO (hp l[k] _) ?_;apply Y;simp only [dZ];apply Z;refine zi ?_;refine ⟨fun c2=>?_,fun c2=>?_⟩
  ·try simp at c2
   refine zk [0,1,5,7,8] ?_;refine zr ⟨[],[],[],[7,14],[]⟩ fun _ _ Z=>?_;simp (disch:=omega)[hσ,hcs,aT];and_intros<;>(try omega);apply Z;apply aC;apply aU;apply aJ;apply eJ;apply aU;apply aJ;simp [aM];exact (pA c1 hh c2).symm
  ·try simp at c2
   apply aG;apply aP;apply aB;refine zk [0,1,7,8] ?_;refine zt ⟨[],[],[],[7,14],[]⟩ fun _ _ Z=>?_;simp (disch:=omega)[hσ,hcs,aT];and_intros<;>(try omega);apply Z;refine bB (k + 1) ?_ ?_ (aW rfl ?_ (by simp) (by simp))
   ·exact ⟨by omega, jL (by omega) hh c2⟩
   ·try dsimp only
    omega
   ·simp (disch:=omega)[hσ,hcs,aT]
 ·try simp at c1
  apply bN;apply bP;apply bO;apply bG;apply aB;refine zr ⟨[],[],[],[7,14],[]⟩ fun _ _ Z=>?_;simp (disch:=omega)[hσ,hcs,aT];and_intros<;>(try omega);apply Z;apply aC;simp [aM];rw [List.take_of_length_le (by omega)] at hh; exact (kK hh).symm
theorem yD (f : FuncId) (caps : List D) (σ : List (List D)) (hcp : ∀ d ∈ caps, d.plain = true) : Ct Tryz.prog 170 [.xl 0, .clo (.func f) [] caps] σ (fun r σ' => r = .int (-1) ∧ σ' = σ) := by
 refine zf (rs:=[.tmp 4]) Tryz.func170 Tryz.ntmps170 Tryz.results170 ?_;simp only [aQ];refine zr ⟨[],[],[],[7],[]⟩ fun _ _ Z=>?_;simp;and_intros<;>(try omega);apply Z;apply aD;refine zr ⟨[],[],[],[7],[]⟩ fun _ _ Z=>?_;simp;and_intros<;>(try omega);apply Z;apply aK;refine zk [0,1,4,7,8] ?_;refine bR (fun (k : Nat) => [(8, .d (.int 0))]) [4, 5, 8, 9, 10, 11, 12, 13, 14, 15, 16, 17, 18] (fun (k : Nat) => k = 0) (fun (k : Nat) => 0) (0) (by simp <;> rfl) ?_ ?_ ?_
 ·simp
 ·rfl
 rintro k hk;simp only [List.cons_append, List.nil_append];refine zr ⟨[],[],[],[7],[]⟩ fun _ _ Z=>?_;simp;and_intros<;>(try omega);apply Z;apply aD;refine zi ?_;refine ⟨fun c1=>?_,fun c1=>?_⟩
 ·simp at c1
 ·try simp at c1
  apply bN;apply bP;apply bO;apply bG;apply aB;refine zr ⟨[],[],[],[7],[]⟩ fun _ _ Z=>?_;simp;and_intros<;>(try omega);apply Z;apply aC;simp [aM]
theorem En (p : ByteArray → Bool) (l k : Ls) (rest : List D) : List.take k.length ((k ++ l).map D.str ++ rest) = k.map D.str := by
 rw [List.map_append, List.append_assoc, List.take_append_of_le_length (by simp)];rw [List.take_of_length_le (by simp)]
theorem xL (l : Ls) (p : ByteArray → Bool) (f : FuncId) (caps : List D) (σ : List (List D)) (hl : l.length ≤ 1000000) (hne : l ≠ []) (hcp : ∀ d ∈ caps, d.plain = true) (hcs : caps.map D.strip = caps) (hp : ∀ x τ, Ct Tryz.prog f (D.str x :: caps) τ (fun r τ' => r = .bool (p x) ∧ τ' = τ)) : Ct Tryz.prog 164 [.xs 1 (l.map D.str), .clo (.func f) [] caps] σ (fun r σ' => r = .xs 1 ((l.filter fun x => !p x).map D.str) ∧ σ' = σ ++ [[]]) := by
 refine zf (rs:=[.tmp 4]) Tryz.func164 Tryz.ntmps164 Tryz.results164 ?_;simp only [aQ];refine jG 0 1 rfl (by decide) fun cap rest hcap hcm hrest hk0 hes => ?_;simp only [List.length_map] at hcap hrest ⊢;rw [dQ (f := D.str) (fun _ => rfl)];refine zr ⟨[4,13],[],[],[18,24,33,38,41],[]⟩ fun _ _ Z=>?_;simp (disch:=first|omega|assumption)[hcs,aT,cK];and_intros<;>try first|omega|exact rfl
 apply Z;refine zr ⟨[4,13],[],[],[18,24,33,38,41],[]⟩ fun _ _ Z=>?_;refine aA 2 fun _ Y=>?_;simp (disch:=first|omega|assumption)[hcs,aT,cK];and_intros<;>try first|omega|exact rfl
 apply Y;simp only [List.drop];refine aF fun _ Y=>?_;simp (disch:=first|omega|assumption)[hcs,aT,cK];refine cO (yG l p f caps σ.length cap rest _ (by omega) (by simp) hcp hcs hp) ?_;apply Y;simp (disch:=first|omega|assumption)[hcs,aT,cK];and_intros<;>try first|omega|exact rfl
 apply Z;apply aD;refine zr ⟨[4,13],[],[],[18,24,33,38,41],[]⟩ fun _ _ Z=>?_;simp (disch:=first|omega|assumption)[hcs,aT,cK];and_intros<;>try first|omega|exact rfl
 apply Z;refine zi ?_;refine ⟨fun c1=>?_,fun c1=>?_⟩
 ·try simp at c1
  refine zr ⟨[4,13],[],[],[18,24,33,38,41],[]⟩ fun _ _ Z=>?_;simp (disch:=first|omega|assumption)[hcs,aT,cK];and_intros<;>try first|omega|exact rfl
  apply Z;refine dE 4 1 σ.length l.length cap (l.map D.str) (l.map D.str ++ rest) (by simp <;> rfl) (by simp) (by omega) (by simp [hrest]; omega) (by simp) (by simp) (by rw [dQ (fun _ => rfl)]; exact List.prefix_append _ _) ?_;simp only [iS];apply aC;apply aJ;simp [aM];rcases mJ p l with ⟨_, h⟩ | ⟨k, h, _⟩
  ·rw [h]
  ·omega
 ·try simp at c1
  obtain ⟨k0, e0, e1, e2, e3⟩ := rV c1;rw [e0];apply aG;apply aB;apply aD;refine zr ⟨[4,13],[],[],[18,24,33,38,41],[]⟩ fun _ _ Z=>?_;simp (disch:=first|omega|assumption)[hcs,aT,cK];and_intros<;>try first|omega|exact rfl
  apply Z;apply aK;refine zk [0,1,4,5,6] ?_;refine lW (fun (j : Nat) => [(5, .d (.v (.int .i64 ((kp p l j).length : Int)))), (6, .d (.v (.int .i64 (j : Int))))]) (fun (j : Nat) => []) (fun (j : Nat) => [(σ.length, (ar p l j).map D.str ++ rest)]) [5, 6, 7, 16, 17, 18, 19, 20, 21, 22, 23, 24, 25, 26, 27, 28, 29, 30, 31, 32, 33, 34, 35] (fun (j : Nat) => j ≤ l.length) (fun (j : Nat) => l.length - j) (k0 + 1) (by simp <;> rfl) ?_ (by simp) (by simp [e1]) ?_ ?_
  ·simp [e1, e2]
  ·omega
  rintro j hj;simp only [List.cons_append, List.nil_append, mC, kH, List.set_cons_zero, List.set_cons_succ];have hkl := zY p l j hj;have hal := wG p l j;apply aD;refine zr ⟨[4,13],[],[],[18,24,33,38,41],[]⟩ fun _ _ Z=>?_;simp (disch:=first|omega|assumption)[hcs,aT,cK];and_intros<;>try first|omega|exact rfl
  apply Z;refine zi ?_;refine ⟨fun c2=>?_,fun c2=>?_⟩
  ·try simp at c2
   apply aG;apply aB;apply aD;apply aK;refine zr ⟨[4,13],[],[],[18,24,33,38,41],[]⟩ fun _ _ Z=>?_;simp (disch:=first|omega|assumption)[hcs,aT,cK];and_intros<;>try first|omega|exact rfl
   apply Z;refine zk [0,1,4,5,6,7] ?_;refine zr ⟨[4,13],[],[],[18,24,33,38,41],[]⟩ fun _ _ Z=>?_;refine aA 2 fun _ Y=>?_;simp (disch:=first|omega|assumption)[hcs,aT,cK];and_intros<;>try first|omega|exact rfl
   apply Y;simp only [List.drop];refine aF fun _ Y=>?_;simp (disch:=first|omega|assumption)[hcs,aT,cK];simp only [Kc p l j (by omega)];refine ⟨hcp, ?_⟩;refine cO (hp l[j] _) ?_;apply Y;simp (disch:=first|omega|assumption)[hcs,aT,cK];and_intros<;>try first|omega|exact rfl
   apply Z;refine zi ?_;refine ⟨fun c3=>?_,fun c3=>?_⟩
   ·try simp at c3
    refine zr ⟨[4,13],[],[],[18,24,33,38,41],[]⟩ fun _ _ Z=>?_;simp (disch:=first|omega|assumption)[hcs,aT,cK];and_intros<;>try first|omega|exact rfl
    apply Z;refine zk [0,1,4,5,6] ?_;refine zt ⟨[4,13],[],[],[18,24,33,38,41],[]⟩ fun _ _ Z=>?_;simp (disch:=first|omega|assumption)[hcs,aT,cK];and_intros<;>try first|omega|exact rfl
    apply Z;apply aP;apply aB;refine zt ⟨[4,13],[],[],[18,24,33,38,41],[]⟩ fun _ _ Z=>?_;simp (disch:=first|omega|assumption)[hcs,aT,cK];and_intros<;>try first|omega|exact rfl
    apply Z;refine bB (j + 1) ?_ ?_ (aW rfl ?_ (by simp) (by rw [← (pP p l j (by omega) c3).1]; simp (disch := omega) [Dt, hal]))
    ·omega
    ·try dsimp only
     omega
    ·simp (disch:=first|omega|assumption)[hcs,aT,cK,(pP p l j (by omega) c3).2]
   ·try simp at c3
    apply aG;apply aP;apply aB;refine zt ⟨[4,13],[],[],[18,24,33,38,41],[]⟩ fun _ _ Z=>?_;simp (disch:=first|omega|assumption)[hcs,aT,cK];and_intros<;>try first|omega|exact rfl
    apply Z;refine bB (j + 1) ?_ ?_ (aW rfl ?_ (by simp) (by simp [(mD p l j (by omega) c3).1]))
    ·omega
    ·try dsimp only
     omega
    ·simp (disch:=first|omega|assumption)[hcs,aT,cK,(mD p l j (by omega) c3).2]
  ·try simp at c2
   apply bN;apply bP;apply bO;apply bG;apply aB;refine zr ⟨[4,13],[],[],[18,24,33,38,41],[]⟩ fun _ _ Z=>?_;simp (disch:=first|omega|assumption)[hcs,aT,cK];and_intros<;>try first|omega|exact rfl
   apply Z;refine zk [0,4,5] ?_;refine zr ⟨[4,13],[],[],[18,24,33,38,41],[]⟩ fun _ _ Z=>?_;simp (disch:=first|omega|assumption)[hcs,aT,cK];and_intros<;>try first|omega|exact rfl
   apply Z;refine dE 4 1 σ.length (kp p l j).length cap ((kp p l j).map D.str) ((kp p l j).map D.str ++ (eN #[.string ⟨#[]⟩] (l.length - (kp p l j).length) ++ rest)) (by simp <;> rfl) (by rw [show List.map D.str (kp p l j) = List.take (kp p l j).length (List.map D.str (ar p l j) ++ rest) from (En p _ _ rest).symm]; simp [eF (z := #[.string ⟨#[]⟩]) (k := 1) rfl, show (kp p l j).length + (l.length - (kp p l j).length) = l.length by omega, Du D.str (ar p l j) rest l.length hal.symm]) (by omega) (by simp [hrest, eF (z := #[.string ⟨#[]⟩]) (k := 1) rfl]; omega) (by simp) (by simp) (by rw [dQ (fun _ => rfl)]; exact List.prefix_append _ _) ?_;simp only [iS];apply aC;simp [aM];unfold kp; rw [List.take_of_length_le (by omega)]
theorem vZ (f : FuncId) (caps : List D) (σ : List (List D)) (hcp : ∀ d ∈ caps, d.plain = true) : Ct Tryz.prog 164 [.xs 1 [], .clo (.func f) [] caps] σ (fun r σ' => r = .xs 1 [] ∧ σ' = σ) := by
 refine zf (rs:=[.tmp 4]) Tryz.func164 Tryz.ntmps164 Tryz.results164 ?_;simp only [aQ];refine zr ⟨[4,13],[],[],[],[]⟩ fun _ _ Z=>?_;simp;and_intros<;>(try omega);apply Z;refine zr ⟨[4,13],[],[],[],[]⟩ fun _ _ Z=>?_;refine aA 2 fun _ Y=>?_;simp;and_intros<;>(try omega);apply Y;simp only [List.drop];refine aF fun _ Y=>?_;simp;refine cO (yD f caps _ hcp) ?_;apply Y;simp;and_intros<;>(try omega);apply Z;apply aD;refine zr ⟨[4,13],[],[],[],[]⟩ fun _ _ Z=>?_;simp;and_intros<;>(try omega);apply Z;refine zi ?_;refine ⟨fun c1=>?_,fun c1=>?_⟩
 ·try simp at c1
  refine zr ⟨[4,13],[],[],[],[]⟩ fun _ _ Z=>?_;simp;and_intros<;>(try omega);apply Z;apply aC;apply aJ;simp[aM]
 ·simp at c1
theorem Za (N : Nat) (l : Ls) : Sc N (.xs 1 (l.map D.str)) := Sc.xs fun d hd e he => by
 obtain ⟨a, _, rfl⟩ := List.mem_map.1 hd;simp [D.cells] at he;subst he;exact Sc.v _
theorem yH (l : Ls) (p : ByteArray → Bool) (f : FuncId) (caps : List D) (σ : List (List D)) (hl : l.length ≤ 1000000) (hcp : ∀ d ∈ caps, d.plain = true) (hcs : caps.map D.strip = caps) (hp : ∀ x τ, Ct Tryz.prog f (D.str x :: caps) τ (fun r τ' => r = .bool (p x) ∧ τ' = τ)) :
  Ct Tryz.prog 164 [.xs 1 (l.map D.str), .clo (.func f) [] caps] σ (fun r σ' => r = .xs 1 ((l.filter fun x => !p x).map D.str) ∧ σ' = σ) := by
 by_cases hne : l = []
 ·subst hne; exact vZ f caps σ hcp
 ·exact (xL l p f caps σ hl hne hcp hcs hp).trim fun r σ' ⟨hr, hs⟩ => ⟨σ, [[]], hs, rfl, by rw [hr]; exact Za _ _, fun n cs h => .inl h, hr, rfl⟩
theorem Hf (l : Ls) (σ : List (List D)) (hl : l.length ≤ 1000000) : Ct Tryz.prog 106 [dl l] σ (fun r σ' => qV 1 (l.map D.str) r ∧ σ' = σ) := by
 refine zf (rs:=[.tmp 2]) Tryz.func106 Tryz.ntmps106 Tryz.results106 ?_;simp only [aQ];refine zr ⟨[2],[],[],[7],[]⟩ fun _ _ Z=>?_;simp (disch:=first|omega|assumption);and_intros<;>try first|omega|exact rfl
 apply Z;apply aD;refine zr ⟨[2],[],[],[7],[]⟩ fun _ _ Z=>?_;refine aA 1 fun _ Y=>?_;simp (disch:=first|omega|assumption);and_intros<;>try first|omega|exact rfl
 apply Y;simp only [List.drop];refine aF fun _ Y=>?_;simp (disch:=first|omega|assumption);refine ⟨Y _ ?_, fun e1 => Y _ ?_⟩
 ·skip
  simp only [dZ];apply Z;refine bT (t := false) (by simp) (fun h => by cases h) (fun _ => ?_);apply aG;apply aB;refine zr ⟨[2],[],[],[7],[]⟩ fun _ _ Z=>?_;simp (disch:=first|omega|assumption);and_intros<;>try first|omega|exact rfl
  apply Z;apply aC;simp [aM, qV]
 ·skip
  simp only [dZ];apply Z;refine bT (t := true) (by simp) (fun _ => ?_) (fun h => by cases h);refine zr ⟨[2],[],[],[7],[]⟩ fun _ _ Z=>?_;simp (disch:=first|omega|assumption);and_intros<;>try first|omega|exact rfl
  apply Z;apply aC;apply aJ;simp [aM, qV, e1]
theorem Nt (l : Ls) (σ : List (List D)) (hl : l.length ≤ 1000000) : Ct Tryz.prog 106 [dl l] σ (fun r σ' => r = .xs 1 (l.map D.str) ∧ σ' = σ) := (Hf l σ hl).toX fun _ _ h => h
theorem In (l : Ls) (p : ByteArray → Bool) (f : FuncId) (caps : List D) (σ : List (List D)) (hl : l.length ≤ 1000000) (hcp : ∀ d ∈ caps, d.plain = true) (hcs : caps.map D.strip = caps) (hp : ∀ x τ, Ct Tryz.prog f (D.str x :: caps) τ (fun r τ' => r = .bool (p x) ∧ τ' = τ)) : Ct Tryz.prog 148 [dl l, .clo (.func f) [] caps] σ (fun r σ' => r = .xs 1 ((l.filter fun x => !p x).map D.str) ∧ σ' = σ) := by
 refine zf (rs:=[.tmp 4]) Tryz.func148 Tryz.ntmps148 Tryz.results148 ?_;simp only [aQ];refine zr ⟨[4,7,8],[],[],[],[]⟩ fun _ _ Z=>?_;simp;and_intros<;>(try omega);apply Z;refine zr ⟨[4,7,8],[],[],[],[]⟩ fun _ _ Z=>?_;refine aA 1 fun _ Y=>?_;simp;and_intros<;>(try omega);apply Y;simp only [List.drop];refine aF fun _ Y=>?_;simp;refine cO (Nt l _ hl) ?_;apply Y;refine aA 1 fun _ Y=>?_;simp;and_intros<;>(try omega);apply Y;simp only [List.drop];refine aF fun _ Y=>?_;simp;refine cO (yH l p f caps _ hl hcp hcs hp) ?_;apply Y;simp;and_intros<;>(try omega);apply Z;apply aC;simp[aM]
theorem Vq (x c : ByteArray) (σ : List (List D))  : Ct Tryz.prog 149 [D.str x, .adr [D.str c]] σ (fun r σ' => r = .bool (decide (x = c)) ∧ σ' = σ) := by
 refine zf (rs:=[.tmp 3]) Tryz.func149 Tryz.ntmps149 Tryz.results149 ?_;simp only [aQ];refine aZ fun _ _ Z=>?_;simp;and_intros<;>(try omega);apply Z;refine aZ fun _ _ Z=>?_;simp;and_intros<;>(try omega);apply Z;apply aC;simp[aM]
theorem Om (l : Ls) (c : ByteArray) (σ : List (List D)) (hl : l.length ≤ 1000000) : Ct Tryz.prog 133 [dl l, D.str c] σ (fun r σ' => r = .xs 1 ((jR l c).map D.str) ∧ σ' = σ) := by
 refine zf (rs:=[.tmp 4]) Tryz.func133 Tryz.ntmps133 Tryz.results133 ?_;simp only [aQ];refine zr ⟨[4],[3],[],[],[]⟩ fun _ _ Z=>?_;simp;and_intros<;>(try omega);apply Z;refine zr ⟨[4],[3],[],[],[]⟩ fun _ _ Z=>?_;refine aA 2 fun _ Y=>?_;simp;and_intros<;>(try omega);apply Y;simp only [List.drop];refine aF fun _ Y=>?_;simp;refine cO (In l (fun x => decide (x = c)) 149 [.adr [D.str c]] _ hl (by simp) (by simp) (fun x τ => Vq x c τ)) ?_;apply Y;simp;and_intros<;>(try omega);apply Z;apply aC;simp [aM, jR]
theorem Pz (l : Ls) (c : ByteArray) (σ : List (List D)) (hl : l.length ≤ 1000000) : Ct Tryz.prog 133 [dl l, D.str c] σ (fun r σ' => r = dl (jR l c) ∧ σ' = σ) := (Om l c σ hl).freeze fun _ _ h => h
end Go.Proofs.YtpfmpeaekgdgnaaGreat

