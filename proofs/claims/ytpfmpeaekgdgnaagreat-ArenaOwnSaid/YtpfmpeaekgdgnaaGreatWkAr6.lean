import Derived.Test.YtpfmpeaekgdgnaaGreatWkAr5
namespace Go.Proofs.YtpfmpeaekgdgnaaGreat
open Go Go.Vm
set_option maxRecDepth 20000
set_option linter.all false
set_option maxHeartbeats 8000000
section
variable {o : List AT} {b : Bool} {x p : AT}
theorem sW (hb : b = false) (h : Op.bytesLess x.name.toList p.name.toList = false) (e : x.name = p.name) : gI nA p (o, b) x = (o ++ [p], true) := by
 have e' : nA x = nA p := e;have h2 : b = false ∧ cJ (nA x) (nA p) = false := ⟨hb, h⟩;unfold gI; dsimp only; rw [if_pos e', if_pos h2]
theorem sL (hb : b = false) (h : Op.bytesLess x.name.toList p.name.toList = false) (e : ¬ x.name = p.name) : gI nA p (o, b) x = (o ++ [p] ++ [x], true) := by
 have e' : ¬ nA x = nA p := e;have h2 : b = false ∧ cJ (nA x) (nA p) = false := ⟨hb, h⟩;unfold gI; dsimp only; rw [if_neg e', if_pos h2]
theorem rP (h : Op.bytesLess x.name.toList p.name.toList = true) (e : x.name = p.name) : gI nA p (o, b) x = (o, b) := by
 have e' : nA x = nA p := e;have h2 : ¬ (b = false ∧ cJ (nA x) (nA p) = false) := fun q => by have h3 : cJ (nA x) (nA p) = true := h; rw [h3] at q; cases q.2
 unfold gI; dsimp only; rw [if_pos e', if_neg h2]
theorem sQ (h : Op.bytesLess x.name.toList p.name.toList = true) (e : ¬ x.name = p.name) : gI nA p (o, b) x = (o ++ [x], b) := by
 have e' : ¬ nA x = nA p := e;have h2 : ¬ (b = false ∧ cJ (nA x) (nA p) = false) := fun q => by have h3 : cJ (nA x) (nA p) = true := h; rw [h3] at q; cases q.2
 unfold gI; dsimp only; rw [if_neg e', if_neg h2]
theorem sT (h : b = true) (e : x.name = p.name) : gI nA p (o, b) x = (o, b) := by
 have e' : nA x = nA p := e;have h2 : ¬ (b = false ∧ cJ (nA x) (nA p) = false) := fun q => by rw [h] at q; cases q.1
 unfold gI; dsimp only; rw [if_pos e', if_neg h2]
theorem sX (h : b = true) (e : ¬ x.name = p.name) : gI nA p (o, b) x = (o ++ [x], b) := by
 have e' : ¬ nA x = nA p := e;have h2 : ¬ (b = false ∧ cJ (nA x) (nA p) = false) := fun q => by rw [h] at q; cases q.1
 unfold gI; dsimp only; rw [if_neg e', if_neg h2]
end
theorem Bs (l : List AT) (p : AT) (σ : List (List D)) (hl : l.length ≤ 99999) (hs : cC nA l) : Ct Tryz.prog 97 [.sl false (l.map cM), cM p] σ (fun r σ' => r = .sl true ((eF nA l p).map cM) ∧ σ' = σ) := by
 refine zf (rs:=[.tmp 4]) Tryz.func97 Tryz.ntmps97 Tryz.results97 ?_;simp only [aQ];refine zr ⟨[4,5,25,34,41,45],[],[],[],[]⟩ fun _ _ Z=>?_;simp (disch:=omega)[or_imp,forall_and];and_intros<;>(try omega);apply Z;refine zr ⟨[4,5,25,34,41,45],[],[],[],[]⟩ fun _ _ Z=>?_;simp (disch:=omega)[or_imp,forall_and];and_intros<;>(try omega);apply Z;refine zr ⟨[4,5,25,34,41,45],[],[],[],[]⟩ fun _ _ Z=>?_;simp (disch:=omega)[or_imp,forall_and];and_intros<;>(try omega);apply Z;apply aD;refine zr ⟨[4,5,25,34,41,45],[],[],[],[]⟩ fun _ _ Z=>?_;simp (disch:=omega)[or_imp,forall_and];and_intros<;>(try omega);apply Z;apply aK;refine zk [3,4,5,6,10,11,12] ?_;refine bQ (fun (k : Nat) => [(12, .d (.v (.int .i64 (k : Int)))), (5, .d (.sl true ((jQ nA (l.take k) p).1.map cM))), (6, .d (.bool (jQ nA (l.take k) p).2))]) [5, 6, 8, 12, 13, 14, 15, 16, 17, 18, 19, 20, 21, 22, 23, 24, 25, 26, 27, 28, 29, 30, 31, 32, 33, 34, 35, 36, 37, 38] (fun (k : Nat) => k ≤ l.length) (fun (k : Nat) => l.length - k) (0) (by simp <;> rfl) ?_ ?_ ?_
 ·simp [jQ]
 ·simp
 rintro k hk;simp only [List.cons_append, List.nil_append];have hpl := Jx nA (l.take k) p;simp only [List.length_take] at hpl;generalize hps : jQ nA (l.take k) p = s at hpl ⊢;obtain ⟨o, b⟩ := s;have hpl2 : o.length ≤ k + 1 := by simp only at hpl; split at hpl <;> omega
 dsimp only;refine zr ⟨[4,5,25,34,41,45],[],[],[],[]⟩ fun _ _ Z=>?_;simp (disch:=omega)[or_imp,forall_and];and_intros<;>(try omega);apply Z;apply aD;refine zi ?_;refine ⟨fun c1=>?_,fun c1=>?_⟩
 ·try simp at c1
  apply aH;apply aB;apply aD;apply aK;refine zr ⟨[4,5,25,34,41,45],[],[],[],[]⟩ fun _ _ Z=>?_;simp (disch:=omega)[or_imp,forall_and];and_intros<;>(try omega);apply Z;apply aD;refine lH ⟨[4,5,25,34,41,45],[],[],[],[]⟩ fun all hall _ Z=>?_;have ga2 : aS all 2 = some 18 := hall 2;refine aA 3 fun _ Y=>?_;simp (disch:=omega)[or_imp,forall_and,ga2];and_intros<;>(try omega);apply Y;simp only [List.drop];refine aX 18 (by simp <;> rfl) ?_;refine ⟨fun g2 => ?_, fun g2 => ?_⟩
  ·try simp at g2
   simp (disch:=omega)[or_imp,forall_and,ga2];and_intros<;>(try omega);apply Z;refine zi ?_;refine ⟨fun c3=>?_,fun c3=>?_⟩
   ·try simp at c3
    refine zk [3,4,5,6,8,10,11,12] ?_;refine zr ⟨[4,5,25,34,41,45],[],[],[],[]⟩ fun _ _ Z=>?_;simp (disch:=omega)[or_imp,forall_and];and_intros<;>(try omega);apply Z;refine zk [3,4,5,6,8,10,11,12] ?_;refine zt ⟨[4,5,25,34,41,45],[],[],[],[]⟩ fun _ _ Z=>?_;simp (disch:=omega)[or_imp,forall_and];and_intros<;>(try omega);apply Z;apply aB;refine zr ⟨[4,5,25,34,41,45],[],[],[],[]⟩ fun _ _ Z=>?_;simp (disch:=omega)[or_imp,forall_and];and_intros<;>(try omega);apply Z;refine zi ?_;refine ⟨fun c4=>?_,fun c4=>?_⟩
    ·try simp at c4
     refine zk [3,4,5,6,8,10,11,12] ?_;refine zt ⟨[4,5,25,34,41,45],[],[],[],[]⟩ fun _ _ Z=>?_;simp (disch:=omega)[or_imp,forall_and];and_intros<;>(try omega);apply Z;apply aP;apply aB;refine zk [3,4,5,6,10,11,12] ?_;refine zt ⟨[4,5,25,34,41,45],[],[],[],[]⟩ fun _ _ Z=>?_;simp (disch:=omega)[or_imp,forall_and];and_intros<;>(try omega);apply Z;refine bA (k + 1) ?_ ?_ (aW rfl ?_ (by simp) (by simp))
     ·omega
     ·try dsimp only
      omega
     ·rw [jA nA l p k (by omega), hps];first | rw [sW (by assumption) (by assumption) (by assumption)] | rw [sL (by assumption) (by assumption) (by assumption)] | rw [rP (by assumption) (by assumption)] | rw [sQ (by assumption) (by assumption)] | rw [sT (by first | assumption | simpa using g2) (by assumption)] | rw [sX (by first | assumption | simpa using g2) (by assumption)]
      simp [*]
    ·try simp at c4
     apply aH;apply aP;apply aB;refine zk [3,4,5,6,10,11,12] ?_;refine zt ⟨[4,5,25,34,41,45],[],[],[],[]⟩ fun _ _ Z=>?_;simp (disch:=omega)[or_imp,forall_and];and_intros<;>(try omega);apply Z;refine bA (k + 1) ?_ ?_ (aW rfl ?_ (by simp) (by simp))
     ·omega
     ·try dsimp only
      omega
     ·rw [jA nA l p k (by omega), hps];first | rw [sW (by assumption) (by assumption) (by assumption)] | rw [sL (by assumption) (by assumption) (by assumption)] | rw [rP (by assumption) (by assumption)] | rw [sQ (by assumption) (by assumption)] | rw [sT (by first | assumption | simpa using g2) (by assumption)] | rw [sX (by first | assumption | simpa using g2) (by assumption)]
      simp [*]
   ·try simp at c3
    apply aH;apply aB;refine zk [3,4,5,6,8,10,11,12] ?_;refine zr ⟨[4,5,25,34,41,45],[],[],[],[]⟩ fun _ _ Z=>?_;simp (disch:=omega)[or_imp,forall_and];and_intros<;>(try omega);apply Z;refine zi ?_;refine ⟨fun c5=>?_,fun c5=>?_⟩
    ·try simp at c5
     refine zk [3,4,5,6,8,10,11,12] ?_;refine zt ⟨[4,5,25,34,41,45],[],[],[],[]⟩ fun _ _ Z=>?_;simp (disch:=omega)[or_imp,forall_and];and_intros<;>(try omega);apply Z;apply aP;apply aB;refine zk [3,4,5,6,10,11,12] ?_;refine zt ⟨[4,5,25,34,41,45],[],[],[],[]⟩ fun _ _ Z=>?_;simp (disch:=omega)[or_imp,forall_and];and_intros<;>(try omega);apply Z;refine bA (k + 1) ?_ ?_ (aW rfl ?_ (by simp) (by simp))
     ·omega
     ·try dsimp only
      omega
     ·rw [jA nA l p k (by omega), hps];first | rw [sW (by assumption) (by assumption) (by assumption)] | rw [sL (by assumption) (by assumption) (by assumption)] | rw [rP (by assumption) (by assumption)] | rw [sQ (by assumption) (by assumption)] | rw [sT (by first | assumption | simpa using g2) (by assumption)] | rw [sX (by first | assumption | simpa using g2) (by assumption)]
      simp [*]
    ·try simp at c5
     apply aH;apply aP;apply aB;refine zk [3,4,5,6,10,11,12] ?_;refine zt ⟨[4,5,25,34,41,45],[],[],[],[]⟩ fun _ _ Z=>?_;simp (disch:=omega)[or_imp,forall_and];and_intros<;>(try omega);apply Z;refine bA (k + 1) ?_ ?_ (aW rfl ?_ (by simp) (by simp))
     ·omega
     ·try dsimp only
      omega
     ·rw [jA nA l p k (by omega), hps];first | rw [sW (by assumption) (by assumption) (by assumption)] | rw [sL (by assumption) (by assumption) (by assumption)] | rw [rP (by assumption) (by assumption)] | rw [sQ (by assumption) (by assumption)] | rw [sT (by first | assumption | simpa using g2) (by assumption)] | rw [sX (by first | assumption | simpa using g2) (by assumption)]
      simp [*]
  ·try simp at g2
   simp (disch:=omega)[or_imp,forall_and,ga2];and_intros<;>(try omega);apply Z;refine bR (t := false) (by simp) (fun h => by cases h) (fun _ => ?_);apply aH;apply aB;refine zk [3,4,5,6,8,10,11,12] ?_;refine zr ⟨[4,5,25,34,41,45],[],[],[],[]⟩ fun _ _ Z=>?_;simp (disch:=omega)[or_imp,forall_and];and_intros<;>(try omega);apply Z;refine zi ?_;refine ⟨fun c6=>?_,fun c6=>?_⟩
   ·try simp at c6
    refine zk [3,4,5,6,8,10,11,12] ?_;refine zt ⟨[4,5,25,34,41,45],[],[],[],[]⟩ fun _ _ Z=>?_;simp (disch:=omega)[or_imp,forall_and];and_intros<;>(try omega);apply Z;apply aP;apply aB;refine zk [3,4,5,6,10,11,12] ?_;refine zt ⟨[4,5,25,34,41,45],[],[],[],[]⟩ fun _ _ Z=>?_;simp (disch:=omega)[or_imp,forall_and];and_intros<;>(try omega);apply Z;refine bA (k + 1) ?_ ?_ (aW rfl ?_ (by simp) (by simp))
    ·omega
    ·try dsimp only
     omega
    ·rw [jA nA l p k (by omega), hps];first | rw [sW (by assumption) (by assumption) (by assumption)] | rw [sL (by assumption) (by assumption) (by assumption)] | rw [rP (by assumption) (by assumption)] | rw [sQ (by assumption) (by assumption)] | rw [sT (by first | assumption | simpa using g2) (by assumption)] | rw [sX (by first | assumption | simpa using g2) (by assumption)]
     simp [*]
   ·try simp at c6
    apply aH;apply aP;apply aB;refine zk [3,4,5,6,10,11,12] ?_;refine zt ⟨[4,5,25,34,41,45],[],[],[],[]⟩ fun _ _ Z=>?_;simp (disch:=omega)[or_imp,forall_and];and_intros<;>(try omega);apply Z;refine bA (k + 1) ?_ ?_ (aW rfl ?_ (by simp) (by simp))
    ·omega
    ·try dsimp only
     omega
    ·rw [jA nA l p k (by omega), hps];first | rw [sW (by assumption) (by assumption) (by assumption)] | rw [sL (by assumption) (by assumption) (by assumption)] | rw [rP (by assumption) (by assumption)] | rw [sQ (by assumption) (by assumption)] | rw [sT (by first | assumption | simpa using g2) (by assumption)] | rw [sX (by first | assumption | simpa using g2) (by assumption)]
     simp [*]
 ·try simp at c1
  obtain rfl : k = l.length := by omega
  rw [List.take_length] at hps;apply bK;apply bJ;apply bL;apply aY;apply aB;apply aD;refine zr ⟨[4,5,25,34,41,45],[],[],[],[]⟩ fun _ _ Z=>?_;simp (disch:=omega)[or_imp,forall_and];and_intros<;>(try omega);apply Z;refine zi ?_;refine ⟨fun c7=>?_,fun c7=>?_⟩
  ·try simp at c7
   refine zt ⟨[4,5,25,34,41,45],[],[],[],[]⟩ fun _ _ Z=>?_;simp (disch:=omega)[or_imp,forall_and];and_intros<;>(try omega);apply Z;apply aB;refine zk [4,5] ?_;refine zr ⟨[4,5,25,34,41,45],[],[],[],[]⟩ fun _ _ Z=>?_;simp (disch:=omega)[or_imp,forall_and];and_intros<;>(try omega);apply Z;apply aE;simp [aN];rw [← yI nA hs p, hps]; simp [Ke, *]
  ·try simp at c7
   apply aH;apply aB;refine zr ⟨[4,5,25,34,41,45],[],[],[],[]⟩ fun _ _ Z=>?_;simp (disch:=omega)[or_imp,forall_and];and_intros<;>(try omega);apply Z;apply aE;simp [aN];rw [← yI nA hs p, hps]; simp [Ke, *]
def Bf (l : List PI) (k j : Nat) : Option PI := wW nP (l.take j) ((hU nP l).take k)
def nC (l : List PI) (k j : Nat) : PI := (Bf l k j).getD ⟨⟨#[]⟩, 0⟩
def Zl (l : List PI) (k : Nat) (c : ByteArray) : Bool := jP nP ((hU nP l).take k) c
theorem aCy (l : List PI) (k : Nat) (c : ByteArray) (h : k < (hU nP l).length) : Zl l (k + 1) c = cJ (hU nP l)[k].name c := by
 unfold Zl jP; rw [cU (hU nP l) k h, List.getLast?_concat]
theorem qN (l : List PI) (k j : Nat) (h : j < l.length) : Bf l k (j + 1) = if Zl l k l[j].name = true then (match Bf l k j with | none => some l[j] | some q => if cJ (nP q) (nP l[j]) = true then some q else some l[j]) else Bf l k j := by
 have e := Nm nP l ((hU nP l).take k) j h;unfold Bf Zl;rw [e];cases wW nP (l.take j) ((hU nP l).take k) <;> rfl
theorem kZ {l : List PI} {k : Nat} (g : ¬ k = 0) (hk : k ≤ (hU nP l).length) (c : ByteArray) : Zl l k c = cJ ((hU nP l)[k - 1]'(by omega)).name c := by
 obtain ⟨m, rfl⟩ : ∃ m, k = m + 1 := ⟨k - 1, by omega⟩;exact aCy l m c (by omega)
theorem dB (l : List PI) (k : Nat) : (∀ d : D, d ∈ List.take k (List.map cG l) → d.ncells = 2) ↔ True := by
 refine ⟨fun _ => trivial, fun _ d hd => ?_⟩;obtain ⟨a, _, rfl⟩ := List.mem_map.1 (List.mem_of_mem_take hd);rfl
theorem mJ {l : List PI} {k j : Nat} (h : j < l.length) (ha : Zl l k l[j].name = true) (hc : (Bf l k j).isSome = false ∨ cJ (nC l k j).name l[j].name = false) : Bf l k (j + 1) = some l[j] := by
 rw [qN l k j h, if_pos ha];unfold nC at hc;cases hq : Bf l k j with
 | none => rfl
 | some q =>
  rw [hq] at hc;have : cJ (nP q) (nP l[j]) = false := by simpa using hc
  simp [this]
theorem mQ {l : List PI} {k j : Nat} (h : j < l.length) (ha : Zl l k l[j].name = false) : Bf l k (j + 1) = Bf l k j := by
 rw [qN l k j h, if_neg (by rw [ha]; simp)]
theorem mI {l : List PI} {k j : Nat} (h : j < l.length) (h1 : (Bf l k j).isSome = true) (h2 : cJ (nC l k j).name l[j].name = true) : Bf l k (j + 1) = Bf l k j := by
 by_cases ha : Zl l k l[j].name = true
 ·rw [qN l k j h, if_pos ha];unfold nC at h2;cases hq : Bf l k j with
  | none => rw [hq] at h1; cases h1
  | some q =>
   rw [hq] at h2;have : cJ (nP q) (nP l[j]) = true := h2;simp [this]
 ·rw [qN l k j h, if_neg ha]
theorem Vu {l : List PI} {k : Nat} (hk : k ≤ (hU nP l).length) : Bf l k l.length = (hU nP l)[k]? := by
 unfold Bf; rw [List.take_length]; exact Pp nP l k hk
theorem Zk (l : List PI) (k : Nat) : Bf l k 0 = none := Zv nP l _
theorem Pq (l : List PI) (σ : List (List D)) (hl : l.length ≤ 99999) : Ct Tryz.prog 98 [.sl false (l.map cG)] σ (fun r σ' => r = .sl true ((hU nP l).map cG) ∧ σ' = σ) := by
 refine zf (rs:=[.tmp 2]) Tryz.func98 Tryz.ntmps98 Tryz.results98 ?_;simp only [aQ];refine zr ⟨[2,3,48,49],[],[],[],[]⟩ fun _ _ Z=>?_;simp (disch:=omega)[or_imp,forall_and,dB];and_intros<;>(try omega);apply Z;refine zr ⟨[2,3,48,49],[],[],[],[]⟩ fun _ _ Z=>?_;simp (disch:=omega)[or_imp,forall_and,dB];and_intros<;>(try omega);apply Z;apply aK;refine zk [0,2,3] ?_;refine bQ (fun (k : Nat) => [(3, .d (.sl true (((hU nP l).take k).map cG)))]) [2, 3, 4, 5, 7, 8, 10, 11, 12, 13, 14, 15, 16, 17, 18, 19, 20, 21, 22, 23, 24, 25, 26, 27, 28, 29, 30, 31, 32, 33, 34, 35, 36, 37, 38, 39, 40, 41, 42, 43, 44, 45, 46, 47, 48, 49, 50, 51, 52] (fun (k : Nat) => k ≤ (hU nP l).length) (fun (k : Nat) => (hU nP l).length - k) (0) (by simp <;> rfl) ?_ ?_ ?_
 ·simp
 ·simp
 rintro k hk;simp only [List.cons_append, List.nil_append];have hol := jX nP l;have hlk : ((hU nP l).take k).length = k := by simp; omega
 apply aK;refine zr ⟨[2,3,48,49],[],[],[],[]⟩ fun _ _ Z=>?_;simp (disch:=omega)[or_imp,forall_and,dB];and_intros<;>(try omega);apply Z;refine zr ⟨[2,3,48,49],[],[],[],[]⟩ fun _ _ Z=>?_;simp (disch:=omega)[or_imp,forall_and,dB];and_intros<;>(try omega);apply Z;apply aD;refine zr ⟨[2,3,48,49],[],[],[],[]⟩ fun _ _ Z=>?_;simp (disch:=omega)[or_imp,forall_and,dB];and_intros<;>(try omega);apply Z;apply aK;refine zk [0,3,4,5,11,12,13] ?_;refine lP (fun (j : Nat) => [(13, .d (.v (.int .i64 (j : Int)))), (4, .d (.bool (Bf l k j).isSome)), (8, .d (.any))]) (fun (j : Nat) => [(0, [.v (.string ((nC l k j).name)), .v (.int .i64 ((nC l k j).value))])]) (fun (j : Nat) => []) [4, 7, 8, 13, 14, 15, 16, 17, 18, 19, 20, 21, 22, 23, 24, 25, 26, 27, 28, 29, 30, 31, 32, 33, 34, 35, 36, 37, 38, 39, 40, 41, 42, 43, 44, 45] (fun (j : Nat) => j ≤ l.length) (fun (j : Nat) => l.length - j) (0) (by simp <;> rfl) ?_ (by simp [nC, Zk]) (by simp) ?_ ?_
 ·simp [Zk, nC]
 ·simp
 rintro j hj;simp only [List.cons_append, List.nil_append, lL, kB, List.set_cons_zero, List.set_cons_succ];refine zr ⟨[2,3,48,49],[],[],[],[]⟩ fun _ _ Z=>?_;simp (disch:=omega)[or_imp,forall_and,dB];and_intros<;>(try omega);apply Z;apply aD;refine zi ?_;refine ⟨fun c1=>?_,fun c1=>?_⟩
 ·try simp at c1
  apply aH;apply aB;apply aD;apply aK;refine zr ⟨[2,3,48,49],[],[],[],[]⟩ fun _ _ Z=>?_;simp (disch:=omega)[or_imp,forall_and,dB];and_intros<;>(try omega);apply Z;refine zk [0,3,4,5,7,8,11,12,13] ?_;refine zd ⟨[2,3,48,49],[],[],[],[]⟩ [.op {},.op {},.op {},.op {},.op {},.op {rL:=true},.op {},.op {},.op {},.op {},.op {},.op {},.op {},.op {},.op {},.op {}] fun all hall _ Z=>?_;have ga3 : aS all 3 = some 20 := hall 3;refine aR 4 (by simp) fun _ Y=>?_;simp (disch:=omega)[or_imp,forall_and,dB,ga3];and_intros<;>(try omega);apply Y;simp only [List.drop];refine fD 20 (by simp <;> rfl) ?_;refine ⟨fun g2 => ?_, fun g2 => ?_⟩
  ·try simp at g2
   refine aR 8 (by simp) fun _ Y=>?_;simp (disch:=omega)[or_imp,forall_and,dB,ga3];and_intros<;>(try omega);apply Y;simp only [List.drop];simp (disch:=omega)[or_imp,forall_and,dB,ga3];and_intros<;>(try omega);apply Z;refine zk [0,3,4,5,7,8,11,12,13] ?_;refine lH ⟨[2,3,48,49],[],[],[],[]⟩ fun all hall _ Z=>?_;have ga1 : aS all 1 = some 33 := hall 1;have ga4 : aS all 4 = some 36 := hall 4;refine aA 2 fun _ Y=>?_;simp (disch:=omega)[or_imp,forall_and,dB,ga1,ga4];and_intros<;>(try omega);apply Y;simp only [List.drop];refine aA 3 fun _ Y=>?_;simp (disch:=omega)[or_imp,forall_and,dB,ga1,ga4];and_intros<;>(try omega);apply Y;simp only [List.drop];refine aX 36 (by simp <;> rfl) ?_;refine ⟨fun g3 => ?_, fun g3 => ?_⟩
   ·try simp at g3
    simp (disch:=omega)[or_imp,forall_and,dB,ga1,ga4];and_intros<;>(try omega);apply Z;refine bR (t := true) (by simp) (fun _ => ?_) (fun h => by cases h);refine zk [0,3,4,5,7,8,11,12,13] ?_;refine zr ⟨[2,3,48,49],[],[],[],[]⟩ fun _ _ Z=>?_;simp (disch:=omega)[or_imp,forall_and,dB];and_intros<;>(try omega);apply Z;refine zt ⟨[2,3,48,49],[],[],[],[]⟩ fun _ _ Z=>?_;simp (disch:=omega)[or_imp,forall_and,dB];and_intros<;>(try omega);apply Z;apply aP;apply aB;refine zt ⟨[2,3,48,49],[],[],[],[]⟩ fun _ _ Z=>?_;simp (disch:=omega)[or_imp,forall_and,dB];and_intros<;>(try omega);apply Z;first | have hcn := mJ (k := k) c1 (by first | (rw [show k = 0 from g2]; rfl) | (rw [kZ g2 hk]; exact g5)) (by first | exact .inl (by rw [g3]; rfl) | exact .inl (by rw [g6]; rfl) | exact .inr c4 | exact .inr c7) | have hcn := mI (k := k) c1 (by first | exact g3 | exact g6) (by first | exact c4 | exact c7) | have hcn := mQ (k := k) c1 (by rw [kZ g2 hk]; exact g5)
    refine bA (j + 1) ?_ ?_ (aW rfl ?_ (by simp [nC, hcn]) (by simp))
    ·omega
    ·try dsimp only
     omega
    ·simp (disch:=omega)[or_imp,forall_and,dB,hcn]
   ·try simp at g3
    simp (disch:=omega)[or_imp,forall_and,dB,ga1,ga4];and_intros<;>(try omega);apply Z;refine zi ?_;refine ⟨fun c4=>?_,fun c4=>?_⟩
    ·try simp at c4
     refine zk [0,3,4,5,7,8,11,12,13] ?_;refine zr ⟨[2,3,48,49],[],[],[],[]⟩ fun _ _ Z=>?_;simp (disch:=omega)[or_imp,forall_and,dB];and_intros<;>(try omega);apply Z;refine zt ⟨[2,3,48,49],[],[],[],[]⟩ fun _ _ Z=>?_;simp (disch:=omega)[or_imp,forall_and,dB];and_intros<;>(try omega);apply Z;apply aP;apply aB;refine zt ⟨[2,3,48,49],[],[],[],[]⟩ fun _ _ Z=>?_;simp (disch:=omega)[or_imp,forall_and,dB];and_intros<;>(try omega);apply Z;first | have hcn := mJ (k := k) c1 (by first | (rw [show k = 0 from g2]; rfl) | (rw [kZ g2 hk]; exact g5)) (by first | exact .inl (by rw [g3]; rfl) | exact .inl (by rw [g6]; rfl) | exact .inr c4 | exact .inr c7) | have hcn := mI (k := k) c1 (by first | exact g3 | exact g6) (by first | exact c4 | exact c7) | have hcn := mQ (k := k) c1 (by rw [kZ g2 hk]; exact g5)
     refine bA (j + 1) ?_ ?_ (aW rfl ?_ (by simp [nC, hcn]) (by simp))
     ·omega
     ·try dsimp only
      omega
     ·simp (disch:=omega)[or_imp,forall_and,dB,hcn]
    ·try simp at c4
     apply aH;apply aP;apply aB;refine zk [0,3,4,5,8,11,12,13] ?_;refine zt ⟨[2,3,48,49],[],[],[],[]⟩ fun _ _ Z=>?_;simp (disch:=omega)[or_imp,forall_and,dB];and_intros<;>(try omega);apply Z;first | have hcn := mJ (k := k) c1 (by first | (rw [show k = 0 from g2]; rfl) | (rw [kZ g2 hk]; exact g5)) (by first | exact .inl (by rw [g3]; rfl) | exact .inl (by rw [g6]; rfl) | exact .inr c4 | exact .inr c7) | have hcn := mI (k := k) c1 (by first | exact g3 | exact g6) (by first | exact c4 | exact c7) | have hcn := mQ (k := k) c1 (by rw [kZ g2 hk]; exact g5)
     refine bA (j + 1) ?_ ?_ (aW rfl ?_ (by simp [nC, hcn]) (by simp))
     ·omega
     ·try dsimp only
      omega
     ·simp (disch:=omega)[or_imp,forall_and,dB,hcn]
  ·try simp at g2
   refine aR 8 (by simp) fun _ Y=>?_;simp (disch:=omega)[or_imp,forall_and,dB,ga3];and_intros<;>(try omega);apply Y;simp only [List.drop];simp (disch:=omega)[or_imp,forall_and,dB,ga3];and_intros<;>(try omega);apply Z;refine zk [0,3,4,5,7,8,11,12,13] ?_;refine lH ⟨[2,3,48,49],[],[],[],[]⟩ fun all hall _ Z=>?_;have ga1 : aS all 1 = some 33 := hall 1;have ga4 : aS all 4 = some 36 := hall 4;refine aA 2 fun _ Y=>?_;simp (disch:=omega)[or_imp,forall_and,dB,ga1,ga4];and_intros<;>(try omega);apply Y;simp only [List.drop];refine aX 33 (by simp <;> rfl) ?_;refine ⟨fun g5 => ?_, fun g5 => ?_⟩
   ·try simp at g5
    refine aA 3 fun _ Y=>?_;simp (disch:=omega)[or_imp,forall_and,dB,ga1,ga4];and_intros<;>(try omega);apply Y;simp only [List.drop];refine aX 36 (by simp <;> rfl) ?_;refine ⟨fun g6 => ?_, fun g6 => ?_⟩
    ·try simp at g6
     simp (disch:=omega)[or_imp,forall_and,dB,ga1,ga4];and_intros<;>(try omega);apply Z;refine bR (t := true) (by simp) (fun _ => ?_) (fun h => by cases h);refine zk [0,3,4,5,7,8,11,12,13] ?_;refine zr ⟨[2,3,48,49],[],[],[],[]⟩ fun _ _ Z=>?_;simp (disch:=omega)[or_imp,forall_and,dB];and_intros<;>(try omega);apply Z;refine zt ⟨[2,3,48,49],[],[],[],[]⟩ fun _ _ Z=>?_;simp (disch:=omega)[or_imp,forall_and,dB];and_intros<;>(try omega);apply Z;apply aP;apply aB;refine zt ⟨[2,3,48,49],[],[],[],[]⟩ fun _ _ Z=>?_;simp (disch:=omega)[or_imp,forall_and,dB];and_intros<;>(try omega);apply Z;first | have hcn := mJ (k := k) c1 (by first | (rw [show k = 0 from g2]; rfl) | (rw [kZ g2 hk]; exact g5)) (by first | exact .inl (by rw [g3]; rfl) | exact .inl (by rw [g6]; rfl) | exact .inr c4 | exact .inr c7) | have hcn := mI (k := k) c1 (by first | exact g3 | exact g6) (by first | exact c4 | exact c7) | have hcn := mQ (k := k) c1 (by rw [kZ g2 hk]; exact g5)
     refine bA (j + 1) ?_ ?_ (aW rfl ?_ (by simp [nC, hcn]) (by simp))
     ·omega
     ·try dsimp only
      omega
     ·simp (disch:=omega)[or_imp,forall_and,dB,hcn]
    ·try simp at g6
     simp (disch:=omega)[or_imp,forall_and,dB,ga1,ga4];and_intros<;>(try omega);apply Z;refine zi ?_;refine ⟨fun c7=>?_,fun c7=>?_⟩
     ·try simp at c7
      refine zk [0,3,4,5,7,8,11,12,13] ?_;refine zr ⟨[2,3,48,49],[],[],[],[]⟩ fun _ _ Z=>?_;simp (disch:=omega)[or_imp,forall_and,dB];and_intros<;>(try omega);apply Z;refine zt ⟨[2,3,48,49],[],[],[],[]⟩ fun _ _ Z=>?_;simp (disch:=omega)[or_imp,forall_and,dB];and_intros<;>(try omega);apply Z;apply aP;apply aB;refine zt ⟨[2,3,48,49],[],[],[],[]⟩ fun _ _ Z=>?_;simp (disch:=omega)[or_imp,forall_and,dB];and_intros<;>(try omega);apply Z;first | have hcn := mJ (k := k) c1 (by first | (rw [show k = 0 from g2]; rfl) | (rw [kZ g2 hk]; exact g5)) (by first | exact .inl (by rw [g3]; rfl) | exact .inl (by rw [g6]; rfl) | exact .inr c4 | exact .inr c7) | have hcn := mI (k := k) c1 (by first | exact g3 | exact g6) (by first | exact c4 | exact c7) | have hcn := mQ (k := k) c1 (by rw [kZ g2 hk]; exact g5)
      refine bA (j + 1) ?_ ?_ (aW rfl ?_ (by simp [nC, hcn]) (by simp))
      ·omega
      ·try dsimp only
       omega
      ·simp (disch:=omega)[or_imp,forall_and,dB,hcn]
     ·try simp at c7
      apply aH;apply aP;apply aB;refine zk [0,3,4,5,8,11,12,13] ?_;refine zt ⟨[2,3,48,49],[],[],[],[]⟩ fun _ _ Z=>?_;simp (disch:=omega)[or_imp,forall_and,dB];and_intros<;>(try omega);apply Z;first | have hcn := mJ (k := k) c1 (by first | (rw [show k = 0 from g2]; rfl) | (rw [kZ g2 hk]; exact g5)) (by first | exact .inl (by rw [g3]; rfl) | exact .inl (by rw [g6]; rfl) | exact .inr c4 | exact .inr c7) | have hcn := mI (k := k) c1 (by first | exact g3 | exact g6) (by first | exact c4 | exact c7) | have hcn := mQ (k := k) c1 (by rw [kZ g2 hk]; exact g5)
      refine bA (j + 1) ?_ ?_ (aW rfl ?_ (by simp [nC, hcn]) (by simp))
      ·omega
      ·try dsimp only
       omega
      ·simp (disch:=omega)[or_imp,forall_and,dB,hcn]
   ·try simp at g5
    refine aA 8 fun _ Y=>?_;simp (disch:=omega)[or_imp,forall_and,dB,ga1,ga4];and_intros<;>(try omega);apply Y;simp only [List.drop];simp (disch:=omega)[or_imp,forall_and,dB,ga1,ga4];and_intros<;>(try omega);apply Z;refine bR (t := false) (by simp) (fun h => by cases h) (fun _ => ?_);apply aH;apply aP;apply aB;refine zk [0,3,4,5,8,11,12,13] ?_;refine zt ⟨[2,3,48,49],[],[],[],[]⟩ fun _ _ Z=>?_;simp (disch:=omega)[or_imp,forall_and,dB];and_intros<;>(try omega);apply Z;first | have hcn := mJ (k := k) c1 (by first | (rw [show k = 0 from g2]; rfl) | (rw [kZ g2 hk]; exact g5)) (by first | exact .inl (by rw [g3]; rfl) | exact .inl (by rw [g6]; rfl) | exact .inr c4 | exact .inr c7) | have hcn := mI (k := k) c1 (by first | exact g3 | exact g6) (by first | exact c4 | exact c7) | have hcn := mQ (k := k) c1 (by rw [kZ g2 hk]; exact g5)
    refine bA (j + 1) ?_ ?_ (aW rfl ?_ (by simp [nC, hcn]) (by simp))
    ·omega
    ·try dsimp only
     omega
    ·simp (disch:=omega)[or_imp,forall_and,dB,hcn]
 ·try simp at c1
  obtain rfl : j = l.length := by omega
  have hce := Vu hk;apply bK;apply bJ;apply bL;apply aY;apply aB;apply aD;refine zr ⟨[2,3,48,49],[],[],[],[]⟩ fun _ _ Z=>?_;simp (disch:=omega)[or_imp,forall_and,dB];and_intros<;>(try omega);apply Z;refine zi ?_;refine ⟨fun c8=>?_,fun c8=>?_⟩
  ·try simp at c8
   refine zr ⟨[2,3,48,49],[],[],[],[]⟩ fun _ _ Z=>?_;simp (disch:=omega)[or_imp,forall_and,dB];and_intros<;>(try omega);apply Z;apply aE;apply aL;apply aV;apply eE;apply aV;simp [aN];rw [hce] at c8;rw [List.take_of_length_le (by simpa using List.getElem?_eq_none_iff.1 c8)]
  ·try simp at c8
   have hk2 : k < (hU nP l).length := by
     rcases Nat.lt_or_ge k (hU nP l).length with h | h
     ·exact h
     ·rw [hce, List.getElem?_eq_none h] at c8; exact absurd c8 (by simp)
   have hcd : nC l k l.length = (hU nP l)[k] := by unfold nC; rw [hce, List.getElem?_eq_getElem hk2]; rfl
   have htk : List.take (k + 1) (List.map cG (hU nP l)) = List.take k (List.map cG (hU nP l)) ++ [cG (hU nP l)[k]] := by rw [cU _ k (by simpa using hk2), List.getElem_map]
   apply aH;apply aB;refine zt ⟨[2,3,48,49],[],[],[],[]⟩ fun _ _ Z=>?_;simp (disch:=omega)[or_imp,forall_and,dB];and_intros<;>(try omega);apply Z;apply aP;refine bA (k + 1) ?_ ?_ (aW rfl ?_ (by simp) (by simp))
   ·omega
   ·try dsimp only
    omega
   ·simp (disch:=omega)[or_imp,forall_and,dB,hcd,htk]
theorem Mg (l : List PI) (c : ByteArray) (σ : List (List D)) (hl : l.length ≤ 99999) (hs : cC nP l) : Ct Tryz.prog 101 [.sl false (l.map cG), D.str c] σ (fun r σ' => r = .sl true ((gW nP l c).map cG) ∧ σ' = σ) := by
 refine zf (rs:=[.tmp 4]) Tryz.func101 Tryz.ntmps101 Tryz.results101 ?_;simp only [aQ];refine zr ⟨[4,5,20,25],[],[],[],[]⟩ fun _ _ Z=>?_;simp (disch:=omega);and_intros<;>(try omega);apply Z;refine zr ⟨[4,5,20,25],[],[],[],[]⟩ fun _ _ Z=>?_;simp (disch:=omega);and_intros<;>(try omega);apply Z;apply aD;refine zr ⟨[4,5,20,25],[],[],[],[]⟩ fun _ _ Z=>?_;refine aA 1 fun _ Y=>?_;simp (disch:=omega);and_intros<;>(try omega);apply Y;simp only [List.drop];refine aG fun _ Y=>?_;simp (disch:=omega);refine cO (Pq l _ hl) ?_;rw [nV nP hs];apply Y;simp (disch:=omega);and_intros<;>(try omega);apply Z;apply aK;refine zk [1,4,5,10,11,12] ?_;refine bQ (fun (k : Nat) => [(12, .d (.v (.int .i64 (k : Int)))), (5, .d (.sl true ((gW nP (l.take k) c).map cG)))]) [5, 7, 12, 13, 14, 15, 16, 17, 18, 19, 20, 21, 22, 23, 24] (fun (k : Nat) => k ≤ l.length) (fun (k : Nat) => l.length - k) (0) (by simp <;> rfl) ?_ ?_ ?_
 ·simp [gW]
 ·simp
 rintro k hk;simp only [List.cons_append, List.nil_append];have hdl := rG nP (l.take k) c;simp only [List.length_take] at hdl;refine zr ⟨[4,5,20,25],[],[],[],[]⟩ fun _ _ Z=>?_;simp (disch:=omega);and_intros<;>(try omega);apply Z;apply aD;refine zi ?_;refine ⟨fun c1=>?_,fun c1=>?_⟩
 ·try simp at c1
  apply aH;apply aB;apply aD;apply aK;refine zr ⟨[4,5,20,25],[],[],[],[]⟩ fun _ _ Z=>?_;simp (disch:=omega);and_intros<;>(try omega);apply Z;refine zr ⟨[4,5,20,25],[],[],[],[]⟩ fun _ _ Z=>?_;simp (disch:=omega);and_intros<;>(try omega);apply Z;refine zi ?_;refine ⟨fun c2=>?_,fun c2=>?_⟩
  ·try simp at c2
   refine zk [1,4,5,7,10,11,12] ?_;refine zt ⟨[4,5,20,25],[],[],[],[]⟩ fun _ _ Z=>?_;simp (disch:=omega);and_intros<;>(try omega);apply Z;apply aP;apply aB;refine zk [1,4,5,10,11,12] ?_;refine zt ⟨[4,5,20,25],[],[],[],[]⟩ fun _ _ Z=>?_;simp (disch:=omega);and_intros<;>(try omega);apply Z;refine bA (k + 1) ?_ ?_ (aW rfl ?_ (by simp) (by simp))
   ·omega
   ·try dsimp only
    omega
   ·simp (disch:=omega)[oF, *]
  ·try simp at c2
   apply aH;apply aP;apply aB;refine zk [1,4,5,10,11,12] ?_;refine zt ⟨[4,5,20,25],[],[],[],[]⟩ fun _ _ Z=>?_;simp (disch:=omega);and_intros<;>(try omega);apply Z;refine bA (k + 1) ?_ ?_ (aW rfl ?_ (by simp) (by simp))
   ·omega
   ·try dsimp only
    omega
   ·simp (disch:=omega)[oF, *]
 ·try simp at c1
  apply bK;apply bJ;apply bL;apply aY;apply aB;refine zr ⟨[4,5,20,25],[],[],[],[]⟩ fun _ _ Z=>?_;simp (disch:=omega);and_intros<;>(try omega);apply Z;apply aE;simp [aN];rw [List.take_of_length_le (by omega)]
theorem Bq {l : List PI} {c : ByteArray} : kY nP l c = true ↔ ∃ j, ∃ h : j < l.length, l[j].name = c := by
 unfold kY;rw [List.any_eq_true];constructor
 ·rintro ⟨x, hx, e⟩;obtain ⟨j, hj, rfl⟩ := List.getElem_of_mem hx;exact ⟨j, hj, by simpa using e⟩
 ·rintro ⟨j, hj, e⟩;exact ⟨l[j], List.getElem_mem hj, by simpa using e⟩
theorem Ev {l : List PI} {c : ByteArray} {k j : Nat} (hh : ∀ j (h : j < l.length), k ≤ j → l[j].name ≠ c) {hk : k - 1 < l.length} (c2 : ¬ l[k - 1].name = c) (h : j < l.length) (h2 : k - 1 ≤ j) : l[j].name ≠ c := by
 rcases Nat.lt_or_ge j k with h3 | h3
 ·obtain rfl : j = k - 1 := by omega
  exact c2
 ·exact hh j h h3
theorem aAk {l : List PI} {c : ByteArray} (h : ∀ j (h : j < l.length), 0 ≤ j → l[j].name ≠ c) : kY nP l c = false := by
 rw [← Bool.not_eq_true, Bq];rintro ⟨j, hj, e⟩;exact h j hj (Nat.zero_le _) e
theorem Sd (l : List PI) (c : ByteArray) (σ : List (List D)) (hl : l.length ≤ 99999) : Ct Tryz.prog 100 [.sl false (l.map cG), D.str c] σ (fun r σ' => (∃ v : Int, r = .tup [D.int v, .bool (kY nP l c)]) ∧ σ' = σ) := by
 refine zf (rs:=[.tmp 4,.tmp 5]) Tryz.func100 Tryz.ntmps100 Tryz.results100 ?_;simp only [aQ];refine bC fun _ _ Z=>?_;simp (disch:=omega)[Nat.sub_add_cancel];and_intros<;>(try omega);apply Z;apply aD;refine bC fun _ _ Z=>?_;simp (disch:=omega)[Nat.sub_add_cancel];and_intros<;>(try omega);apply Z;apply aK;refine zk [0,1,4,5,6] ?_;refine bQ (fun (k : Nat) => [(6, .d (.int ((k : Int) - 1)))]) [4, 5, 6, 10, 11, 12, 13, 14, 15, 16, 17, 18, 19, 20, 21, 22, 23, 24, 25] (fun (k : Nat) => k ≤ l.length ∧ ∀ j (h : j < l.length), k ≤ j → l[j].name ≠ c) (fun (k : Nat) => k) (l.length) (by simp <;> rfl) ?_ ?_ ?_
 ·simp
 ·exact ⟨Nat.le_refl _, fun j h h2 => by omega⟩
 rintro k ⟨hk, hh⟩;simp only [List.cons_append, List.nil_append];have htn : 1 ≤ k → ((k : Int) - 1).toNat = k - 1 := fun h => by omega
 apply aD;refine bC fun _ _ Z=>?_;simp (disch:=omega)[Nat.sub_add_cancel];and_intros<;>(try omega);apply Z;refine zi ?_;refine ⟨fun c1=>?_,fun c1=>?_⟩
 ·try simp at c1
  have hk1 : 1 ≤ k := by omega
  have htn1 := htn hk1;apply aH;apply aB;apply aD;apply aK;refine bC fun _ _ Z=>?_;simp (disch:=omega)[Nat.sub_add_cancel];and_intros<;>(try omega);apply Z;refine zi ?_;refine ⟨fun c2=>?_,fun c2=>?_⟩
  ·try simp at c2
   refine zk [0,1,6] ?_;refine bC fun _ _ Z=>?_;simp (disch:=omega)[Nat.sub_add_cancel];and_intros<;>(try omega);apply Z;apply aE;apply aV;apply aL;apply eE;apply aV;apply aL;simp [aN];exact Bq.2 ⟨k - 1, by omega, c2⟩
  ·try simp at c2
   apply aH;apply aP;apply aB;refine zk [0,1,6] ?_;refine vS fun _ _ Z=>?_;simp (disch:=omega)[Nat.sub_add_cancel];and_intros<;>(try omega);apply Z;refine bA (k - 1) ?_ ?_ (aW rfl ?_ (by simp) (by simp))
   ·exact ⟨by omega, fun j h h2 => Ev hh c2 h h2⟩
   ·try dsimp only
    omega
   ·simp [wU]; omega
 ·try simp at c1
  apply bK;apply bJ;apply bL;apply aY;apply aB;refine bC fun _ _ Z=>?_;simp (disch:=omega)[Nat.sub_add_cancel];and_intros<;>(try omega);apply Z;apply aE;simp [aN];exact aAk fun j h _ => hh j h (by omega)
theorem Ah (l : List Int) (k : Nat) : (∀ d : D, d ∈ List.take k (List.map D.int l) → d.ncells = 1) ↔ True := by
 refine ⟨fun _ => trivial, fun _ d hd => ?_⟩;obtain ⟨a, _, rfl⟩ := List.mem_map.1 (List.mem_of_mem_take hd);rfl
theorem zI (l : List Int) (k : Nat) : (∀ d : D, d ∈ List.drop k (List.map D.int l) → d.ncells = 1) ↔ True := by
 refine ⟨fun _ => trivial, fun _ d hd => ?_⟩;obtain ⟨a, _, rfl⟩ := List.mem_map.1 (List.mem_of_mem_drop hd);rfl
theorem Sm (l : List Int) (x : Int) : (l.filter fun y => !decide (y = x)).length ≤ l.length := List.length_filter_le _ _
def eN (l : List Int) (x : Int) : List Int := l.filter fun y => !decide (y = x)
theorem yM (l : List Int) (x : Int) (k : Nat) (h : k < l.length) : eN (l.take (k + 1)) x = eN (l.take k) x ++ if l[k] = x then [] else [l[k]] := by
 unfold eN;rw [cU l k h, List.filter_append, List.filter_cons];by_cases e : l[k] = x <;> simp [e]
theorem Ij (l : List Int) (i : Nat) (x : Int) (σ : List (List D)) (hl : l.length ≤ 99999) (hi : i ≤ l.length) : Ct Tryz.prog 84 [.sl false (l.map D.int), D.int i, D.int x] σ (fun r σ' => r = .sl true ((dT l i x).map D.int) ∧ σ' = σ) := by
 refine zf (rs:=[.tmp 6]) Tryz.func84 Tryz.ntmps84 Tryz.results84 ?_;simp only [aQ];have htl : List.take l.length (List.map D.int l) = List.map D.int l := List.take_of_length_le (by simp);refine zr ⟨[6,7,13,17],[],[],[],[]⟩ fun _ _ Z=>?_;simp[Ah,zI,or_imp,forall_and,htl];and_intros<;>(try omega);apply Z;refine zr ⟨[6,7,13,17],[],[],[],[]⟩ fun _ _ Z=>?_;simp[Ah,zI,or_imp,forall_and,htl];and_intros<;>(try omega);apply Z;refine zr ⟨[6,7,13,17],[],[],[],[]⟩ fun _ _ Z=>?_;simp[Ah,zI,or_imp,forall_and,htl];and_intros<;>(try omega);apply Z;refine zk [0,1,6,7] ?_;refine zr ⟨[6,7,13,17],[],[],[],[]⟩ fun _ _ Z=>?_;simp[Ah,zI,or_imp,forall_and,htl];and_intros<;>(try omega);apply Z;apply aE;simp [aN, dT]
theorem tN (l : List Int) (x : Int) (σ : List (List D)) (hl : l.length ≤ 99999) : Ct Tryz.prog 87 [.sl false (l.map D.int), D.int x] σ (fun r σ' => r = .sl true ((eN l x).map D.int) ∧ σ' = σ) := by
 refine zf (rs:=[.tmp 4]) Tryz.func87 Tryz.ntmps87 Tryz.results87 ?_;simp only [aQ];refine zr ⟨[4,5,18,23],[],[],[],[]⟩ fun _ _ Z=>?_;simp (disch:=omega);and_intros<;>(try omega);apply Z;refine zr ⟨[4,5,18,23],[],[],[],[]⟩ fun _ _ Z=>?_;simp (disch:=omega);and_intros<;>(try omega);apply Z;apply aD;refine zr ⟨[4,5,18,23],[],[],[],[]⟩ fun _ _ Z=>?_;simp (disch:=omega);and_intros<;>(try omega);apply Z;apply aK;refine zk [1,4,5,9,10,11] ?_;refine bQ (fun (k : Nat) => [(11, .d (.v (.int .i64 (k : Int)))), (5, .d (.sl true ((eN (l.take k) x).map D.int)))]) [5, 7, 11, 12, 13, 14, 15, 16, 17, 18, 19, 20, 21, 22] (fun (k : Nat) => k ≤ l.length) (fun (k : Nat) => l.length - k) (0) (by simp <;> rfl) ?_ ?_ ?_
 ·simp [eN]
 ·simp
 rintro k hk;simp only [List.cons_append, List.nil_append];have hdl := Sm (l.take k) x;simp only [List.length_take] at hdl;have hdl2 : (eN (l.take k) x).length ≤ k := by unfold eN; omega
 refine zr ⟨[4,5,18,23],[],[],[],[]⟩ fun _ _ Z=>?_;simp (disch:=omega);and_intros<;>(try omega);apply Z;apply aD;refine zi ?_;refine ⟨fun c1=>?_,fun c1=>?_⟩
 ·try simp at c1
  apply aH;apply aB;apply aD;apply aK;refine zr ⟨[4,5,18,23],[],[],[],[]⟩ fun _ _ Z=>?_;simp (disch:=omega);and_intros<;>(try omega);apply Z;refine zr ⟨[4,5,18,23],[],[],[],[]⟩ fun _ _ Z=>?_;simp (disch:=omega);and_intros<;>(try omega);apply Z;refine zi ?_;refine ⟨fun c2=>?_,fun c2=>?_⟩
  ·try simp at c2
   refine zk [1,4,5,7,9,10,11] ?_;refine zt ⟨[4,5,18,23],[],[],[],[]⟩ fun _ _ Z=>?_;simp (disch:=omega);and_intros<;>(try omega);apply Z;apply aP;apply aB;refine zk [1,4,5,9,10,11] ?_;refine zt ⟨[4,5,18,23],[],[],[],[]⟩ fun _ _ Z=>?_;simp (disch:=omega);and_intros<;>(try omega);apply Z;refine bA (k + 1) ?_ ?_ (aW rfl ?_ (by simp) (by simp))
   ·omega
   ·try dsimp only
    omega
   ·simp (disch:=omega)[yM, *]
  ·try simp at c2
   apply aH;apply aP;apply aB;refine zk [1,4,5,9,10,11] ?_;refine zt ⟨[4,5,18,23],[],[],[],[]⟩ fun _ _ Z=>?_;simp (disch:=omega);and_intros<;>(try omega);apply Z;refine bA (k + 1) ?_ ?_ (aW rfl ?_ (by simp) (by simp))
   ·omega
   ·try dsimp only
    omega
   ·simp (disch:=omega)[yM, *]
 ·try simp at c1
  apply bK;apply bJ;apply bL;apply aY;apply aB;refine zr ⟨[4,5,18,23],[],[],[],[]⟩ fun _ _ Z=>?_;simp (disch:=omega);and_intros<;>(try omega);apply Z;apply aE;simp [aN];rw [List.take_of_length_le (by omega)]
theorem vG (a b : List Int) (σ : List (List D)) (ha : a.length ≤ 9223372036854775807) (hb : b.length ≤ 9223372036854775807) : Ct Tryz.prog 37 [.sl false (a.map D.int), .sl false (b.map D.int)] σ (fun r σ' => r = .bool (decide (a = b)) ∧ σ' = σ) := by
 refine zf (rs:=[.tmp 4]) Tryz.func37 Tryz.ntmps37 Tryz.results37 ?_;simp only [aQ];refine bC fun _ _ Z=>?_;simp (disch:=omega);and_intros<;>(try omega);apply Z;apply aD;refine bC fun _ _ Z=>?_;simp (disch:=omega);and_intros<;>(try omega);apply Z;refine zi ?_;refine ⟨fun c1=>?_,fun c1=>?_⟩
 ·try simp at c1
  refine bC fun _ _ Z=>?_;simp (disch:=omega);and_intros<;>(try omega);apply Z;apply aE;apply aL;simp [aN];intro e; subst e; exact absurd rfl c1
 ·try simp at c1
  apply aH;apply aB;apply aD;refine bC fun _ _ Z=>?_;simp (disch:=omega);and_intros<;>(try omega);apply Z;apply aK;refine zk [0,1,4,12,13] ?_;refine bQ (fun (k : Nat) => [(13, .d (.int k)), (5, .d (.any))]) [4, 5, 13, 14, 15, 16, 17, 18, 19, 20, 21, 22, 23, 24, 25] (fun (k : Nat) => k ≤ a.length ∧ a.take k = b.take k) (fun (k : Nat) => a.length - k) (0) (by simp <;> rfl) ?_ ?_ ?_
  ·simp
  ·simp
  rintro k ⟨hk, hh⟩;simp only [List.cons_append, List.nil_append];refine bC fun _ _ Z=>?_;simp (disch:=omega);and_intros<;>(try omega);apply Z;apply aD;refine zi ?_;refine ⟨fun c2=>?_,fun c2=>?_⟩
  ·try simp at c2
   apply aH;apply aB;apply aD;apply aK;refine bC fun _ _ Z=>?_;simp (disch:=omega);and_intros<;>(try omega);apply Z;refine zd ⟨[],[],[],[],[]⟩ [.op {},.op {},.op {},.op {},.op {},.op {},.op {},.op {},.op {}] fun all hall _ Z=>?_;refine aR 8 (by simp) fun _ Y=>?_;simp (disch:=omega);and_intros<;>(try omega);apply Y;simp only [List.drop];simp (disch:=omega);and_intros<;>(try omega);apply Z;refine zi ?_;refine ⟨fun c3=>?_,fun c3=>?_⟩
   ·try simp at c3
    refine zk [0,1,5,12,13] ?_;refine bC fun _ _ Z=>?_;simp (disch:=omega);and_intros<;>(try omega);apply Z;apply aE;apply aV;apply aL;apply eE;apply aV;apply aL;simp [aN];intro e; subst e; exact c3 rfl
   ·try simp at c3
    apply aH;apply aP;apply aB;refine zk [0,1,5,12,13] ?_;refine vS fun _ _ Z=>?_;simp (disch:=omega);and_intros<;>(try omega);apply Z;refine bA (k + 1) ?_ ?_ (aW rfl ?_ (by simp) (by simp))
    ·exact ⟨by omega, by rw [cU a k (by omega), cU b k (by omega), hh]; simp [*]⟩
    ·try dsimp only
     omega
    ·simp (disch:=omega)
  ·try simp at c2
   apply bK;apply bJ;apply bL;apply aY;apply aB;refine bC fun _ _ Z=>?_;simp (disch:=omega);and_intros<;>(try omega);apply Z;apply aE;simp [aN]
   rwa [List.take_of_length_le (by omega), List.take_of_length_le (by omega)] at hh
end Go.Proofs.YtpfmpeaekgdgnaaGreat

