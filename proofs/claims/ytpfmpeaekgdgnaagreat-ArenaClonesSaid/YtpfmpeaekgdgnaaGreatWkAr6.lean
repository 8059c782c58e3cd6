import Derived.Test.YtpfmpeaekgdgnaaGreatWkAr5
namespace Go.Proofs.YtpfmpeaekgdgnaaGreat
open Go Go.Vm
set_option maxRecDepth 20000
set_option linter.all false
set_option maxHeartbeats 8000000
section
variable {o : List AT} {b : Bool} {x p : AT}
theorem sX (hb : b = false) (h : Op.bytesLess x.name.toList p.name.toList = false) (e : x.name = p.name) : gL nA p (o, b) x = (o ++ [p], true) := by
 have e' : nA x = nA p := e;have h2 : b = false ∧ cL (nA x) (nA p) = false := ⟨hb, h⟩;unfold gL; dsimp only; rw [if_pos e', if_pos h2]
theorem tV (hb : b = false) (h : Op.bytesLess x.name.toList p.name.toList = false) (e : ¬ x.name = p.name) : gL nA p (o, b) x = (o ++ [p] ++ [x], true) := by
 have e' : ¬ nA x = nA p := e;have h2 : b = false ∧ cL (nA x) (nA p) = false := ⟨hb, h⟩;unfold gL; dsimp only; rw [if_neg e', if_pos h2]
theorem tB (h : Op.bytesLess x.name.toList p.name.toList = true) (e : x.name = p.name) : gL nA p (o, b) x = (o, b) := by
 have e' : nA x = nA p := e;have h2 : ¬ (b = false ∧ cL (nA x) (nA p) = false) := fun q => by have h3 : cL (nA x) (nA p) = true := h; rw [h3] at q; cases q.2
 unfold gL; dsimp only; rw [if_pos e', if_neg h2]
theorem tP (h : Op.bytesLess x.name.toList p.name.toList = true) (e : ¬ x.name = p.name) : gL nA p (o, b) x = (o ++ [x], b) := by
 have e' : ¬ nA x = nA p := e;have h2 : ¬ (b = false ∧ cL (nA x) (nA p) = false) := fun q => by have h3 : cL (nA x) (nA p) = true := h; rw [h3] at q; cases q.2
 unfold gL; dsimp only; rw [if_neg e', if_neg h2]
theorem sT (h : b = true) (e : x.name = p.name) : gL nA p (o, b) x = (o, b) := by
 have e' : nA x = nA p := e;have h2 : ¬ (b = false ∧ cL (nA x) (nA p) = false) := fun q => by rw [h] at q; cases q.1
 unfold gL; dsimp only; rw [if_pos e', if_neg h2]
theorem sY (h : b = true) (e : ¬ x.name = p.name) : gL nA p (o, b) x = (o ++ [x], b) := by
 have e' : ¬ nA x = nA p := e;have h2 : ¬ (b = false ∧ cL (nA x) (nA p) = false) := fun q => by rw [h] at q; cases q.1
 unfold gL; dsimp only; rw [if_neg e', if_neg h2]
end
theorem Ej (l : List AT) (p : AT) (σ : List (List D)) (hl : l.length ≤ 99999) (hs : cG nA l) : Ct Tryz.prog 97 [.sl false (l.map cZ), cZ p] σ (fun r σ' => r = .sl true ((eH nA l p).map cZ) ∧ σ' = σ) := by
 refine zf (rs:=[.tmp 4]) Tryz.func97 Tryz.ntmps97 Tryz.results97 ?_;simp only [aQ];refine zr ⟨[4,5,25,34,41,45],[],[],[],[]⟩ fun _ _ Z=>?_;simp (disch:=omega)[or_imp,forall_and];and_intros<;>(try omega);apply Z;refine zr ⟨[4,5,25,34,41,45],[],[],[],[]⟩ fun _ _ Z=>?_;simp (disch:=omega)[or_imp,forall_and];and_intros<;>(try omega);apply Z;refine zr ⟨[4,5,25,34,41,45],[],[],[],[]⟩ fun _ _ Z=>?_;simp (disch:=omega)[or_imp,forall_and];and_intros<;>(try omega);apply Z;apply aD;refine zr ⟨[4,5,25,34,41,45],[],[],[],[]⟩ fun _ _ Z=>?_;simp (disch:=omega)[or_imp,forall_and];and_intros<;>(try omega);apply Z;apply aK;refine zk [3,4,5,6,10,11,12] ?_;refine bR (fun (k : Nat) => [(12, .d (.v (.int .i64 (k : Int)))), (5, .d (.sl true ((jX nA (l.take k) p).1.map cZ))), (6, .d (.bool (jX nA (l.take k) p).2))]) [5, 6, 8, 12, 13, 14, 15, 16, 17, 18, 19, 20, 21, 22, 23, 24, 25, 26, 27, 28, 29, 30, 31, 32, 33, 34, 35, 36, 37, 38] (fun (k : Nat) => k ≤ l.length) (fun (k : Nat) => l.length - k) (0) (by simp <;> rfl) ?_ ?_ ?_
 ·simp [jX]
 ·simp
 rintro k hk;simp only [List.cons_append, List.nil_append];have hpl := Mq nA (l.take k) p;simp only [List.length_take] at hpl;generalize hps : jX nA (l.take k) p = s at hpl ⊢;obtain ⟨o, b⟩ := s;have hpl2 : o.length ≤ k + 1 := by simp only at hpl; split at hpl <;> omega
 dsimp only;refine zr ⟨[4,5,25,34,41,45],[],[],[],[]⟩ fun _ _ Z=>?_;simp (disch:=omega)[or_imp,forall_and];and_intros<;>(try omega);apply Z;apply aD;refine zi ?_;refine ⟨fun c1=>?_,fun c1=>?_⟩
 ·try simp at c1
  apply aG;apply aB;apply aD;apply aK;refine zr ⟨[4,5,25,34,41,45],[],[],[],[]⟩ fun _ _ Z=>?_;simp (disch:=omega)[or_imp,forall_and];and_intros<;>(try omega);apply Z;apply aD;refine lA ⟨[4,5,25,34,41,45],[],[],[],[]⟩ fun all hall _ Z=>?_;have ga2 : aR all 2 = some 18 := hall 2;refine aA 3 fun _ Y=>?_;simp (disch:=omega)[or_imp,forall_and,ga2];and_intros<;>(try omega);apply Y;simp only [List.drop];refine aX 18 (by simp <;> rfl) ?_;refine ⟨fun g2 => ?_, fun g2 => ?_⟩
  ·try simp at g2
   simp (disch:=omega)[or_imp,forall_and,ga2];and_intros<;>(try omega);apply Z;refine zi ?_;refine ⟨fun c3=>?_,fun c3=>?_⟩
   ·try simp at c3
    refine zk [3,4,5,6,8,10,11,12] ?_;refine zr ⟨[4,5,25,34,41,45],[],[],[],[]⟩ fun _ _ Z=>?_;simp (disch:=omega)[or_imp,forall_and];and_intros<;>(try omega);apply Z;refine zk [3,4,5,6,8,10,11,12] ?_;refine zt ⟨[4,5,25,34,41,45],[],[],[],[]⟩ fun _ _ Z=>?_;simp (disch:=omega)[or_imp,forall_and];and_intros<;>(try omega);apply Z;apply aB;refine zr ⟨[4,5,25,34,41,45],[],[],[],[]⟩ fun _ _ Z=>?_;simp (disch:=omega)[or_imp,forall_and];and_intros<;>(try omega);apply Z;refine zi ?_;refine ⟨fun c4=>?_,fun c4=>?_⟩
    ·try simp at c4
     refine zk [3,4,5,6,8,10,11,12] ?_;refine zt ⟨[4,5,25,34,41,45],[],[],[],[]⟩ fun _ _ Z=>?_;simp (disch:=omega)[or_imp,forall_and];and_intros<;>(try omega);apply Z;apply aP;apply aB;refine zk [3,4,5,6,10,11,12] ?_;refine zt ⟨[4,5,25,34,41,45],[],[],[],[]⟩ fun _ _ Z=>?_;simp (disch:=omega)[or_imp,forall_and];and_intros<;>(try omega);apply Z;refine bB (k + 1) ?_ ?_ (aW rfl ?_ (by simp) (by simp))
     ·omega
     ·try dsimp only
      omega
     ·rw [jF nA l p k (by omega), hps];first | rw [sX (by assumption) (by assumption) (by assumption)] | rw [tV (by assumption) (by assumption) (by assumption)] | rw [tB (by assumption) (by assumption)] | rw [tP (by assumption) (by assumption)] | rw [sT (by first | assumption | simpa using g2) (by assumption)] | rw [sY (by first | assumption | simpa using g2) (by assumption)]
      simp [*]
    ·try simp at c4
     apply aG;apply aP;apply aB;refine zk [3,4,5,6,10,11,12] ?_;refine zt ⟨[4,5,25,34,41,45],[],[],[],[]⟩ fun _ _ Z=>?_;simp (disch:=omega)[or_imp,forall_and];and_intros<;>(try omega);apply Z;refine bB (k + 1) ?_ ?_ (aW rfl ?_ (by simp) (by simp))
     ·omega
     ·try dsimp only
      omega
     ·rw [jF nA l p k (by omega), hps];first | rw [sX (by assumption) (by assumption) (by assumption)] | rw [tV (by assumption) (by assumption) (by assumption)] | rw [tB (by assumption) (by assumption)] | rw [tP (by assumption) (by assumption)] | rw [sT (by first | assumption | simpa using g2) (by assumption)] | rw [sY (by first | assumption | simpa using g2) (by assumption)]
      simp [*]
   ·try simp at c3
    apply aG;apply aB;refine zk [3,4,5,6,8,10,11,12] ?_;refine zr ⟨[4,5,25,34,41,45],[],[],[],[]⟩ fun _ _ Z=>?_;simp (disch:=omega)[or_imp,forall_and];and_intros<;>(try omega);apply Z;refine zi ?_;refine ⟨fun c5=>?_,fun c5=>?_⟩
    ·try simp at c5
     refine zk [3,4,5,6,8,10,11,12] ?_;refine zt ⟨[4,5,25,34,41,45],[],[],[],[]⟩ fun _ _ Z=>?_;simp (disch:=omega)[or_imp,forall_and];and_intros<;>(try omega);apply Z;apply aP;apply aB;refine zk [3,4,5,6,10,11,12] ?_;refine zt ⟨[4,5,25,34,41,45],[],[],[],[]⟩ fun _ _ Z=>?_;simp (disch:=omega)[or_imp,forall_and];and_intros<;>(try omega);apply Z;refine bB (k + 1) ?_ ?_ (aW rfl ?_ (by simp) (by simp))
     ·omega
     ·try dsimp only
      omega
     ·rw [jF nA l p k (by omega), hps];first | rw [sX (by assumption) (by assumption) (by assumption)] | rw [tV (by assumption) (by assumption) (by assumption)] | rw [tB (by assumption) (by assumption)] | rw [tP (by assumption) (by assumption)] | rw [sT (by first | assumption | simpa using g2) (by assumption)] | rw [sY (by first | assumption | simpa using g2) (by assumption)]
      simp [*]
    ·try simp at c5
     apply aG;apply aP;apply aB;refine zk [3,4,5,6,10,11,12] ?_;refine zt ⟨[4,5,25,34,41,45],[],[],[],[]⟩ fun _ _ Z=>?_;simp (disch:=omega)[or_imp,forall_and];and_intros<;>(try omega);apply Z;refine bB (k + 1) ?_ ?_ (aW rfl ?_ (by simp) (by simp))
     ·omega
     ·try dsimp only
      omega
     ·rw [jF nA l p k (by omega), hps];first | rw [sX (by assumption) (by assumption) (by assumption)] | rw [tV (by assumption) (by assumption) (by assumption)] | rw [tB (by assumption) (by assumption)] | rw [tP (by assumption) (by assumption)] | rw [sT (by first | assumption | simpa using g2) (by assumption)] | rw [sY (by first | assumption | simpa using g2) (by assumption)]
      simp [*]
  ·try simp at g2
   simp (disch:=omega)[or_imp,forall_and,ga2];and_intros<;>(try omega);apply Z;refine bT (t := false) (by simp) (fun h => by cases h) (fun _ => ?_);apply aG;apply aB;refine zk [3,4,5,6,8,10,11,12] ?_;refine zr ⟨[4,5,25,34,41,45],[],[],[],[]⟩ fun _ _ Z=>?_;simp (disch:=omega)[or_imp,forall_and];and_intros<;>(try omega);apply Z;refine zi ?_;refine ⟨fun c6=>?_,fun c6=>?_⟩
   ·try simp at c6
    refine zk [3,4,5,6,8,10,11,12] ?_;refine zt ⟨[4,5,25,34,41,45],[],[],[],[]⟩ fun _ _ Z=>?_;simp (disch:=omega)[or_imp,forall_and];and_intros<;>(try omega);apply Z;apply aP;apply aB;refine zk [3,4,5,6,10,11,12] ?_;refine zt ⟨[4,5,25,34,41,45],[],[],[],[]⟩ fun _ _ Z=>?_;simp (disch:=omega)[or_imp,forall_and];and_intros<;>(try omega);apply Z;refine bB (k + 1) ?_ ?_ (aW rfl ?_ (by simp) (by simp))
    ·omega
    ·try dsimp only
     omega
    ·rw [jF nA l p k (by omega), hps];first | rw [sX (by assumption) (by assumption) (by assumption)] | rw [tV (by assumption) (by assumption) (by assumption)] | rw [tB (by assumption) (by assumption)] | rw [tP (by assumption) (by assumption)] | rw [sT (by first | assumption | simpa using g2) (by assumption)] | rw [sY (by first | assumption | simpa using g2) (by assumption)]
     simp [*]
   ·try simp at c6
    apply aG;apply aP;apply aB;refine zk [3,4,5,6,10,11,12] ?_;refine zt ⟨[4,5,25,34,41,45],[],[],[],[]⟩ fun _ _ Z=>?_;simp (disch:=omega)[or_imp,forall_and];and_intros<;>(try omega);apply Z;refine bB (k + 1) ?_ ?_ (aW rfl ?_ (by simp) (by simp))
    ·omega
    ·try dsimp only
     omega
    ·rw [jF nA l p k (by omega), hps];first | rw [sX (by assumption) (by assumption) (by assumption)] | rw [tV (by assumption) (by assumption) (by assumption)] | rw [tB (by assumption) (by assumption)] | rw [tP (by assumption) (by assumption)] | rw [sT (by first | assumption | simpa using g2) (by assumption)] | rw [sY (by first | assumption | simpa using g2) (by assumption)]
     simp [*]
 ·try simp at c1
  obtain rfl : k = l.length := by omega
  rw [List.take_length] at hps;apply bN;apply bP;apply bO;apply bG;apply aB;apply aD;refine zr ⟨[4,5,25,34,41,45],[],[],[],[]⟩ fun _ _ Z=>?_;simp (disch:=omega)[or_imp,forall_and];and_intros<;>(try omega);apply Z;refine zi ?_;refine ⟨fun c7=>?_,fun c7=>?_⟩
  ·try simp at c7
   refine zt ⟨[4,5,25,34,41,45],[],[],[],[]⟩ fun _ _ Z=>?_;simp (disch:=omega)[or_imp,forall_and];and_intros<;>(try omega);apply Z;apply aB;refine zk [4,5] ?_;refine zr ⟨[4,5,25,34,41,45],[],[],[],[]⟩ fun _ _ Z=>?_;simp (disch:=omega)[or_imp,forall_and];and_intros<;>(try omega);apply Z;apply aC;simp [aM];rw [← zV nA hs p, hps]; simp [Oi, *]
  ·try simp at c7
   apply aG;apply aB;refine zr ⟨[4,5,25,34,41,45],[],[],[],[]⟩ fun _ _ Z=>?_;simp (disch:=omega)[or_imp,forall_and];and_intros<;>(try omega);apply Z;apply aC;simp [aM];rw [← zV nA hs p, hps]; simp [Oi, *]
def Co (l : List PI) (k j : Nat) : Option PI := yK nP (l.take j) ((iC nP l).take k)
def nZ (l : List PI) (k j : Nat) : PI := (Co l k j).getD ⟨⟨#[]⟩, 0⟩
def ahd (l : List PI) (k : Nat) (c : ByteArray) : Bool := jU nP ((iC nP l).take k) c
theorem aEc (l : List PI) (k : Nat) (c : ByteArray) (h : k < (iC nP l).length) : ahd l (k + 1) c = cL (iC nP l)[k].name c := by
 unfold ahd jU; rw [cV (iC nP l) k h, List.getLast?_concat]
theorem qT (l : List PI) (k j : Nat) (h : j < l.length) : Co l k (j + 1) = if ahd l k l[j].name = true then (match Co l k j with | none => some l[j] | some q => if cL (nP q) (nP l[j]) = true then some q else some l[j]) else Co l k j := by
 have e := On nP l ((iC nP l).take k) j h;unfold Co ahd;rw [e];cases yK nP (l.take j) ((iC nP l).take k) <;> rfl
theorem lJ {l : List PI} {k : Nat} (g : ¬ k = 0) (hk : k ≤ (iC nP l).length) (c : ByteArray) : ahd l k c = cL ((iC nP l)[k - 1]'(by omega)).name c := by
 obtain ⟨m, rfl⟩ : ∃ m, k = m + 1 := ⟨k - 1, by omega⟩;exact aEc l m c (by omega)
theorem dF (l : List PI) (k : Nat) : (∀ d : D, d ∈ List.take k (List.map cQ l) → d.ncells = 2) ↔ True := by
 refine ⟨fun _ => trivial, fun _ d hd => ?_⟩;obtain ⟨a, _, rfl⟩ := List.mem_map.1 (List.mem_of_mem_take hd);rfl
theorem mI {l : List PI} {k j : Nat} (h : j < l.length) (ha : ahd l k l[j].name = true) (hc : (Co l k j).isSome = false ∨ cL (nZ l k j).name l[j].name = false) : Co l k (j + 1) = some l[j] := by
 rw [qT l k j h, if_pos ha];unfold nZ at hc;cases hq : Co l k j with
 | none => rfl
 | some q =>
  rw [hq] at hc;have : cL (nP q) (nP l[j]) = false := by simpa using hc
  simp [this]
theorem mS {l : List PI} {k j : Nat} (h : j < l.length) (ha : ahd l k l[j].name = false) : Co l k (j + 1) = Co l k j := by
 rw [qT l k j h, if_neg (by rw [ha]; simp)]
theorem mU {l : List PI} {k j : Nat} (h : j < l.length) (h1 : (Co l k j).isSome = true) (h2 : cL (nZ l k j).name l[j].name = true) : Co l k (j + 1) = Co l k j := by
 by_cases ha : ahd l k l[j].name = true
 ·rw [qT l k j h, if_pos ha];unfold nZ at h2;cases hq : Co l k j with
  | none => rw [hq] at h1; cases h1
  | some q =>
   rw [hq] at h2;have : cL (nP q) (nP l[j]) = true := h2;simp [this]
 ·rw [qT l k j h, if_neg ha]
theorem aAj {l : List PI} {k : Nat} (hk : k ≤ (iC nP l).length) : Co l k l.length = (iC nP l)[k]? := by
 unfold Co; rw [List.take_length]; exact Wj nP l k hk
theorem aAy (l : List PI) (k : Nat) : Co l k 0 = none := aC6 nP l _
theorem Vv (l : List PI) (σ : List (List D)) (hl : l.length ≤ 99999) : Ct Tryz.prog 98 [.sl false (l.map cQ)] σ (fun r σ' => r = .sl true ((iC nP l).map cQ) ∧ σ' = σ) := by
 refine zf (rs:=[.tmp 2]) Tryz.func98 Tryz.ntmps98 Tryz.results98 ?_;simp only [aQ];refine zr ⟨[2,3,48,49],[],[],[],[]⟩ fun _ _ Z=>?_;simp (disch:=omega)[or_imp,forall_and,dF];and_intros<;>(try omega);apply Z;refine zr ⟨[2,3,48,49],[],[],[],[]⟩ fun _ _ Z=>?_;simp (disch:=omega)[or_imp,forall_and,dF];and_intros<;>(try omega);apply Z;apply aK;refine zk [0,2,3] ?_;refine bR (fun (k : Nat) => [(3, .d (.sl true (((iC nP l).take k).map cQ)))]) [2, 3, 4, 5, 7, 8, 10, 11, 12, 13, 14, 15, 16, 17, 18, 19, 20, 21, 22, 23, 24, 25, 26, 27, 28, 29, 30, 31, 32, 33, 34, 35, 36, 37, 38, 39, 40, 41, 42, 43, 44, 45, 46, 47, 48, 49, 50, 51, 52] (fun (k : Nat) => k ≤ (iC nP l).length) (fun (k : Nat) => (iC nP l).length - k) (0) (by simp <;> rfl) ?_ ?_ ?_
 ·simp
 ·simp
 rintro k hk;simp only [List.cons_append, List.nil_append];have hol := jY nP l;have hlk : ((iC nP l).take k).length = k := by simp; omega
 apply aK;refine zr ⟨[2,3,48,49],[],[],[],[]⟩ fun _ _ Z=>?_;simp (disch:=omega)[or_imp,forall_and,dF];and_intros<;>(try omega);apply Z;refine zr ⟨[2,3,48,49],[],[],[],[]⟩ fun _ _ Z=>?_;simp (disch:=omega)[or_imp,forall_and,dF];and_intros<;>(try omega);apply Z;apply aD;refine zr ⟨[2,3,48,49],[],[],[],[]⟩ fun _ _ Z=>?_;simp (disch:=omega)[or_imp,forall_and,dF];and_intros<;>(try omega);apply Z;apply aK;refine zk [0,3,4,5,11,12,13] ?_;refine lW (fun (j : Nat) => [(13, .d (.v (.int .i64 (j : Int)))), (4, .d (.bool (Co l k j).isSome)), (8, .d (.any))]) (fun (j : Nat) => [(0, [.v (.string ((nZ l k j).name)), .v (.int .i64 ((nZ l k j).value))])]) (fun (j : Nat) => []) [4, 7, 8, 13, 14, 15, 16, 17, 18, 19, 20, 21, 22, 23, 24, 25, 26, 27, 28, 29, 30, 31, 32, 33, 34, 35, 36, 37, 38, 39, 40, 41, 42, 43, 44, 45] (fun (j : Nat) => j ≤ l.length) (fun (j : Nat) => l.length - j) (0) (by simp <;> rfl) ?_ (by simp [nZ, aAy]) (by simp) ?_ ?_
 ·simp [aAy, nZ]
 ·simp
 rintro j hj;simp only [List.cons_append, List.nil_append, mC, kH, List.set_cons_zero, List.set_cons_succ];refine zr ⟨[2,3,48,49],[],[],[],[]⟩ fun _ _ Z=>?_;simp (disch:=omega)[or_imp,forall_and,dF];and_intros<;>(try omega);apply Z;apply aD;refine zi ?_;refine ⟨fun c1=>?_,fun c1=>?_⟩
 ·try simp at c1
  apply aG;apply aB;apply aD;apply aK;refine zr ⟨[2,3,48,49],[],[],[],[]⟩ fun _ _ Z=>?_;simp (disch:=omega)[or_imp,forall_and,dF];and_intros<;>(try omega);apply Z;refine zk [0,3,4,5,7,8,11,12,13] ?_;refine zd ⟨[2,3,48,49],[],[],[],[]⟩ [.op {},.op {},.op {},.op {},.op {},.op {rL:=true},.op {},.op {},.op {},.op {},.op {},.op {},.op {},.op {},.op {},.op {}] fun all hall _ Z=>?_;have ga3 : aR all 3 = some 20 := hall 3;refine aO 4 (by simp) fun _ Y=>?_;simp (disch:=omega)[or_imp,forall_and,dF,ga3];and_intros<;>(try omega);apply Y;simp only [List.drop];refine fI 20 (by simp <;> rfl) ?_;refine ⟨fun g2 => ?_, fun g2 => ?_⟩
  ·try simp at g2
   refine aO 8 (by simp) fun _ Y=>?_;simp (disch:=omega)[or_imp,forall_and,dF,ga3];and_intros<;>(try omega);apply Y;simp only [List.drop];simp (disch:=omega)[or_imp,forall_and,dF,ga3];and_intros<;>(try omega);apply Z;refine zk [0,3,4,5,7,8,11,12,13] ?_;refine lA ⟨[2,3,48,49],[],[],[],[]⟩ fun all hall _ Z=>?_;have ga1 : aR all 1 = some 33 := hall 1;have ga4 : aR all 4 = some 36 := hall 4;refine aA 2 fun _ Y=>?_;simp (disch:=omega)[or_imp,forall_and,dF,ga1,ga4];and_intros<;>(try omega);apply Y;simp only [List.drop];refine aA 3 fun _ Y=>?_;simp (disch:=omega)[or_imp,forall_and,dF,ga1,ga4];and_intros<;>(try omega);apply Y;simp only [List.drop];refine aX 36 (by simp <;> rfl) ?_;refine ⟨fun g3 => ?_, fun g3 => ?_⟩
   ·try simp at g3
    simp (disch:=omega)[or_imp,forall_and,dF,ga1,ga4];and_intros<;>(try omega);apply Z;refine bT (t := true) (by simp) (fun _ => ?_) (fun h => by cases h);refine zk [0,3,4,5,7,8,11,12,13] ?_;refine zr ⟨[2,3,48,49],[],[],[],[]⟩ fun _ _ Z=>?_;simp (disch:=omega)[or_imp,forall_and,dF];and_intros<;>(try omega);apply Z;refine zt ⟨[2,3,48,49],[],[],[],[]⟩ fun _ _ Z=>?_;simp (disch:=omega)[or_imp,forall_and,dF];and_intros<;>(try omega);apply Z;apply aP;apply aB;refine zt ⟨[2,3,48,49],[],[],[],[]⟩ fun _ _ Z=>?_;simp (disch:=omega)[or_imp,forall_and,dF];and_intros<;>(try omega);apply Z;first | have hcn := mI (k := k) c1 (by first | (rw [show k = 0 from g2]; rfl) | (rw [lJ g2 hk]; exact g5)) (by first | exact .inl (by rw [g3]; rfl) | exact .inl (by rw [g6]; rfl) | exact .inr c4 | exact .inr c7) | have hcn := mU (k := k) c1 (by first | exact g3 | exact g6) (by first | exact c4 | exact c7) | have hcn := mS (k := k) c1 (by rw [lJ g2 hk]; exact g5)
    refine bB (j + 1) ?_ ?_ (aW rfl ?_ (by simp [nZ, hcn]) (by simp))
    ·omega
    ·try dsimp only
     omega
    ·simp (disch:=omega)[or_imp,forall_and,dF,hcn]
   ·try simp at g3
    simp (disch:=omega)[or_imp,forall_and,dF,ga1,ga4];and_intros<;>(try omega);apply Z;refine zi ?_;refine ⟨fun c4=>?_,fun c4=>?_⟩
    ·try simp at c4
     refine zk [0,3,4,5,7,8,11,12,13] ?_;refine zr ⟨[2,3,48,49],[],[],[],[]⟩ fun _ _ Z=>?_;simp (disch:=omega)[or_imp,forall_and,dF];and_intros<;>(try omega);apply Z;refine zt ⟨[2,3,48,49],[],[],[],[]⟩ fun _ _ Z=>?_;simp (disch:=omega)[or_imp,forall_and,dF];and_intros<;>(try omega);apply Z;apply aP;apply aB;refine zt ⟨[2,3,48,49],[],[],[],[]⟩ fun _ _ Z=>?_;simp (disch:=omega)[or_imp,forall_and,dF];and_intros<;>(try omega);apply Z;first | have hcn := mI (k := k) c1 (by first | (rw [show k = 0 from g2]; rfl) | (rw [lJ g2 hk]; exact g5)) (by first | exact .inl (by rw [g3]; rfl) | exact .inl (by rw [g6]; rfl) | exact .inr c4 | exact .inr c7) | have hcn := mU (k := k) c1 (by first | exact g3 | exact g6) (by first | exact c4 | exact c7) | have hcn := mS (k := k) c1 (by rw [lJ g2 hk]; exact g5)
     refine bB (j + 1) ?_ ?_ (aW rfl ?_ (by simp [nZ, hcn]) (by simp))
     ·omega
     ·try dsimp only
      omega
     ·simp (disch:=omega)[or_imp,forall_and,dF,hcn]
    ·try simp at c4
     apply aG;apply aP;apply aB;refine zk [0,3,4,5,8,11,12,13] ?_;refine zt ⟨[2,3,48,49],[],[],[],[]⟩ fun _ _ Z=>?_;simp (disch:=omega)[or_imp,forall_and,dF];and_intros<;>(try omega);apply Z;first | have hcn := mI (k := k) c1 (by first | (rw [show k = 0 from g2]; rfl) | (rw [lJ g2 hk]; exact g5)) (by first | exact .inl (by rw [g3]; rfl) | exact .inl (by rw [g6]; rfl) | exact .inr c4 | exact .inr c7) | have hcn := mU (k := k) c1 (by first | exact g3 | exact g6) (by first | exact c4 | exact c7) | have hcn := mS (k := k) c1 (by rw [lJ g2 hk]; exact g5)
     refine bB (j + 1) ?_ ?_ (aW rfl ?_ (by simp [nZ, hcn]) (by simp))
     ·omega
     ·try dsimp only
      omega
     ·simp (disch:=omega)[or_imp,forall_and,dF,hcn]
  ·try simp at g2
   refine aO 8 (by simp) fun _ Y=>?_;simp (disch:=omega)[or_imp,forall_and,dF,ga3];and_intros<;>(try omega);apply Y;simp only [List.drop];simp (disch:=omega)[or_imp,forall_and,dF,ga3];and_intros<;>(try omega);apply Z;refine zk [0,3,4,5,7,8,11,12,13] ?_;refine lA ⟨[2,3,48,49],[],[],[],[]⟩ fun all hall _ Z=>?_;have ga1 : aR all 1 = some 33 := hall 1;have ga4 : aR all 4 = some 36 := hall 4;refine aA 2 fun _ Y=>?_;simp (disch:=omega)[or_imp,forall_and,dF,ga1,ga4];and_intros<;>(try omega);apply Y;simp only [List.drop];refine aX 33 (by simp <;> rfl) ?_;refine ⟨fun g5 => ?_, fun g5 => ?_⟩
   ·try simp at g5
    refine aA 3 fun _ Y=>?_;simp (disch:=omega)[or_imp,forall_and,dF,ga1,ga4];and_intros<;>(try omega);apply Y;simp only [List.drop];refine aX 36 (by simp <;> rfl) ?_;refine ⟨fun g6 => ?_, fun g6 => ?_⟩
    ·try simp at g6
     simp (disch:=omega)[or_imp,forall_and,dF,ga1,ga4];and_intros<;>(try omega);apply Z;refine bT (t := true) (by simp) (fun _ => ?_) (fun h => by cases h);refine zk [0,3,4,5,7,8,11,12,13] ?_;refine zr ⟨[2,3,48,49],[],[],[],[]⟩ fun _ _ Z=>?_;simp (disch:=omega)[or_imp,forall_and,dF];and_intros<;>(try omega);apply Z;refine zt ⟨[2,3,48,49],[],[],[],[]⟩ fun _ _ Z=>?_;simp (disch:=omega)[or_imp,forall_and,dF];and_intros<;>(try omega);apply Z;apply aP;apply aB;refine zt ⟨[2,3,48,49],[],[],[],[]⟩ fun _ _ Z=>?_;simp (disch:=omega)[or_imp,forall_and,dF];and_intros<;>(try omega);apply Z;first | have hcn := mI (k := k) c1 (by first | (rw [show k = 0 from g2]; rfl) | (rw [lJ g2 hk]; exact g5)) (by first | exact .inl (by rw [g3]; rfl) | exact .inl (by rw [g6]; rfl) | exact .inr c4 | exact .inr c7) | have hcn := mU (k := k) c1 (by first | exact g3 | exact g6) (by first | exact c4 | exact c7) | have hcn := mS (k := k) c1 (by rw [lJ g2 hk]; exact g5)
     refine bB (j + 1) ?_ ?_ (aW rfl ?_ (by simp [nZ, hcn]) (by simp))
     ·omega
     ·try dsimp only
      omega
     ·simp (disch:=omega)[or_imp,forall_and,dF,hcn]
    ·try simp at g6
     simp (disch:=omega)[or_imp,forall_and,dF,ga1,ga4];and_intros<;>(try omega);apply Z;refine zi ?_;refine ⟨fun c7=>?_,fun c7=>?_⟩
     ·try simp at c7
      refine zk [0,3,4,5,7,8,11,12,13] ?_;refine zr ⟨[2,3,48,49],[],[],[],[]⟩ fun _ _ Z=>?_;simp (disch:=omega)[or_imp,forall_and,dF];and_intros<;>(try omega);apply Z;refine zt ⟨[2,3,48,49],[],[],[],[]⟩ fun _ _ Z=>?_;simp (disch:=omega)[or_imp,forall_and,dF];and_intros<;>(try omega);apply Z;apply aP;apply aB;refine zt ⟨[2,3,48,49],[],[],[],[]⟩ fun _ _ Z=>?_;simp (disch:=omega)[or_imp,forall_and,dF];and_intros<;>(try omega);apply Z;first | have hcn := mI (k := k) c1 (by first | (rw [show k = 0 from g2]; rfl) | (rw [lJ g2 hk]; exact g5)) (by first | exact .inl (by rw [g3]; rfl) | exact .inl (by rw [g6]; rfl) | exact .inr c4 | exact .inr c7) | have hcn := mU (k := k) c1 (by first | exact g3 | exact g6) (by first | exact c4 | exact c7) | have hcn := mS (k := k) c1 (by rw [lJ g2 hk]; exact g5)
      refine bB (j + 1) ?_ ?_ (aW rfl ?_ (by simp [nZ, hcn]) (by simp))
      ·omega
      ·try dsimp only
       omega
      ·simp (disch:=omega)[or_imp,forall_and,dF,hcn]
     ·try simp at c7
      apply aG;apply aP;apply aB;refine zk [0,3,4,5,8,11,12,13] ?_;refine zt ⟨[2,3,48,49],[],[],[],[]⟩ fun _ _ Z=>?_;simp (disch:=omega)[or_imp,forall_and,dF];and_intros<;>(try omega);apply Z;first | have hcn := mI (k := k) c1 (by first | (rw [show k = 0 from g2]; rfl) | (rw [lJ g2 hk]; exact g5)) (by first | exact .inl (by rw [g3]; rfl) | exact .inl (by rw [g6]; rfl) | exact .inr c4 | exact .inr c7) | have hcn := mU (k := k) c1 (by first | exact g3 | exact g6) (by first | exact c4 | exact c7) | have hcn := mS (k := k) c1 (by rw [lJ g2 hk]; exact g5)
      refine bB (j + 1) ?_ ?_ (aW rfl ?_ (by simp [nZ, hcn]) (by simp))
      ·omega
      ·try dsimp only
       omega
      ·simp (disch:=omega)[or_imp,forall_and,dF,hcn]
   ·try simp at g5
    refine aA 8 fun _ Y=>?_;simp (disch:=omega)[or_imp,forall_and,dF,ga1,ga4];and_intros<;>(try omega);apply Y;simp only [List.drop];simp (disch:=omega)[or_imp,forall_and,dF,ga1,ga4];and_intros<;>(try omega);apply Z;refine bT (t := false) (by simp) (fun h => by cases h) (fun _ => ?_);apply aG;apply aP;apply aB;refine zk [0,3,4,5,8,11,12,13] ?_;refine zt ⟨[2,3,48,49],[],[],[],[]⟩ fun _ _ Z=>?_;simp (disch:=omega)[or_imp,forall_and,dF];and_intros<;>(try omega);apply Z;first | have hcn := mI (k := k) c1 (by first | (rw [show k = 0 from g2]; rfl) | (rw [lJ g2 hk]; exact g5)) (by first | exact .inl (by rw [g3]; rfl) | exact .inl (by rw [g6]; rfl) | exact .inr c4 | exact .inr c7) | have hcn := mU (k := k) c1 (by first | exact g3 | exact g6) (by first | exact c4 | exact c7) | have hcn := mS (k := k) c1 (by rw [lJ g2 hk]; exact g5)
    refine bB (j + 1) ?_ ?_ (aW rfl ?_ (by simp [nZ, hcn]) (by simp))
    ·omega
    ·try dsimp only
     omega
    ·simp (disch:=omega)[or_imp,forall_and,dF,hcn]
 ·try simp at c1
  obtain rfl : j = l.length := by omega
  have hce := aAj hk;apply bN;apply bP;apply bO;apply bG;apply aB;apply aD;refine zr ⟨[2,3,48,49],[],[],[],[]⟩ fun _ _ Z=>?_;simp (disch:=omega)[or_imp,forall_and,dF];and_intros<;>(try omega);apply Z;refine zi ?_;refine ⟨fun c8=>?_,fun c8=>?_⟩
  ·try simp at c8
   refine zr ⟨[2,3,48,49],[],[],[],[]⟩ fun _ _ Z=>?_;simp (disch:=omega)[or_imp,forall_and,dF];and_intros<;>(try omega);apply Z;apply aC;apply aJ;apply aU;apply eJ;apply aU;simp [aM];rw [hce] at c8;rw [List.take_of_length_le (by simpa using List.getElem?_eq_none_iff.1 c8)]
  ·try simp at c8
   have hk2 : k < (iC nP l).length := by
     rcases Nat.lt_or_ge k (iC nP l).length with h | h
     ·exact h
     ·rw [hce, List.getElem?_eq_none h] at c8; exact absurd c8 (by simp)
   have hcd : nZ l k l.length = (iC nP l)[k] := by unfold nZ; rw [hce, List.getElem?_eq_getElem hk2]; rfl
   have htk : List.take (k + 1) (List.map cQ (iC nP l)) = List.take k (List.map cQ (iC nP l)) ++ [cQ (iC nP l)[k]] := by rw [cV _ k (by simpa using hk2), List.getElem_map]
   apply aG;apply aB;refine zt ⟨[2,3,48,49],[],[],[],[]⟩ fun _ _ Z=>?_;simp (disch:=omega)[or_imp,forall_and,dF];and_intros<;>(try omega);apply Z;apply aP;refine bB (k + 1) ?_ ?_ (aW rfl ?_ (by simp) (by simp))
   ·omega
   ·try dsimp only
    omega
   ·simp (disch:=omega)[or_imp,forall_and,dF,hcd,htk]
theorem La (l : List PI) (c : ByteArray) (σ : List (List D)) (hl : l.length ≤ 99999) (hs : cG nP l) : Ct Tryz.prog 101 [.sl false (l.map cQ), D.str c] σ (fun r σ' => r = .sl true ((hD nP l c).map cQ) ∧ σ' = σ) := by
 refine zf (rs:=[.tmp 4]) Tryz.func101 Tryz.ntmps101 Tryz.results101 ?_;simp only [aQ];refine zr ⟨[4,5,20,25],[],[],[],[]⟩ fun _ _ Z=>?_;simp (disch:=omega);and_intros<;>(try omega);apply Z;refine zr ⟨[4,5,20,25],[],[],[],[]⟩ fun _ _ Z=>?_;simp (disch:=omega);and_intros<;>(try omega);apply Z;apply aD;refine zr ⟨[4,5,20,25],[],[],[],[]⟩ fun _ _ Z=>?_;refine aA 1 fun _ Y=>?_;simp (disch:=omega);and_intros<;>(try omega);apply Y;simp only [List.drop];refine aF fun _ Y=>?_;simp (disch:=omega);refine cO (Vv l _ hl) ?_;rw [oB nP hs];apply Y;simp (disch:=omega);and_intros<;>(try omega);apply Z;apply aK;refine zk [1,4,5,10,11,12] ?_;refine bR (fun (k : Nat) => [(12, .d (.v (.int .i64 (k : Int)))), (5, .d (.sl true ((hD nP (l.take k) c).map cQ)))]) [5, 7, 12, 13, 14, 15, 16, 17, 18, 19, 20, 21, 22, 23, 24] (fun (k : Nat) => k ≤ l.length) (fun (k : Nat) => l.length - k) (0) (by simp <;> rfl) ?_ ?_ ?_
 ·simp [hD]
 ·simp
 rintro k hk;simp only [List.cons_append, List.nil_append];have hdl := rW nP (l.take k) c;simp only [List.length_take] at hdl;refine zr ⟨[4,5,20,25],[],[],[],[]⟩ fun _ _ Z=>?_;simp (disch:=omega);and_intros<;>(try omega);apply Z;apply aD;refine zi ?_;refine ⟨fun c1=>?_,fun c1=>?_⟩
 ·try simp at c1
  apply aG;apply aB;apply aD;apply aK;refine zr ⟨[4,5,20,25],[],[],[],[]⟩ fun _ _ Z=>?_;simp (disch:=omega);and_intros<;>(try omega);apply Z;refine zr ⟨[4,5,20,25],[],[],[],[]⟩ fun _ _ Z=>?_;simp (disch:=omega);and_intros<;>(try omega);apply Z;refine zi ?_;refine ⟨fun c2=>?_,fun c2=>?_⟩
  ·try simp at c2
   refine zk [1,4,5,7,10,11,12] ?_;refine zt ⟨[4,5,20,25],[],[],[],[]⟩ fun _ _ Z=>?_;simp (disch:=omega);and_intros<;>(try omega);apply Z;apply aP;apply aB;refine zk [1,4,5,10,11,12] ?_;refine zt ⟨[4,5,20,25],[],[],[],[]⟩ fun _ _ Z=>?_;simp (disch:=omega);and_intros<;>(try omega);apply Z;refine bB (k + 1) ?_ ?_ (aW rfl ?_ (by simp) (by simp))
   ·omega
   ·try dsimp only
    omega
   ·simp (disch:=omega)[oU, *]
  ·try simp at c2
   apply aG;apply aP;apply aB;refine zk [1,4,5,10,11,12] ?_;refine zt ⟨[4,5,20,25],[],[],[],[]⟩ fun _ _ Z=>?_;simp (disch:=omega);and_intros<;>(try omega);apply Z;refine bB (k + 1) ?_ ?_ (aW rfl ?_ (by simp) (by simp))
   ·omega
   ·try dsimp only
    omega
   ·simp (disch:=omega)[oU, *]
 ·try simp at c1
  apply bN;apply bP;apply bO;apply bG;apply aB;refine zr ⟨[4,5,20,25],[],[],[],[]⟩ fun _ _ Z=>?_;simp (disch:=omega);and_intros<;>(try omega);apply Z;apply aC;simp [aM];rw [List.take_of_length_le (by omega)]
theorem Ea {l : List PI} {c : ByteArray} : lB nP l c = true ↔ ∃ j, ∃ h : j < l.length, l[j].name = c := by
 unfold lB;rw [List.any_eq_true];constructor
 ·rintro ⟨x, hx, e⟩;obtain ⟨j, hj, rfl⟩ := List.getElem_of_mem hx;exact ⟨j, hj, by simpa using e⟩
 ·rintro ⟨j, hj, e⟩;exact ⟨l[j], List.getElem_mem hj, by simpa using e⟩
theorem Hr {l : List PI} {c : ByteArray} {k j : Nat} (hh : ∀ j (h : j < l.length), k ≤ j → l[j].name ≠ c) {hk : k - 1 < l.length} (c2 : ¬ l[k - 1].name = c) (h : j < l.length) (h2 : k - 1 ≤ j) : l[j].name ≠ c := by
 rcases Nat.lt_or_ge j k with h3 | h3
 ·obtain rfl : j = k - 1 := by omega
  exact c2
 ·exact hh j h h3
theorem aBa {l : List PI} {c : ByteArray} (h : ∀ j (h : j < l.length), 0 ≤ j → l[j].name ≠ c) : lB nP l c = false := by
 rw [← Bool.not_eq_true, Ea];rintro ⟨j, hj, e⟩;exact h j hj (Nat.zero_le _) e
theorem Tw (l : List PI) (c : ByteArray) (σ : List (List D)) (hl : l.length ≤ 99999) : Ct Tryz.prog 100 [.sl false (l.map cQ), D.str c] σ (fun r σ' => (∃ v : Int, r = .tup [D.int v, .bool (lB nP l c)]) ∧ σ' = σ) := by
 refine zf (rs:=[.tmp 4,.tmp 5]) Tryz.func100 Tryz.ntmps100 Tryz.results100 ?_;simp only [aQ];refine aZ fun _ _ Z=>?_;simp (disch:=omega)[Nat.sub_add_cancel];and_intros<;>(try omega);apply Z;apply aD;refine aZ fun _ _ Z=>?_;simp (disch:=omega)[Nat.sub_add_cancel];and_intros<;>(try omega);apply Z;apply aK;refine zk [0,1,4,5,6] ?_;refine bR (fun (k : Nat) => [(6, .d (.int ((k : Int) - 1)))]) [4, 5, 6, 10, 11, 12, 13, 14, 15, 16, 17, 18, 19, 20, 21, 22, 23, 24, 25] (fun (k : Nat) => k ≤ l.length ∧ ∀ j (h : j < l.length), k ≤ j → l[j].name ≠ c) (fun (k : Nat) => k) (l.length) (by simp <;> rfl) ?_ ?_ ?_
 ·simp
 ·exact ⟨Nat.le_refl _, fun j h h2 => by omega⟩
 rintro k ⟨hk, hh⟩;simp only [List.cons_append, List.nil_append];have htn : 1 ≤ k → ((k : Int) - 1).toNat = k - 1 := fun h => by omega
 apply aD;refine aZ fun _ _ Z=>?_;simp (disch:=omega)[Nat.sub_add_cancel];and_intros<;>(try omega);apply Z;refine zi ?_;refine ⟨fun c1=>?_,fun c1=>?_⟩
 ·try simp at c1
  have hk1 : 1 ≤ k := by omega
  have htn1 := htn hk1;apply aG;apply aB;apply aD;apply aK;refine aZ fun _ _ Z=>?_;simp (disch:=omega)[Nat.sub_add_cancel];and_intros<;>(try omega);apply Z;refine zi ?_;refine ⟨fun c2=>?_,fun c2=>?_⟩
  ·try simp at c2
   refine zk [0,1,6] ?_;refine aZ fun _ _ Z=>?_;simp (disch:=omega)[Nat.sub_add_cancel];and_intros<;>(try omega);apply Z;apply aC;apply aU;apply aJ;apply eJ;apply aU;apply aJ;simp [aM];exact Ea.2 ⟨k - 1, by omega, c2⟩
  ·try simp at c2
   apply aG;apply aP;apply aB;refine zk [0,1,6] ?_;refine uM fun _ _ Z=>?_;simp (disch:=omega)[Nat.sub_add_cancel];and_intros<;>(try omega);apply Z;refine bB (k - 1) ?_ ?_ (aW rfl ?_ (by simp) (by simp))
   ·exact ⟨by omega, fun j h h2 => Hr hh c2 h h2⟩
   ·try dsimp only
    omega
   ·simp [yB]; omega
 ·try simp at c1
  apply bN;apply bP;apply bO;apply bG;apply aB;refine aZ fun _ _ Z=>?_;simp (disch:=omega)[Nat.sub_add_cancel];and_intros<;>(try omega);apply Z;apply aC;simp [aM];exact aBa fun j h _ => hh j h (by omega)
theorem Bu (l : List Int) (k : Nat) : (∀ d : D, d ∈ List.take k (List.map D.int l) → d.ncells = 1) ↔ True := by
 refine ⟨fun _ => trivial, fun _ d hd => ?_⟩;obtain ⟨a, _, rfl⟩ := List.mem_map.1 (List.mem_of_mem_take hd);rfl
theorem Ak (l : List Int) (k : Nat) : (∀ d : D, d ∈ List.drop k (List.map D.int l) → d.ncells = 1) ↔ True := by
 refine ⟨fun _ => trivial, fun _ d hd => ?_⟩;obtain ⟨a, _, rfl⟩ := List.mem_map.1 (List.mem_of_mem_drop hd);rfl
theorem Rv (l : List Int) (x : Int) : (l.filter fun y => !decide (y = x)).length ≤ l.length := List.length_filter_le _ _
def eQ (l : List Int) (x : Int) : List Int := l.filter fun y => !decide (y = x)
theorem zC (l : List Int) (x : Int) (k : Nat) (h : k < l.length) : eQ (l.take (k + 1)) x = eQ (l.take k) x ++ if l[k] = x then [] else [l[k]] := by
 unfold eQ;rw [cV l k h, List.filter_append, List.filter_cons];by_cases e : l[k] = x <;> simp [e]
theorem Jv (l : List Int) (i : Nat) (x : Int) (σ : List (List D)) (hl : l.length ≤ 99999) (hi : i ≤ l.length) : Ct Tryz.prog 84 [.sl false (l.map D.int), D.int i, D.int x] σ (fun r σ' => r = .sl true ((dV l i x).map D.int) ∧ σ' = σ) := by
 refine zf (rs:=[.tmp 6]) Tryz.func84 Tryz.ntmps84 Tryz.results84 ?_;simp only [aQ];have htl : List.take l.length (List.map D.int l) = List.map D.int l := List.take_of_length_le (by simp);refine zr ⟨[6,7,13,17],[],[],[],[]⟩ fun _ _ Z=>?_;simp[Bu,Ak,or_imp,forall_and,htl];and_intros<;>(try omega);apply Z;refine zr ⟨[6,7,13,17],[],[],[],[]⟩ fun _ _ Z=>?_;simp[Bu,Ak,or_imp,forall_and,htl];and_intros<;>(try omega);apply Z;refine zr ⟨[6,7,13,17],[],[],[],[]⟩ fun _ _ Z=>?_;simp[Bu,Ak,or_imp,forall_and,htl];and_intros<;>(try omega);apply Z;refine zk [0,1,6,7] ?_;refine zr ⟨[6,7,13,17],[],[],[],[]⟩ fun _ _ Z=>?_;simp[Bu,Ak,or_imp,forall_and,htl];and_intros<;>(try omega);apply Z;apply aC;simp [aM, dV]
theorem uC (l : List Int) (x : Int) (σ : List (List D)) (hl : l.length ≤ 99999) : Ct Tryz.prog 87 [.sl false (l.map D.int), D.int x] σ (fun r σ' => r = .sl true ((eQ l x).map D.int) ∧ σ' = σ) := by
 refine zf (rs:=[.tmp 4]) Tryz.func87 Tryz.ntmps87 Tryz.results87 ?_;simp only [aQ];refine zr ⟨[4,5,18,23],[],[],[],[]⟩ fun _ _ Z=>?_;simp (disch:=omega);and_intros<;>(try omega);apply Z;refine zr ⟨[4,5,18,23],[],[],[],[]⟩ fun _ _ Z=>?_;simp (disch:=omega);and_intros<;>(try omega);apply Z;apply aD;refine zr ⟨[4,5,18,23],[],[],[],[]⟩ fun _ _ Z=>?_;simp (disch:=omega);and_intros<;>(try omega);apply Z;apply aK;refine zk [1,4,5,9,10,11] ?_;refine bR (fun (k : Nat) => [(11, .d (.v (.int .i64 (k : Int)))), (5, .d (.sl true ((eQ (l.take k) x).map D.int)))]) [5, 7, 11, 12, 13, 14, 15, 16, 17, 18, 19, 20, 21, 22] (fun (k : Nat) => k ≤ l.length) (fun (k : Nat) => l.length - k) (0) (by simp <;> rfl) ?_ ?_ ?_
 ·simp [eQ]
 ·simp
 rintro k hk;simp only [List.cons_append, List.nil_append];have hdl := Rv (l.take k) x;simp only [List.length_take] at hdl;have hdl2 : (eQ (l.take k) x).length ≤ k := by unfold eQ; omega
 refine zr ⟨[4,5,18,23],[],[],[],[]⟩ fun _ _ Z=>?_;simp (disch:=omega);and_intros<;>(try omega);apply Z;apply aD;refine zi ?_;refine ⟨fun c1=>?_,fun c1=>?_⟩
 ·try simp at c1
  apply aG;apply aB;apply aD;apply aK;refine zr ⟨[4,5,18,23],[],[],[],[]⟩ fun _ _ Z=>?_;simp (disch:=omega);and_intros<;>(try omega);apply Z;refine zr ⟨[4,5,18,23],[],[],[],[]⟩ fun _ _ Z=>?_;simp (disch:=omega);and_intros<;>(try omega);apply Z;refine zi ?_;refine ⟨fun c2=>?_,fun c2=>?_⟩
  ·try simp at c2
   refine zk [1,4,5,7,9,10,11] ?_;refine zt ⟨[4,5,18,23],[],[],[],[]⟩ fun _ _ Z=>?_;simp (disch:=omega);and_intros<;>(try omega);apply Z;apply aP;apply aB;refine zk [1,4,5,9,10,11] ?_;refine zt ⟨[4,5,18,23],[],[],[],[]⟩ fun _ _ Z=>?_;simp (disch:=omega);and_intros<;>(try omega);apply Z;refine bB (k + 1) ?_ ?_ (aW rfl ?_ (by simp) (by simp))
   ·omega
   ·try dsimp only
    omega
   ·simp (disch:=omega)[zC, *]
  ·try simp at c2
   apply aG;apply aP;apply aB;refine zk [1,4,5,9,10,11] ?_;refine zt ⟨[4,5,18,23],[],[],[],[]⟩ fun _ _ Z=>?_;simp (disch:=omega);and_intros<;>(try omega);apply Z;refine bB (k + 1) ?_ ?_ (aW rfl ?_ (by simp) (by simp))
   ·omega
   ·try dsimp only
    omega
   ·simp (disch:=omega)[zC, *]
 ·try simp at c1
  apply bN;apply bP;apply bO;apply bG;apply aB;refine zr ⟨[4,5,18,23],[],[],[],[]⟩ fun _ _ Z=>?_;simp (disch:=omega);and_intros<;>(try omega);apply Z;apply aC;simp [aM];rw [List.take_of_length_le (by omega)]
theorem wI (a b : List Int) (σ : List (List D)) (ha : a.length ≤ 9223372036854775807) (hb : b.length ≤ 9223372036854775807) : Ct Tryz.prog 37 [.sl false (a.map D.int), .sl false (b.map D.int)] σ (fun r σ' => r = .bool (decide (a = b)) ∧ σ' = σ) := by
 refine zf (rs:=[.tmp 4]) Tryz.func37 Tryz.ntmps37 Tryz.results37 ?_;simp only [aQ];refine aZ fun _ _ Z=>?_;simp (disch:=omega);and_intros<;>(try omega);apply Z;apply aD;refine aZ fun _ _ Z=>?_;simp (disch:=omega);and_intros<;>(try omega);apply Z;refine zi ?_;refine ⟨fun c1=>?_,fun c1=>?_⟩
 ·try simp at c1
  refine aZ fun _ _ Z=>?_;simp (disch:=omega);and_intros<;>(try omega);apply Z;apply aC;apply aJ;simp [aM];intro e; subst e; exact absurd rfl c1
 ·try simp at c1
  apply aG;apply aB;apply aD;refine aZ fun _ _ Z=>?_;simp (disch:=omega);and_intros<;>(try omega);apply Z;apply aK;refine zk [0,1,4,12,13] ?_;refine bR (fun (k : Nat) => [(13, .d (.int k)), (5, .d (.any))]) [4, 5, 13, 14, 15, 16, 17, 18, 19, 20, 21, 22, 23, 24, 25] (fun (k : Nat) => k ≤ a.length ∧ a.take k = b.take k) (fun (k : Nat) => a.length - k) (0) (by simp <;> rfl) ?_ ?_ ?_
  ·simp
  ·simp
  rintro k ⟨hk, hh⟩;simp only [List.cons_append, List.nil_append];refine aZ fun _ _ Z=>?_;simp (disch:=omega);and_intros<;>(try omega);apply Z;apply aD;refine zi ?_;refine ⟨fun c2=>?_,fun c2=>?_⟩
  ·try simp at c2
   apply aG;apply aB;apply aD;apply aK;refine aZ fun _ _ Z=>?_;simp (disch:=omega);and_intros<;>(try omega);apply Z;refine zd ⟨[],[],[],[],[]⟩ [.op {},.op {},.op {},.op {},.op {},.op {},.op {},.op {},.op {}] fun all hall _ Z=>?_;refine aO 8 (by simp) fun _ Y=>?_;simp (disch:=omega);and_intros<;>(try omega);apply Y;simp only [List.drop];simp (disch:=omega);and_intros<;>(try omega);apply Z;refine zi ?_;refine ⟨fun c3=>?_,fun c3=>?_⟩
   ·try simp at c3
    refine zk [0,1,5,12,13] ?_;refine aZ fun _ _ Z=>?_;simp (disch:=omega);and_intros<;>(try omega);apply Z;apply aC;apply aU;apply aJ;apply eJ;apply aU;apply aJ;simp [aM];intro e; subst e; exact c3 rfl
   ·try simp at c3
    apply aG;apply aP;apply aB;refine zk [0,1,5,12,13] ?_;refine uM fun _ _ Z=>?_;simp (disch:=omega);and_intros<;>(try omega);apply Z;refine bB (k + 1) ?_ ?_ (aW rfl ?_ (by simp) (by simp))
    ·exact ⟨by omega, by rw [cV a k (by omega), cV b k (by omega), hh]; simp [*]⟩
    ·try dsimp only
     omega
    ·simp (disch:=omega)
  ·try simp at c2
   apply bN;apply bP;apply bO;apply bG;apply aB;refine aZ fun _ _ Z=>?_;simp (disch:=omega);and_intros<;>(try omega);apply Z;apply aC;simp [aM]
   rwa [List.take_of_length_le (by omega), List.take_of_length_le (by omega)] at hh
end Go.Proofs.YtpfmpeaekgdgnaaGreat

