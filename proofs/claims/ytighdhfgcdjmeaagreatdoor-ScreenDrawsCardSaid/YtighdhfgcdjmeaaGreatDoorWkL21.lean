import Derived.Test.YtighdhfgcdjmeaaGreatDoorWkL6
namespace Go.Proofs.YtighdhfgcdjmeaaGreatDoor
open Go Go.Vm
set_option maxRecDepth 20000
set_option linter.all false
set_option maxHeartbeats 8000000
structure OPT where
 enter : Int
 leave : Int
 move : Int
 mode : Int
 appear : Bool
 moves : Bool
 deriving DecidableEq
@[simp] abbrev Uz (s : OPT) : D := .agg [.v (.int .i64 s.enter), .v (.int .i64 s.leave), .v (.int .i64 s.move), .v (.int .i64 s.mode), .v (.bool s.appear), .v (.bool s.moves)]
structure FL where
 deep : Int
 kind : Int
 tag : ByteArray
 key : ByteArray
 text : ByteArray
 classes : (List ByteArray)
 attrs : (List AT)
 styles : (List PI)
 opts : OPT
 deriving DecidableEq
@[simp] abbrev wC (s : FL) : D := .agg [.v (.int .i64 s.deep), .v (.int .i64 s.kind), .v (.string s.tag), .v (.string s.key), .v (.string s.text), .sl false (s.classes.map D.str), .sl false (s.attrs.map bW), .sl false (s.styles.map bR), .v (.int .i64 s.opts.enter), .v (.int .i64 s.opts.leave), .v (.int .i64 s.opts.move), .v (.int .i64 s.opts.mode), .v (.bool s.opts.appear), .v (.bool s.opts.moves)]
@[simp] abbrev aCo (s : FL) : D := .agg [.v (.int .i64 s.deep), .v (.int .i64 s.kind), .v (.string s.tag), .v (.string s.key), .v (.string s.text), .sl true (s.classes.map D.str), .sl true (s.attrs.map bW), .sl true (s.styles.map bR), .v (.int .i64 s.opts.enter), .v (.int .i64 s.opts.leave), .v (.int .i64 s.opts.move), .v (.int .i64 s.opts.mode), .v (.bool s.opts.appear), .v (.bool s.opts.moves)]
structure VN where
 kind : Int
 tag : ByteArray
 key : ByteArray
 text : ByteArray
 classes : (List ByteArray)
 attrs : (List AT)
 styles : (List PI)
 opts : OPT
 kids : (List VN)
def xY (s : VN) : D := .agg [.v (.int .i64 s.kind), .v (.string s.tag), .v (.string s.key), .v (.string s.text), .sl false (s.classes.map D.str), .sl false (s.attrs.map bW), .sl false (s.styles.map bR), .v (.int .i64 s.opts.enter), .v (.int .i64 s.opts.leave), .v (.int .i64 s.opts.move), .v (.int .i64 s.opts.mode), .v (.bool s.opts.appear), .v (.bool s.opts.moves), .sl false (s.kids.attach.map fun k => xY k.1)]
termination_by SizeOf.sizeOf s
decreasing_by
 have h := List.sizeOf_lt_of_mem k.2;cases s; simp at h ⊢; omega
@[simp] abbrev yJ (s : VN) : D := .agg [.v (.int .i64 s.kind), .v (.string s.tag), .v (.string s.key), .v (.string s.text), .sl false (s.classes.map D.str), .sl false (s.attrs.map bW), .sl false (s.styles.map bR), .v (.int .i64 s.opts.enter), .v (.int .i64 s.opts.leave), .v (.int .i64 s.opts.move), .v (.int .i64 s.opts.mode), .v (.bool s.opts.appear), .v (.bool s.opts.moves), .sl false (s.kids.map xY)]
@[simp] abbrev aFl (s : VN) : D := .agg [.v (.int .i64 s.kind), .v (.string s.tag), .v (.string s.key), .v (.string s.text), .sl true (s.classes.map D.str), .sl true (s.attrs.map bW), .sl true (s.styles.map bR), .v (.int .i64 s.opts.enter), .v (.int .i64 s.opts.leave), .v (.int .i64 s.opts.move), .v (.int .i64 s.opts.mode), .v (.bool s.opts.appear), .v (.bool s.opts.moves), .sl true (s.kids.map xY)]
@[simp] theorem Vi (s : VN) : xY s = yJ s := by rw [xY]; simp
def pE (l : Ls) (n : Nat) : Ls := (l.take n).map (kI 20)
def Xy (p : PI) : PI := ⟨kI 20 p.name, p.value⟩
def Wx (p : AT) : AT := ⟨kI 20 p.name, kI 40 p.value⟩
def pY (l : List PI) (n : Nat) : List PI := (l.take n).map Xy
def tF (l : List AT) (n : Nat) : List AT := (l.take n).map Wx
theorem Ez (l : List ByteArray) (k : Nat) (h : k < l.length) : pE l (k + 1) = pE l k ++ [kI 20 l[k]] := by
 unfold pE;rw [cG l k h, List.map_append]; rfl
theorem Rr (l : List ByteArray) : pE l 0 = [] := rfl
theorem yV (l : List ByteArray) (n : Nat) : (pE l n).length ≤ n := by simp [pE]; omega
theorem Jc (l : List ByteArray) (k n : Nat) (h : l.length ≤ k) (hn : k ≤ n) : pE l k = pE l n := by
 unfold pE;rw [List.take_of_length_le h, List.take_of_length_le (Nat.le_trans h hn)]
theorem Fq (l : List PI) (k : Nat) (h : k < l.length) : pY l (k + 1) = pY l k ++ [⟨kI 20 l[k].name, l[k].value⟩] := by
 unfold pY;rw [cG l k h, List.map_append]; rfl
theorem Sv (l : List PI) : pY l 0 = [] := rfl
theorem Ah (l : List PI) (n : Nat) : (pY l n).length ≤ n := by simp [pY]; omega
theorem Il (l : List PI) (k n : Nat) (h : l.length ≤ k) (hn : k ≤ n) : pY l k = pY l n := by
 unfold pY;rw [List.take_of_length_le h, List.take_of_length_le (Nat.le_trans h hn)]
theorem Ht (l : List AT) (k : Nat) (h : k < l.length) : tF l (k + 1) = tF l k ++ [⟨kI 20 l[k].name, kI 40 l[k].value⟩] := by
 unfold tF;rw [cG l k h, List.map_append]; rfl
theorem Qv (l : List AT) : tF l 0 = [] := rfl
theorem yE (l : List AT) (n : Nat) : (tF l n).length ≤ n := by simp [tF]; omega
theorem La (l : List AT) (k n : Nat) (h : l.length ≤ k) (hn : k ≤ n) : tF l k = tF l n := by
 unfold tF;rw [List.take_of_length_le h, List.take_of_length_le (Nat.le_trans h hn)]
theorem Rs (l : Ls) (n : Nat) (σ : List (List D)) (hl : l.length ≤ 9223372036854775807) (hn : n ≤ 1000000) : Ct Tryz.prog 44 [dl l, D.int n] σ (fun r σ' => r = .sl true ((pE l n).map D.str) ∧ σ' = σ) := by
 refine zf (rs:=[.tmp 4]) Tryz.func44 Tryz.ntmps44 Tryz.results44 ?_;simp only [aU];refine zr ⟨[4,5,18,26],[],[],[],[]⟩ fun _ _ Z=>?_;simp (disch:=omega);and_intros<;>(try omega);apply Z;refine zr ⟨[4,5,18,26],[],[],[],[]⟩ fun _ _ Z=>?_;simp (disch:=omega);and_intros<;>(try omega);apply Z;apply aE;refine zr ⟨[4,5,18,26],[],[],[],[]⟩ fun _ _ Z=>?_;simp (disch:=omega);and_intros<;>(try omega);apply Z;apply aH;refine zk [0,1,4,5,6] ?_;refine cR (fun (k : Nat) => [(6, .d (.int (k : Int))), (5, .d (.sl true ((pE l k).map D.str)))]) [5, 6, 7, 8, 9, 10, 11, 12, 13, 14, 15, 16, 17, 18, 19, 20, 21, 22, 23, 24, 25] (fun (k : Nat) => k ≤ l.length ∧ k ≤ n) (fun (k : Nat) => l.length - k) (0) (by simp <;> rfl) ?_ ?_ ?_
 ·simp [Rr]
 ·simp
 rintro k ⟨hk, hn2⟩;simp only [List.cons_append, List.nil_append];have hfl := yV l k;apply aE;refine oA ⟨[4,5,18,26],[],[],[],[]⟩ fun all hall _ Z=>?_;have ga4 : aL all 4 = some 11 := hall 4;refine aA 5 fun _ Y=>?_;simp (disch:=omega)[ga4];and_intros<;>(try omega);apply Y;simp only [List.drop];refine aX 11 (by simp <;> rfl) ?_;refine ⟨fun g1 => ?_, fun g1 => ?_⟩
 ·try simp at g1
  simp (disch:=omega)[ga4];and_intros<;>(try omega);apply Z;refine zi ?_;refine ⟨fun c2=>?_,fun c2=>?_⟩
  ·try simp at c2
   apply aF;apply aB;apply aE;apply aH;refine zk [0,1,4,5,6] ?_;refine zt ⟨[4,5,18,26],[],[],[],[]⟩ fun _ _ Z=>?_;refine aA 5 fun _ Y=>?_;simp (disch:=omega);and_intros<;>(try omega);apply Y;simp only [List.drop];refine aI fun _ Y=>?_;simp (disch:=omega);refine dO (mX _ 20 _ (by omega)) ?_;apply Y;simp (disch:=omega);and_intros<;>(try omega);apply Z;apply aN;apply aB;refine zk [0,1,4,5,6] ?_;refine zt ⟨[4,5,18,26],[],[],[],[]⟩ fun _ _ Z=>?_;simp (disch:=omega);and_intros<;>(try omega);apply Z;refine bL (k + 1) ?_ ?_ (aW rfl ?_ (by simp) (by simp))
   ·omega
   ·try dsimp only
    omega
   ·simp (disch:=omega)[Ez]
  ·try simp at c2
   apply bB;apply bC;apply bA;apply aS;apply aB;refine zk [4,5] ?_;refine zr ⟨[4,5,18,26],[],[],[],[]⟩ fun _ _ Z=>?_;simp (disch:=omega);and_intros<;>(try omega);apply Z;apply aG;simp [aQ];rw [show k = n by omega]
 ·try simp at g1
  simp (disch:=omega)[ga4];and_intros<;>(try omega);apply Z;refine bZ (t := false) (by simp) (fun h => by cases h) (fun _ => ?_);apply bB;apply bC;apply bA;apply aS;apply aB;refine zk [4,5] ?_;refine zr ⟨[4,5,18,26],[],[],[],[]⟩ fun _ _ Z=>?_;simp (disch:=omega);and_intros<;>(try omega);apply Z;apply aG;simp [aQ];rw [Jc l k n (by omega) (by omega)]
theorem Pd (l : List PI) (n : Nat) (σ : List (List D)) (hl : l.length ≤ 9223372036854775807) (hn : n ≤ 1000000) : Ct Tryz.prog 45 [.sl false (l.map bR), D.int n] σ (fun r σ' => r = .sl true ((pY l n).map bR) ∧ σ' = σ) := by
 refine zf (rs:=[.tmp 4]) Tryz.func45 Tryz.ntmps45 Tryz.results45 ?_;simp only [aU];refine zr ⟨[4,5,18,33],[],[],[],[]⟩ fun _ _ Z=>?_;simp (disch:=omega);and_intros<;>(try omega);apply Z;refine zr ⟨[4,5,18,33],[],[],[],[]⟩ fun _ _ Z=>?_;simp (disch:=omega);and_intros<;>(try omega);apply Z;apply aE;refine zr ⟨[4,5,18,33],[],[],[],[]⟩ fun _ _ Z=>?_;simp (disch:=omega);and_intros<;>(try omega);apply Z;apply aH;refine zk [0,1,4,5,6] ?_;refine cR (fun (k : Nat) => [(6, .d (.int (k : Int))), (5, .d (.sl true ((pY l k).map bR)))]) [5, 6, 7, 8, 9, 10, 11, 12, 13, 14, 15, 16, 17, 18, 19, 20, 21, 22, 23, 24, 25, 26, 27, 28, 29, 30, 31, 32] (fun (k : Nat) => k ≤ l.length ∧ k ≤ n) (fun (k : Nat) => l.length - k) (0) (by simp <;> rfl) ?_ ?_ ?_
 ·simp [Sv]
 ·simp
 rintro k ⟨hk, hn2⟩;simp only [List.cons_append, List.nil_append];have hfl := Ah l k;apply aE;refine oA ⟨[4,5,18,33],[],[],[],[]⟩ fun all hall _ Z=>?_;have ga4 : aL all 4 = some 11 := hall 4;refine aA 5 fun _ Y=>?_;simp (disch:=omega)[ga4];and_intros<;>(try omega);apply Y;simp only [List.drop];refine aX 11 (by simp <;> rfl) ?_;refine ⟨fun g1 => ?_, fun g1 => ?_⟩
 ·try simp at g1
  simp (disch:=omega)[ga4];and_intros<;>(try omega);apply Z;refine zi ?_;refine ⟨fun c2=>?_,fun c2=>?_⟩
  ·try simp at c2
   apply aF;apply aB;apply aE;apply aH;refine zk [0,1,4,5,6] ?_;refine ze ⟨[4,5,18,33],[],[],[],[]⟩ [.op {},.op {},.op {},.op {},.op {},.op {},.pure,.op {},.op {},.op {},.op {},.op {},.op {},.op {},.op {},.op {}] fun all hall _ Z=>?_;refine bJ 6 (by simp) fun _ Y=>?_;simp (disch:=omega);and_intros<;>(try omega);apply Y;simp only [List.drop];refine cL fun _ Y=>?_;simp (disch:=omega);refine An (fun _ => (mX _ 20 _ (by omega))) ?_;apply Y;refine bJ 8 (by simp) fun _ Y=>?_;simp (disch:=omega);and_intros<;>(try omega);apply Y;simp only [List.drop];simp (disch:=omega);and_intros<;>(try omega);apply Z;apply aN;apply aB;refine zk [0,1,4,5,6] ?_;refine zt ⟨[4,5,18,33],[],[],[],[]⟩ fun _ _ Z=>?_;simp (disch:=omega);and_intros<;>(try omega);apply Z;refine bL (k + 1) ?_ ?_ (aW rfl ?_ (by simp) (by simp))
   ·omega
   ·try dsimp only
    omega
   ·simp (disch:=omega)[Fq]
  ·try simp at c2
   apply bB;apply bC;apply bA;apply aS;apply aB;refine zk [4,5] ?_;refine zr ⟨[4,5,18,33],[],[],[],[]⟩ fun _ _ Z=>?_;simp (disch:=omega);and_intros<;>(try omega);apply Z;apply aG;simp [aQ];rw [show k = n by omega]
 ·try simp at g1
  simp (disch:=omega)[ga4];and_intros<;>(try omega);apply Z;refine bZ (t := false) (by simp) (fun h => by cases h) (fun _ => ?_);apply bB;apply bC;apply bA;apply aS;apply aB;refine zk [4,5] ?_;refine zr ⟨[4,5,18,33],[],[],[],[]⟩ fun _ _ Z=>?_;simp (disch:=omega);and_intros<;>(try omega);apply Z;apply aG;simp [aQ];rw [Il l k n (by omega) (by omega)]
end Go.Proofs.YtighdhfgcdjmeaaGreatDoor
namespace Go.Proofs.YtighdhfgcdjmeaaGreatDoor
open Go Go.Vm
set_option maxRecDepth 20000
set_option linter.all false
set_option maxHeartbeats 8000000
def kJ (f : FL) : VN := ⟨f.kind, kI 20 f.tag, kI 20 f.key, kI 70 f.text, pE f.classes 4, tF f.attrs 4, pY f.styles 4, f.opts, []⟩
abbrev FO (f : FL) : Prop := f.classes.length ≤ 9223372036854775807 ∧ f.attrs.length ≤ 9223372036854775807 ∧ f.styles.length ≤ 9223372036854775807
theorem Mo (f : FL) (σ : List (List D)) (h : FO f) : Ct Tryz.prog 20 [wC f] σ (fun r σ' => r = yJ (kJ f) ∧ ∃ J, σ' = σ ++ J) := by
 refine zf (rs:=[.cell 2 41]) Tryz.func20 Tryz.ntmps20 Tryz.results20 ?_;simp only [aU];have h5 := h.1;have h6 := h.2.1;have h7 := h.2.2;refine zr ⟨[37],[],[3],[],[]⟩ fun _ _ Z=>?_;simp (disch:=omega)[aO,aD,aK,aC];and_intros<;>(try omega);apply Z;refine zd ⟨[37],[],[3],[],[]⟩ [.op {},.op {rL:=true},.op {},.op {rL:=true},.pure,.op {},.op {rL:=true},.pure,.op {},.op {rL:=true},.pure,.op {},.op {rL:=true},.pure,.op {},.op {rL:=true},.pure,.op {},.op {rL:=true},.op {},.op {rO:=true,wO:=true},.op {rO:=true,wO:=true}] fun all hall _ Z=>?_;refine bJ 4 (by simp) fun _ Y=>?_;simp (disch:=omega)[aO,aD,aK,aC];and_intros<;>(try omega);apply Y;simp only [List.drop];refine cL fun _ Y=>?_;simp (disch:=omega)[aO,aD,aK,aC];refine An (fun _ => (mX f.tag 20 _ (by omega))) ?_;apply Y;refine bJ 2 (by simp) fun _ Y=>?_;simp (disch:=omega)[aO,aD,aK,aC];and_intros<;>(try omega);apply Y;simp only [List.drop];refine cL fun _ Y=>?_;simp (disch:=omega)[aO,aD,aK,aC];refine An (fun _ => (mX f.key 20 _ (by omega))) ?_;apply Y;refine bJ 2 (by simp) fun _ Y=>?_;simp (disch:=omega)[aO,aD,aK,aC];and_intros<;>(try omega);apply Y;simp only [List.drop];refine cL fun _ Y=>?_;simp (disch:=omega)[aO,aD,aK,aC];refine An (fun _ => (mX f.text 70 _ (by omega))) ?_;apply Y;refine bJ 2 (by simp) fun _ Y=>?_;simp (disch:=omega)[aO,aD,aK,aC];and_intros<;>(try omega);apply Y;simp only [List.drop];refine cL fun _ Y=>?_;simp (disch:=omega)[aO,aD,aK,aC];refine An (fun _ => (Rs f.classes 4 _ h5 (by omega))) ?_;apply Y;refine bJ 2 (by simp) fun _ Y=>?_;simp (disch:=omega)[aO,aD,aK,aC];and_intros<;>(try omega);apply Y;simp only [List.drop];refine cL fun _ Y=>?_;simp (disch:=omega)[aO,aD,aK,aC];refine An (fun _ => (Pd f.styles 4 _ h7 (by omega))) ?_;apply Y;simp (disch:=omega)[aO,aD,aK,aC];and_intros<;>(try omega);apply Z;apply aE;refine zk [1,2,3] ?_;refine zr ⟨[37],[],[3],[],[]⟩ fun _ _ Z=>?_;simp (disch:=omega)[aO,aD,aK,aC];and_intros<;>(try omega);apply Z;apply aH;refine zk [1,2,3,4] ?_;refine iA (fun (k : Nat) => [(4, .d (.v (.int .i64 (k : Int))))]) (fun (k : Nat) => []) (fun (k : Nat) => [(σ.length, [D.int f.kind, D.str (kI 20 f.tag), D.str (kI 20 f.key), D.str (kI 70 f.text), .sl false ((pE f.classes 4).map D.str), .sl true ((tF f.attrs k).map bW), .sl false ((pY f.styles 4).map bR), D.int f.opts.enter, D.int f.opts.leave, D.int f.opts.move, D.int f.opts.mode, D.bool f.opts.appear, D.bool f.opts.moves, .sl true []])]) [4, 25, 26, 27, 28, 29, 30, 31, 32, 33, 34, 35, 36, 37, 38, 39, 40, 41, 42, 43, 44, 45, 46, 47, 48, 49, 50, 51, 52, 53, 54, 55] (fun (k : Nat) => k ≤ f.attrs.length ∧ k ≤ 4) (fun (k : Nat) => f.attrs.length - k) (0) (by simp <;> rfl) ?_ (by simp) (by simp [aD, Qv]) ?_ ?_
 ·simp
 ·simp
 rintro k ⟨hk, hk4⟩;simp only [List.cons_append, List.nil_append, iJ, gK, List.set_cons_zero, List.set_cons_succ];have hfl := yE f.attrs k;apply aE;refine oA ⟨[37],[],[3],[],[]⟩ fun all hall _ Z=>?_;have ga5 : aL all 5 = some 30 := hall 5;refine aA 6 fun _ Y=>?_;simp (disch:=omega)[aO,aD,aK,aC,ga5];and_intros<;>(try omega);apply Y;simp only [List.drop];refine aX 30 (by simp <;> rfl) ?_;refine ⟨fun g1 => ?_, fun g1 => ?_⟩
 ·try simp at g1
  simp (disch:=omega)[aO,aD,aK,aC,ga5];and_intros<;>(try omega);apply Z;refine zi ?_;refine ⟨fun c2=>?_,fun c2=>?_⟩
  ·try simp at c2
   apply aF;apply aB;apply aE;apply aH;refine zk [1,2,3,4] ?_;refine ze ⟨[37],[],[3],[],[]⟩ [.op {},.op {rO:=true,wO:=true},.op {},.op {rL:=true},.op {},.op {},.op {},.op {},.pure,.op {},.op {rL:=true},.op {},.op {},.op {},.op {},.pure,.op {},.op {},.op {},.op {},.op {rO:=true,wO:=true}] fun all hall _ Z=>?_;refine bJ 8 (by simp) fun _ Y=>?_;simp (disch:=omega)[aO,aD,aK,aC];and_intros<;>(try omega);apply Y;simp only [List.drop];refine cL fun _ Y=>?_;simp (disch:=omega)[aO,aD,aK,aC];refine An (fun _ => (mX f.attrs[k].name 20 _ (by omega))) ?_;apply Y;refine bJ 6 (by simp) fun _ Y=>?_;simp (disch:=omega)[aO,aD,aK,aC];and_intros<;>(try omega);apply Y;simp only [List.drop];refine cL fun _ Y=>?_;simp (disch:=omega)[aO,aD,aK,aC];refine An (fun _ => (mX f.attrs[k].value 40 _ (by omega))) ?_;apply Y;simp (disch:=omega)[aO,aD,aK,aC];and_intros<;>(try omega);apply Z;apply aN;apply aB;refine zk [1,2,3,4] ?_;refine zt ⟨[37],[],[3],[],[]⟩ fun _ _ Z=>?_;simp (disch:=omega)[aO,aD,aK,aC];and_intros<;>(try omega);apply Z;refine bL (k + 1) ?_ ?_ (aW rfl ?_ (by simp) (by simp [Ht, aD, *]))
   ·omega
   ·try dsimp only
    omega
   ·simp (disch:=omega)[aO,aD,aK,aC]
  ·try simp at c2
   apply bB;apply bC;apply bA;apply aS;apply aB;refine zk [2,3] ?_;refine zr ⟨[37],[],[3],[],[]⟩ fun _ _ Z=>?_;simp (disch:=omega)[aO,aD,aK,aC];and_intros<;>(try omega);apply Z;apply aG;simp [aQ, kJ];rw [show k = 4 by omega]
 ·try simp at g1
  simp (disch:=omega)[aO,aD,aK,aC,ga5];and_intros<;>(try omega);apply Z;refine bZ (t := false) (by simp) (fun h => by cases h) (fun _ => ?_);apply bB;apply bC;apply bA;apply aS;apply aB;refine zk [2,3] ?_;refine zr ⟨[37],[],[3],[],[]⟩ fun _ _ Z=>?_;simp (disch:=omega)[aO,aD,aK,aC];and_intros<;>(try omega);apply Z;apply aG;simp [aQ, kJ];rw [La f.attrs k 4 (by omega) (by omega)]
end Go.Proofs.YtighdhfgcdjmeaaGreatDoor
namespace Go.Proofs.YtighdhfgcdjmeaaGreatDoor
open Go Go.Vm
set_option maxRecDepth 20000
set_option linter.all false
set_option maxHeartbeats 8000000
theorem Ld (N : Nat) (x : ByteArray) : Sc N (D.str x) := Sc.v _
theorem Jw (N : Nat) (x : AT) : Sc N (bW x) := Sc.agg fun d hd => by
 simp at hd; rcases hd with rfl | rfl <;> exact Sc.v _
theorem Ms (N : Nat) (x : PI) : Sc N (bR x) := Sc.agg fun d hd => by
 simp at hd; rcases hd with rfl | rfl <;> exact Sc.v _
theorem Nv (N : Nat) (f : FL) : Sc N (yJ (kJ f)) := Sc.agg fun d hd => by
 simp only [List.mem_cons, List.not_mem_nil, or_false] at hd;rcases hd with rfl | rfl | rfl | rfl | rfl | rfl | rfl | rfl | rfl | rfl | rfl | rfl | rfl | rfl <;> first
  | exact Sc.v _
  | exact Sc.sl (Sc.map fun a => Ld _ a)
  | exact Sc.sl (Sc.map fun a => Jw _ a)
  | exact Sc.sl (Sc.map fun a => Ms _ a)
  | exact Sc.sl fun d hd => by cases hd
theorem xF (f : FL) (σ : List (List D)) (h : FO f) : Ct Tryz.prog 20 [wC f] σ (fun r σ' => r = yJ (kJ f) ∧ σ' = σ) :=
 (Mo f σ h).trim fun r σ' ⟨hr, J, hs⟩ => ⟨σ, J, hs, rfl, by rw [hr]; exact Nv _ _, fun n cs h => .inl h, hr, rfl⟩
def iW (v : VN) : Nat := 1 + (v.kids.attach.map fun k => iW k.1).sum
termination_by SizeOf.sizeOf v
decreasing_by
 have h := List.sizeOf_lt_of_mem k.2;cases v; simp at h ⊢; omega
theorem nV (v : VN) : iW v = 1 + (v.kids.map iW).sum := by rw [iW]; simp
abbrev VF (v : VN) : Prop := v.classes.length ≤ 4 ∧ v.attrs.length ≤ 4 ∧ v.styles.length ≤ 4 ∧ v.text.size ≤ 70
inductive VG : VN → Prop
 | mk (v : VN) (h : VF v) (hk : ∀ k ∈ v.kids, VG k) : VG v
theorem yU (f : FL) (vs : List VN) : VF { kJ f with kids := vs } := ⟨yV _ _, yE _ _, Ah _ _, Ki _ _⟩
abbrev Qg (l : List FL) (i : Nat) (d : Int) : Prop := ∀ σ : List (List D), Ct Tryz.prog 21 [.sl false (l.map wC), D.int i, D.int d] σ (fun r σ' => (∃ (vs : List VN) (j : Nat), r = .tup [.sl false (vs.map xY), D.int j] ∧ i ≤ j ∧ j ≤ l.length ∧ (∀ v ∈ vs, VG v) ∧ (vs.map iW).sum = j - i) ∧ σ' = σ)
theorem Al (l : List FL) (i : Nat) (d : Int) (σ : List (List D)) (hl : l.length ≤ 25) (hf : ∀ f ∈ l, FO f) (hi : i ≤ l.length) (ih : ∀ (i2 : Nat) (d2 : Int), i < i2 → i2 ≤ l.length → Qg l i2 d2) : Ct Tryz.prog 21 [.sl false (l.map wC), D.int i, D.int d] σ (fun r σ' => (∃ (vs : List VN) (j : Nat), r = .tup [.sl false (vs.map xY), D.int j] ∧ i ≤ j ∧ j ≤ l.length ∧ (∀ v ∈ vs, VG v) ∧ (vs.map iW).sum = j - i) ∧ σ' = σ) := by
 refine zf (rs:=[.tmp 6,.tmp 7]) Tryz.func21 Tryz.ntmps21 Tryz.results21 ?_;simp only [aU];refine zr ⟨[8,41],[],[],[],[]⟩ fun _ _ Z=>?_;simp (disch:=omega);and_intros<;>(try omega);apply Z;refine zr ⟨[8,41],[],[],[],[]⟩ fun _ _ Z=>?_;simp (disch:=omega);and_intros<;>(try omega);apply Z;apply aE;apply aH;refine zk [0,1,2,6,7,8] ?_;refine cR (fun (p : List VN × Nat) => [(8, .d (.sl true (p.1.map xY))), (1, .d (.v (.int .i64 (p.2 : Int)))), (9, .d (.any))]) [1, 8, 9, 10, 11, 12, 13, 14, 15, 16, 17, 18, 19, 20, 21, 22, 23, 24, 25, 26, 27, 28, 29, 30, 31, 32, 33, 34, 35, 36, 37, 38, 39, 40, 41, 42, 43, 44] (fun (p : List VN × Nat) => i ≤ p.2 ∧ p.2 ≤ l.length ∧ (∀ v ∈ p.1, VG v) ∧ (p.1.map iW).sum = p.2 - i ∧ p.1.length ≤ p.2 - i) (fun (p : List VN × Nat) => l.length - p.2) (([], i)) (by simp <;> rfl) ?_ ?_ ?_
 ·simp
 ·simp; omega
 rintro ⟨vs, k⟩ ⟨h1, h2, h3, h4, h5⟩;simp only [List.cons_append, List.nil_append];dsimp only at h1 h2 h3 h4 h5;apply aE;refine zk [0,1,2,6,7,8,9] ?_;refine oA ⟨[8,41],[],[],[],[]⟩ fun all hall _ Z=>?_;have ga4 : aL all 4 = some 14 := hall 4;refine aA 5 fun _ Y=>?_;simp (disch:=omega)[ga4];and_intros<;>(try omega);apply Y;simp only [List.drop];refine aX 14 (by simp <;> rfl) ?_;refine ⟨fun g1 => ?_, fun g1 => ?_⟩
 ·try simp at g1
  simp (disch:=omega)[ga4];and_intros<;>(try omega);apply Z;refine zi ?_;refine ⟨fun c2=>?_,fun c2=>?_⟩
  ·try simp at c2
   apply aF;apply aB;apply aH;refine zk [0,1,2,6,7,8,9] ?_;refine zr ⟨[8,41],[],[],[],[]⟩ fun _ _ Z=>?_;refine aA 4 fun _ Y=>?_;simp (disch:=omega);and_intros<;>(try omega);apply Y;simp only [List.drop];refine aI fun _ Y=>?_;simp (disch:=omega);refine dO (xF l[k] _ (hf _ (List.getElem_mem _))) ?_;apply Y;simp (disch:=omega);and_intros<;>(try omega);apply Z;refine zk [0,1,2,6,7,8,9] ?_;refine zr ⟨[8,41],[],[],[],[]⟩ fun _ _ Z=>?_;refine aA 8 fun _ Y=>?_;simp (disch:=omega);and_intros<;>(try omega);apply Y;simp only [List.drop];refine aI fun _ Y=>?_;simp (disch:=omega);refine Tn (ih (k + 1) l[k].deep (by omega) (by omega) _) ?_;rintro _ τ1 ⟨⟨ws, j, hr, hj1, hj2, hg, hs⟩, hτ⟩;subst hr hτ;apply Y;simp (disch:=omega);and_intros<;>(try omega);apply Z;refine zk [0,1,2,6,7,8,9] ?_;refine zt ⟨[8,41],[],[],[],[]⟩ fun _ _ Z=>?_;simp (disch:=omega);and_intros<;>(try omega);apply Z;apply aN;refine bL ((vs ++ [{ kJ l[k] with kids := ws }], j)) ?_ ?_ (aW rfl ?_ (by simp) (by simp))
   ·refine ⟨by omega, hj2, fun v hv => ?_, ?_, ?_⟩
    ·rcases List.mem_append.1 hv with hv | hv
     ·exact h3 v hv
     ·rw [List.mem_singleton.1 hv]; exact .mk _ (yU _ _) hg
    ·simp only [List.map_append, List.sum_append, List.map_cons, List.map_nil, List.sum_cons, List.sum_nil, nV { kJ l[k] with kids := ws }]; omega
    ·simp; omega
   ·try dsimp only
    omega
   ·simp (disch:=omega)
  ·try simp at c2
   apply bB;apply bC;apply bA;apply aS;apply aB;refine zk [1,6,7,8] ?_;refine zr ⟨[8,41],[],[],[],[]⟩ fun _ _ Z=>?_;simp (disch:=omega);and_intros<;>(try omega);apply Z;apply aG;simp [aQ];exact ⟨vs, k, ⟨rfl, rfl⟩, h1, h2, h3, h4⟩
 ·try simp at g1
  simp (disch:=omega)[ga4];and_intros<;>(try omega);apply Z;refine bZ (t := false) (by simp) (fun h => by cases h) (fun _ => ?_);apply bB;apply bC;apply bA;apply aS;apply aB;refine zk [1,6,7,8] ?_;refine zr ⟨[8,41],[],[],[],[]⟩ fun _ _ Z=>?_;simp (disch:=omega);and_intros<;>(try omega);apply Z;apply aG;simp [aQ];exact ⟨vs, k, ⟨rfl, rfl⟩, h1, h2, h3, h4⟩
end Go.Proofs.YtighdhfgcdjmeaaGreatDoor
namespace Go.Proofs.YtighdhfgcdjmeaaGreatDoor
open Go Go.Vm
set_option maxRecDepth 20000
set_option linter.all false
set_option maxHeartbeats 8000000
theorem wE (l : List FL) (hl : l.length ≤ 25) (hf : ∀ f ∈ l, FO f) : ∀ (n i : Nat) (d : Int), l.length - i ≤ n → i ≤ l.length → Qg l i d
 | 0, i, d, hn, hi => fun σ => Al l i d σ hl hf hi fun i2 d2 h1 h2 => absurd h2 (by omega)
 | n + 1, i, d, hn, hi => fun σ => Al l i d σ hl hf hi fun i2 d2 h1 h2 => wE l hl hf n i2 d2 (by omega) h2
def pM : VN := ⟨2, ⟨#[112]⟩, ⟨#[]⟩, ⟨#[]⟩, [], [], [], ⟨0, 0, 0, 0, false, false⟩, []⟩
theorem Nc : VG pM := .mk _ ⟨by decide, by decide, by decide, by decide +kernel⟩ fun k hk => by cases hk
theorem Kr : iW pM ≤ 25 := by rw [nV]; decide
theorem Qo (f : FL) (ws : List VN) (j : Nat) (hg : ∀ v ∈ ws, VG v) (hs : (ws.map iW).sum = j - 1) (hj : j ≤ 25) (h1 : 1 ≤ j) : VG { kJ f with kids := ws } ∧ iW { kJ f with kids := ws } ≤ 25 := by
 refine ⟨.mk _ (yU _ _) hg, ?_⟩;rw [nV]; simp only []; omega
theorem Mn (l : List FL) (n : Nat) (σ : List (List D)) (hn : n ≤ 25) (hl : l.length ≤ 9223372036854775807) (hf : ∀ f ∈ l, FO f) : Ct Tryz.prog 7 [.sl false (l.map wC), D.int n] σ (fun r σ' => (r.plain = true ∧ ∃ v : VN, r.strip = yJ v ∧ VG v ∧ iW v ≤ 25) ∧ σ' = σ) := by
 refine zf (rs:=[.cell 4 41]) Tryz.func7 Tryz.ntmps7 Tryz.results7 ?_;simp only [aU];refine bP fun _ _ Z=>?_;simp (disch:=omega);and_intros<;>(try omega);apply Z;apply aE;refine bP fun _ _ Z=>?_;simp (disch:=omega);and_intros<;>(try omega);apply Z;refine zi ?_;refine ⟨fun c1=>?_,fun c1=>?_⟩
 ·try simp at c1
  refine mW fun _ _ Z=>?_;simp (disch:=omega);and_intros<;>(try omega);apply Z;apply aB;apply aE;rw [← List.map_take];obtain ⟨L, hL⟩ : ∃ L, L = l.take n := ⟨_, rfl⟩;rw [← hL];have hLl : L.length ≤ 25 := by rw [hL, List.length_take]; omega
  have hLf : ∀ f ∈ L, FO f := by rw [hL]; exact fun f hf2 => hf f (List.mem_of_mem_take hf2)
  refine bP fun _ _ Z=>?_;simp (disch:=omega);and_intros<;>(try omega);apply Z;refine zi ?_;refine ⟨fun c2=>?_,fun c2=>?_⟩
  ·try simp at c2
   refine zk [0,4] ?_;refine bP fun _ _ Z=>?_;simp (disch:=omega);and_intros<;>(try omega);apply Z;apply aG;apply bG;simp [aQ];exact ⟨pM, by simp [pM], Nc, Kr⟩
  ·try simp at c2
   apply aF;apply aB;have hL0 : 0 < L.length := by
    rcases L with _ | ⟨a, b⟩
    ·first | (simp at c2; done) | (simp at c3; done)
    ·simp
   refine zk [0,4] ?_;refine bP fun _ _ Z=>?_;refine aA 3 fun _ Y=>?_;simp (disch:=omega);and_intros<;>(try omega);apply Y;simp only [List.drop];refine aI fun _ Y=>?_;simp (disch:=omega);refine dO (xF L[0] _ (hLf _ (List.getElem_mem _))) ?_;apply Y;simp (disch:=omega);and_intros<;>(try omega);apply Z;refine bP fun _ _ Z=>?_;refine aA 5 fun _ Y=>?_;simp (disch:=omega);and_intros<;>(try omega);apply Y;simp only [List.drop];refine aI fun _ Y=>?_;simp (disch:=omega);refine Tn (wE L hLl hLf 25 1 L[0].deep (by omega) (by omega) _) ?_;rintro _ τ1 ⟨⟨ws, j, hr, hj1, hj2, hg, hs⟩, hτ⟩;subst hr hτ;apply Y;simp (disch:=omega);and_intros<;>(try omega);apply Z;refine zk [4,5] ?_;refine bP fun _ _ Z=>?_;simp (disch:=omega);and_intros<;>(try omega);apply Z;apply aG;simp [aQ];exact ⟨{ kJ L[0] with kids := ws }, by simp, Qo _ ws j hg hs (by omega) (by omega)⟩
 ·try simp at c1
  apply aF;apply aB;apply aE;obtain ⟨L, hL⟩ : ∃ L, L = l := ⟨_, rfl⟩;have hLl : L.length ≤ 25 := by rw [hL]; omega
  have hLf : ∀ f ∈ L, FO f := by rw [hL]; exact hf
  rw [← hL];refine bP fun _ _ Z=>?_;simp (disch:=omega);and_intros<;>(try omega);apply Z;refine zi ?_;refine ⟨fun c3=>?_,fun c3=>?_⟩
  ·try simp at c3
   refine bP fun _ _ Z=>?_;simp (disch:=omega);and_intros<;>(try omega);apply Z;apply aG;apply bG;simp [aQ];exact ⟨pM, by simp [pM], Nc, Kr⟩
  ·try simp at c3
   apply aF;apply aB;have hL0 : 0 < L.length := by
    rcases L with _ | ⟨a, b⟩
    ·first | (simp at c2; done) | (simp at c3; done)
    ·simp
   refine bP fun _ _ Z=>?_;refine aA 3 fun _ Y=>?_;simp (disch:=omega);and_intros<;>(try omega);apply Y;simp only [List.drop];refine aI fun _ Y=>?_;simp (disch:=omega);refine dO (xF L[0] _ (hLf _ (List.getElem_mem _))) ?_;apply Y;simp (disch:=omega);and_intros<;>(try omega);apply Z;refine zk [0,4,5] ?_;refine bP fun _ _ Z=>?_;refine aA 5 fun _ Y=>?_;simp (disch:=omega);and_intros<;>(try omega);apply Y;simp only [List.drop];refine aI fun _ Y=>?_;simp (disch:=omega);refine Tn (wE L hLl hLf 25 1 L[0].deep (by omega) (by omega) _) ?_;rintro _ τ1 ⟨⟨ws, j, hr, hj1, hj2, hg, hs⟩, hτ⟩;subst hr hτ;apply Y;simp (disch:=omega);and_intros<;>(try omega);apply Z;refine zk [4,5] ?_;refine bP fun _ _ Z=>?_;simp (disch:=omega);and_intros<;>(try omega);apply Z;apply aG;simp [aQ];exact ⟨{ kJ L[0] with kids := ws }, by simp, Qo _ ws j hg hs (by omega) (by omega)⟩
end Go.Proofs.YtighdhfgcdjmeaaGreatDoor
namespace Go.Proofs.YtighdhfgcdjmeaaGreatDoor
open Go Go.Vm
set_option maxRecDepth 20000
set_option linter.all false
set_option maxHeartbeats 8000000
theorem Pm (l : List FL) (n : Nat) (σ : List (List D)) (hn : n ≤ 25) (hl : l.length ≤ 9223372036854775807) (hf : ∀ f ∈ l, FO f) : Ct Tryz.prog 7 [.sl false (l.map wC), D.int n] σ (fun r σ' => (∃ v : VN, r = yJ v ∧ VG v ∧ iW v ≤ 25) ∧ σ' = σ) :=
 (Mn l n σ hn hl hf).strip fun r σ' h => ⟨h.1.1, h.1.2, h.2⟩
def Qi (l : List PI) (k : Nat) : List PI := l.take k
theorem Iu (l : List PI) : Qi l 0 = [] := rfl
theorem sF (l : List PI) (k : Nat) (h : k < l.length) : Qi l (k + 1) = Qi l k ++ [l[k]] := cG l k h
theorem De (l : List PI) : Qi l l.length = l := List.take_length
theorem Ef (l : List PI) (k : Nat) : (Qi l k).length ≤ k := by unfold Qi; rw [List.length_take]; omega
theorem Np (l : List PI) (σ : List (List D)) (hl : l.length ≤ 999999) : Ct Tryz.prog 16 [.sl false (l.map bR)] σ (fun r σ' => r = .sl false ((ofL nP l).map bR) ∧ σ' = σ) := (Bw l σ hl).freeze fun r σ' h => h
theorem Js (N : Nat) (t : TN) : Sc N (iT t) := Sc.agg fun d hd => by
 simp only [List.mem_cons, List.not_mem_nil, or_false] at hd;rcases hd with rfl | rfl | rfl | rfl | rfl | rfl | rfl | rfl
 ·exact Sc.v _
 ·exact Sc.v _
 ·exact Sc.v _
 ·exact Sc.v _
 ·exact Sc.sl (Sc.map fun a => Ld _ a)
 ·exact Sc.sl (Sc.map fun a => Jw _ a)
 ·exact Sc.sl (Sc.map fun a => Ms _ a)
 ·refine Sc.sl fun d hd => ?_;obtain ⟨k, hk, e⟩ := List.mem_map.1 hd;rw [← e, Pi];exact Js N k
termination_by SizeOf.sizeOf t
decreasing_by
 have h := List.sizeOf_lt_of_mem hk;cases t; simp at h ⊢; omega
def iM (t : TN) : Nat := 1 + (t.kids.attach.map fun k => iM k.1).sum
termination_by SizeOf.sizeOf t
decreasing_by
 have h := List.sizeOf_lt_of_mem k.2;cases t; simp at h ⊢; omega
theorem fK (t : TN) : iM t = 1 + (t.kids.map iM).sum := by rw [iM]; simp
abbrev TF (t : TN) : Prop := (t.styles.length ≤ 4 ∧ Sorted nP t.styles) ∧ (t.attrs.length ≤ 4 ∧ Sorted nA t.attrs) ∧ t.text.size ≤ 70 ∧ t.classes.length ≤ 4
inductive TG : TN → Prop
 | mk (t : TN) (h : TF t) (hk : ∀ k ∈ t.kids, TG k) : TG t
def mZ (v : VN) (k : Nat) : Nat := ((v.kids.take k).map iW).sum
theorem Mi (v : VN) : mZ v 0 = 0 := rfl
theorem jJ (v : VN) (k : Nat) (h : k < v.kids.length) : mZ v (k + 1) = mZ v k + iW v.kids[k] := by
 unfold mZ; rw [cG _ _ h, List.map_append, List.sum_append]; simp
theorem zC (v : VN) : mZ v v.kids.length + 1 = iW v := by unfold mZ; rw [List.take_length, nV]; omega
theorem Dh (v : VN) (k : Nat) : ∀ d, mZ v k ≤ mZ v (k + d)
 | 0 => Nat.le_refl _
 | d + 1 => by
  refine Nat.le_trans (Dh v k d) ?_;by_cases h : k + d < v.kids.length
  ·have := jJ v (k + d) h;show _ ≤ mZ v (k + d + 1)
   omega
  ·unfold mZ; rw [List.take_of_length_le (by omega), List.take_of_length_le (by omega)]; exact Nat.le_refl _
theorem Qc (v : VN) (k : Nat) (h : k < v.kids.length) : mZ v k + iW v.kids[k] + 1 ≤ iW v := by
 have h1 := jJ v k h;have h2 := Dh v (k + 1) (v.kids.length - (k + 1));rw [show k + 1 + (v.kids.length - (k + 1)) = v.kids.length by omega] at h2;have h3 := zC v;omega
theorem Ja (v : VN) : ∀ k, k ≤ v.kids.length → k ≤ mZ v k
 | 0, _ => Nat.zero_le _
 | k + 1, h => by
  have h1 := jJ v k (by omega);have h2 := Ja v k (by omega);have h3 := nV v.kids[k];omega
abbrev Qm (v : VN) : Prop := ∀ (i : Nat) (σ : List (List D)), i + iW v ≤ 1000000 → Ct Tryz.prog 6 [yJ v, D.int i] σ (fun r σ' => (∃ t : TN, r = .tup [iT t, D.int ((i + iW v : Nat) : Int)] ∧ TG t ∧ iM t = iW v) ∧ σ' = σ)
theorem Gp (l : List PI) (σ : List (List D)) (hl : l.length ≤ 999999) : Ct Tryz.prog 18 [.sl false (l.map bR)] σ (fun r σ' => r = .sl true (l.map bR) ∧ σ' = σ) := by
 refine zf (rs:=[.tmp 2]) Tryz.func18 Tryz.ntmps18 Tryz.results18 ?_;simp only [aU];refine zr ⟨[2,3,12,17],[],[],[],[]⟩ fun _ _ Z=>?_;simp (disch:=omega);and_intros<;>(try omega);apply Z;refine zr ⟨[2,3,12,17],[],[],[],[]⟩ fun _ _ Z=>?_;simp (disch:=omega);and_intros<;>(try omega);apply Z;apply aE;refine zr ⟨[2,3,12,17],[],[],[],[]⟩ fun _ _ Z=>?_;simp (disch:=omega);and_intros<;>(try omega);apply Z;apply aH;refine zk [2,3,6,7,8] ?_;refine cR (fun (k : Nat) => [(8, .d (.v (.int .i64 (k : Int)))), (3, .d (.sl true ((Qi l k).map bR))), (5, .d (.any))]) [3, 5, 8, 9, 10, 11, 12, 13, 14, 15, 16] (fun (k : Nat) => k ≤ l.length) (fun (k : Nat) => l.length - k) (0) (by simp <;> rfl) ?_ ?_ ?_
 ·simp [Iu]
 ·simp
 rintro k hk;simp only [List.cons_append, List.nil_append];have htl := Ef l k;refine zr ⟨[2,3,12,17],[],[],[],[]⟩ fun _ _ Z=>?_;simp (disch:=omega);and_intros<;>(try omega);apply Z;apply aE;refine zi ?_;refine ⟨fun c1=>?_,fun c1=>?_⟩
 ·try simp at c1
  apply aF;apply aB;apply aE;apply aH;refine zr ⟨[2,3,12,17],[],[],[],[]⟩ fun _ _ Z=>?_;simp (disch:=omega);and_intros<;>(try omega);apply Z;refine zt ⟨[2,3,12,17],[],[],[],[]⟩ fun _ _ Z=>?_;simp (disch:=omega);and_intros<;>(try omega);apply Z;apply aN;apply aB;refine zk [2,3,5,6,7,8] ?_;refine zt ⟨[2,3,12,17],[],[],[],[]⟩ fun _ _ Z=>?_;simp (disch:=omega);and_intros<;>(try omega);apply Z;refine bL (k + 1) ?_ ?_ (aW rfl ?_ (by simp) (by simp))
  ·omega
  ·try dsimp only
   omega
  ·simp (disch:=omega)[sF]
 ·try simp at c1
  obtain rfl : k = l.length := by omega
  rw [De];apply bB;apply bC;apply bA;apply aS;apply aB;refine zr ⟨[2,3,12,17],[],[],[],[]⟩ fun _ _ Z=>?_;simp (disch:=omega);and_intros<;>(try omega);apply Z;apply aG;simp [aQ]
end Go.Proofs.YtighdhfgcdjmeaaGreatDoor
namespace Go.Proofs.YtighdhfgcdjmeaaGreatDoor
open Go Go.Vm
set_option maxRecDepth 20000
set_option linter.all false
set_option maxHeartbeats 8000000
theorem Kn (v : VN) (i : Nat) (σ : List (List D)) (hv : VF v) (hi : i + iW v ≤ 1000000) (ih : ∀ k ∈ v.kids, VG k ∧ Qm k) : Ct Tryz.prog 6 [yJ v, D.int i] σ (fun r σ' => (∃ t : TN, r = .tup [iT t, D.int ((i + iW v : Nat) : Int)] ∧ TG t ∧ iM t = iW v) ∧ ∃ J, σ' = σ ++ J) := by
 refine zf (rs:=[.cell 4 32,.tmp 5]) Tryz.func6 Tryz.ntmps6 Tryz.results6 ?_;simp only [aU];have hce := zC v;have hck := Ja v v.kids.length (Nat.le_refl _);have hv1 := hv.1;have hv2 := hv.2.1;have hv3 := hv.2.2.1;refine zr ⟨[62],[],[6],[],[]⟩ fun _ _ Z=>?_;simp (disch:=omega)[aD,aC];and_intros<;>(try omega);apply Z;refine zd ⟨[62],[],[6],[],[]⟩ [.op {},.op {},.op {rL:=true},.op {},.op {},.op {rL:=true},.op {},.op {rL:=true},.op {},.op {},.op {rL:=true},.op {},.op {},.op {rL:=true},.pure,.pure,.op {},.op {rO:=true,wO:=true},.op {rO:=true,wO:=true}] fun all hall _ Z=>?_;refine bJ 8 (by simp) fun _ Y=>?_;simp (disch:=omega)[aD,aC];and_intros<;>(try omega);apply Y;simp only [List.drop];refine bJ 6 (by simp) fun _ Y=>?_;simp (disch:=omega)[aD,aC];and_intros<;>(try omega);apply Y;simp only [List.drop];refine cL fun _ Y=>?_;simp (disch:=omega)[aD,aC];refine An (fun _ => (Gp v.styles _ (by omega))) ?_;apply Y;refine cL fun _ Y=>?_;simp (disch:=omega)[aD,aC];refine An (fun _ => (Np v.styles _ (by omega))) ?_;apply Y;simp (disch:=omega)[aD,aC];and_intros<;>(try omega);apply Z;apply aE;refine Ic σ.length ([D.int i, D.int (min v.kind 2), D.str v.tag, D.str v.text, .sl false (v.classes.map D.str), .sl false (([]).map bW), .sl false ((ofL nP v.styles).map bR), .sl true ([])]) (by simp [aD]; rfl) (by simp [Un, D.s1]) ?_;simp only [aC, List.set_cons_zero];refine zk [1,2,4,5,6] ?_;refine zr ⟨[62],[],[6],[],[]⟩ fun _ _ Z=>?_;simp (disch:=omega)[aD,aC];and_intros<;>(try omega);apply Z;apply aH;refine zk [1,2,4,5,6,31,32,33] ?_;refine iA (fun (k : Nat) => [(33, .d (.v (.int .i64 (k : Int)))), (8, .d (.any))]) (fun (k : Nat) => []) (fun (k : Nat) => [(σ.length, [D.int i, D.int (min v.kind 2), D.str v.tag, D.str v.text, .sl false (v.classes.map D.str), .sl false ((ofL nA (v.attrs.take k)).map bW), .sl false ((ofL nP v.styles).map bR), .sl true ([])])]) [8, 33, 34, 35, 36, 37, 38, 39, 40, 41, 42, 43, 44, 45] (fun (k : Nat) => k ≤ v.attrs.length) (fun (k : Nat) => v.attrs.length - k) (0) (by simp <;> rfl) ?_ (by simp) (by simp [aD, ofL]) ?_ ?_
 ·simp
 ·simp
 rintro k hk;simp only [List.cons_append, List.nil_append, iJ, gK, List.set_cons_zero, List.set_cons_succ];have hol := ofL_len nA (v.attrs.take k);simp only [List.length_take] at hol;refine zr ⟨[62],[],[6],[],[]⟩ fun _ _ Z=>?_;simp (disch:=omega)[aD,aC];and_intros<;>(try omega);apply Z;apply aE;refine zi ?_;refine ⟨fun c1=>?_,fun c1=>?_⟩
 ·try simp at c1
  apply aF;apply aB;apply aE;apply aH;refine zr ⟨[62],[],[6],[],[]⟩ fun _ _ Z=>?_;simp (disch:=omega)[aD,aC];and_intros<;>(try omega);apply Z;refine zk [1,2,4,5,6,8,31,32,33] ?_;refine zt ⟨[62],[],[6],[],[]⟩ fun _ _ Z=>?_;refine aA 6 fun _ Y=>?_;simp (disch:=omega)[aD,aC];and_intros<;>(try omega);apply Y;simp only [List.drop];refine aI fun _ Y=>?_;simp (disch:=omega)[aD,aC];refine dO (Pf (ofL nA (v.attrs.take k)) v.attrs[k].name v.attrs[k].value _ (by omega) (ofL_sorted nA _)) ?_;apply Y;simp (disch:=omega)[aD,aC];and_intros<;>(try omega);apply Z;apply aN;apply aB;refine zk [1,2,4,5,6,8,31,32,33] ?_;refine zt ⟨[62],[],[6],[],[]⟩ fun _ _ Z=>?_;simp (disch:=omega)[aD,aC];and_intros<;>(try omega);apply Z;refine bL (k + 1) ?_ ?_ (aW rfl ?_ (by simp) (by simp [ofL_take, *]))
  ·omega
  ·try dsimp only
   omega
  ·simp (disch:=omega)[aD,aC]
 ·try simp at c1
  obtain rfl : k = v.attrs.length := by omega
  rw [List.take_length];apply bB;apply bC;apply bA;apply aS;apply aB;refine zr ⟨[62],[],[6],[],[]⟩ fun _ _ Z=>?_;simp (disch:=omega)[aD,aC];and_intros<;>(try omega);apply Z;apply aE;refine zk [1,2,4,5,6] ?_;refine zr ⟨[62],[],[6],[],[]⟩ fun _ _ Z=>?_;simp (disch:=omega)[aD,aC];and_intros<;>(try omega);apply Z;apply aH;refine zk [1,4,5,6,49,50,51] ?_;refine iA (fun (p : List TN × Nat) => [(51, .d (.v (.int .i64 (p.2 : Int)))), (1, .d (.v (.int .i64 ((i + 1 + mZ v p.2) : Int)))), (10, .d (.any)), (11, .d (.any)), (12, .d (.any))]) (fun (p : List TN × Nat) => []) (fun (p : List TN × Nat) => [(σ.length, [D.int i, D.int (min v.kind 2), D.str v.tag, D.str v.text, .sl false (v.classes.map D.str), .sl false ((ofL nA v.attrs).map bW), .sl false ((ofL nP v.styles).map bR), .sl true (p.1.map iX)])]) [1, 10, 11, 12, 51, 52, 53, 54, 55, 56, 57, 58, 59, 60, 61, 62, 63, 64, 65, 66, 67, 68] (fun (p : List TN × Nat) => p.2 ≤ v.kids.length ∧ (∀ t ∈ p.1, TG t) ∧ (p.1.map iM).sum = mZ v p.2 ∧ p.1.length ≤ p.2) (fun (p : List TN × Nat) => v.kids.length - p.2) (([], 0)) (by simp <;> rfl) ?_ (by simp) (by simp [aD]) ?_ ?_
  ·simp [Mi]
  ·simp [Mi]
  rintro ⟨ts, j⟩ ⟨h1, h2, h3, h4⟩;simp only [List.cons_append, List.nil_append, iJ, gK, List.set_cons_zero, List.set_cons_succ];dsimp only at h1 h2 h3 h4;have hlt := Qc v j;refine zr ⟨[62],[],[6],[],[]⟩ fun _ _ Z=>?_;simp (disch:=omega)[aD,aC];and_intros<;>(try omega);apply Z;apply aE;refine zi ?_;refine ⟨fun c2=>?_,fun c2=>?_⟩
  ·try simp at c2
   apply aF;apply aB;apply aE;apply aH;refine zr ⟨[62],[],[6],[],[]⟩ fun _ _ Z=>?_;simp (disch:=omega)[aD,aC];and_intros<;>(try omega);apply Z;refine zk [1,4,5,6,10,11,12,49,50,51] ?_;refine zr ⟨[62],[],[6],[],[]⟩ fun _ _ Z=>?_;refine aA 2 fun _ Y=>?_;simp (disch:=omega)[aD,aC];and_intros<;>(try omega);apply Y;simp only [List.drop];refine aI fun _ Y=>?_;simp (disch:=omega)[aD,aC];refine Tn ((ih v.kids[j] (List.getElem_mem _)).2 (i + 1 + mZ v j) _ (by have := hlt (by assumption); omega)) ?_;rintro _ τ1 ⟨⟨u, hr, hu, hcu⟩, hτ⟩;subst hr hτ;apply Y;simp (disch:=omega)[aD,aC];and_intros<;>(try omega);apply Z;refine zk [1,4,5,6,10,11,12,49,50,51] ?_;refine zr ⟨[62],[],[6],[],[]⟩ fun _ _ Z=>?_;simp (disch:=omega)[aD,aC];and_intros<;>(try omega);apply Z;refine zk [1,4,5,6,10,11,12,49,50,51] ?_;refine zt ⟨[62],[],[6],[],[]⟩ fun _ _ Z=>?_;simp (disch:=omega)[aD,aC];and_intros<;>(try omega);apply Z;apply aN;apply aB;refine zk [1,4,5,6,10,11,12,49,50,51] ?_;refine zt ⟨[62],[],[6],[],[]⟩ fun _ _ Z=>?_;simp (disch:=omega)[aD,aC];and_intros<;>(try omega);apply Z;refine bL ((ts ++ [u], j + 1)) ?_ ?_ (aW rfl ?_ (by simp) (by simp))
   ·refine ⟨by omega, fun t ht => ?_, ?_, ?_⟩
    ·rcases List.mem_append.1 ht with ht | ht
     ·exact h2 t ht
     ·rw [List.mem_singleton.1 ht]; exact hu
    ·simp only [List.map_append, List.sum_append, List.map_cons, List.map_nil, List.sum_cons, List.sum_nil, jJ v j (by assumption)]; omega
    ·simp; omega
   ·try dsimp only
    omega
   ·simp (disch:=omega)[aD,aC,jJ v j (by omega),Int.add_assoc]
  ·try simp at c2
   obtain rfl : j = v.kids.length := by omega
   apply bB;apply bC;apply bA;apply aS;apply aB;refine zr ⟨[62],[],[6],[],[]⟩ fun _ _ Z=>?_;simp (disch:=omega)[aD,aC];and_intros<;>(try omega);apply Z;apply aG;simp [aQ];refine ⟨⟨i, min v.kind 2, v.tag, v.text, v.classes, ofL nA v.attrs, ofL nP v.styles, ts⟩, ?_, ?_, ?_⟩
   ·simp; omega
   ·exact .mk _ ⟨⟨Nat.le_trans (ofL_len nP v.styles) hv3, ofL_sorted nP _⟩, ⟨Nat.le_trans (ofL_len nA v.attrs) hv2, ofL_sorted nA _⟩, hv.2.2.2, hv.1⟩ h2
   ·rw [fK]; simp only []; omega
end Go.Proofs.YtighdhfgcdjmeaaGreatDoor

