import Derived.Test.YtighdhfgcdjmeaaDoorWkL6
namespace Go.Proofs.YtighdhfgcdjmeaaDoor
open Go Go.Vm
set_option maxRecDepth 20000
set_option linter.all false
set_option maxHeartbeats 8000000
structure OPT where
 enter : Int
 leave : Int
 move : Int
 mode : Int
 appear : Bool
 moves : Bool
 deriving DecidableEq
@[simp] abbrev Ry (s : OPT) : D := .agg [.v (.int .i64 s.enter), .v (.int .i64 s.leave), .v (.int .i64 s.move), .v (.int .i64 s.mode), .v (.bool s.appear), .v (.bool s.moves)]
structure FL where
 deep : Int
 kind : Int
 tag : ByteArray
 key : ByteArray
 text : ByteArray
 classes : (List ByteArray)
 attrs : (List AT)
 styles : (List PI)
 opts : OPT
 deriving DecidableEq
@[simp] abbrev vJ (s : FL) : D := .agg [.v (.int .i64 s.deep), .v (.int .i64 s.kind), .v (.string s.tag), .v (.string s.key), .v (.string s.text), .sl false (s.classes.map D.str), .sl false (s.attrs.map bZ), .sl false (s.styles.map bQ), .v (.int .i64 s.opts.enter), .v (.int .i64 s.opts.leave), .v (.int .i64 s.opts.move), .v (.int .i64 s.opts.mode), .v (.bool s.opts.appear), .v (.bool s.opts.moves)]
@[simp] abbrev Zm (s : FL) : D := .agg [.v (.int .i64 s.deep), .v (.int .i64 s.kind), .v (.string s.tag), .v (.string s.key), .v (.string s.text), .sl true (s.classes.map D.str), .sl true (s.attrs.map bZ), .sl true (s.styles.map bQ), .v (.int .i64 s.opts.enter), .v (.int .i64 s.opts.leave), .v (.int .i64 s.opts.move), .v (.int .i64 s.opts.mode), .v (.bool s.opts.appear), .v (.bool s.opts.moves)]
structure VN where
 kind : Int
 tag : ByteArray
 key : ByteArray
 text : ByteArray
 classes : (List ByteArray)
 attrs : (List AT)
 styles : (List PI)
 opts : OPT
 kids : (List VN)
def xS (s : VN) : D := .agg [.v (.int .i64 s.kind), .v (.string s.tag), .v (.string s.key), .v (.string s.text), .sl false (s.classes.map D.str), .sl false (s.attrs.map bZ), .sl false (s.styles.map bQ), .v (.int .i64 s.opts.enter), .v (.int .i64 s.opts.leave), .v (.int .i64 s.opts.move), .v (.int .i64 s.opts.mode), .v (.bool s.opts.appear), .v (.bool s.opts.moves), .sl false (s.kids.attach.map fun k => xS k.1)]
termination_by SizeOf.sizeOf s
decreasing_by
 have h := List.sizeOf_lt_of_mem k.2;cases s; simp at h ⊢; omega
@[simp] abbrev wZ (s : VN) : D := .agg [.v (.int .i64 s.kind), .v (.string s.tag), .v (.string s.key), .v (.string s.text), .sl false (s.classes.map D.str), .sl false (s.attrs.map bZ), .sl false (s.styles.map bQ), .v (.int .i64 s.opts.enter), .v (.int .i64 s.opts.leave), .v (.int .i64 s.opts.move), .v (.int .i64 s.opts.mode), .v (.bool s.opts.appear), .v (.bool s.opts.moves), .sl false (s.kids.map xS)]
@[simp] abbrev aBw (s : VN) : D := .agg [.v (.int .i64 s.kind), .v (.string s.tag), .v (.string s.key), .v (.string s.text), .sl true (s.classes.map D.str), .sl true (s.attrs.map bZ), .sl true (s.styles.map bQ), .v (.int .i64 s.opts.enter), .v (.int .i64 s.opts.leave), .v (.int .i64 s.opts.move), .v (.int .i64 s.opts.mode), .v (.bool s.opts.appear), .v (.bool s.opts.moves), .sl true (s.kids.map xS)]
@[simp] theorem So (s : VN) : xS s = wZ s := by rw [xS]; simp
def nW (l : Ls) (n : Nat) : Ls := (l.take n).map (iR 20)
def Uc (p : PI) : PI := ⟨iR 20 p.name, p.value⟩
def Sv (p : AT) : AT := ⟨iR 20 p.name, iR 40 p.value⟩
def oR (l : List PI) (n : Nat) : List PI := (l.take n).map Uc
def sB (l : List AT) (n : Nat) : List AT := (l.take n).map Sv
theorem Dl (l : List ByteArray) (k : Nat) (h : k < l.length) : nW l (k + 1) = nW l k ++ [iR 20 l[k]] := by
 unfold nW;rw [dQ l k h, List.map_append]; rfl
theorem Qo (l : List ByteArray) : nW l 0 = [] := rfl
theorem yG (l : List ByteArray) (n : Nat) : (nW l n).length ≤ n := by simp [nW]; omega
theorem Kn (l : List ByteArray) (k n : Nat) (h : l.length ≤ k) (hn : k ≤ n) : nW l k = nW l n := by
 unfold nW;rw [List.take_of_length_le h, List.take_of_length_le (Nat.le_trans h hn)]
theorem Da (l : List PI) (k : Nat) (h : k < l.length) : oR l (k + 1) = oR l k ++ [⟨iR 20 l[k].name, l[k].value⟩] := by
 unfold oR;rw [dQ l k h, List.map_append]; rfl
theorem Qr (l : List PI) : oR l 0 = [] := rfl
theorem yD (l : List PI) (n : Nat) : (oR l n).length ≤ n := by simp [oR]; omega
theorem Gk (l : List PI) (k n : Nat) (h : l.length ≤ k) (hn : k ≤ n) : oR l k = oR l n := by
 unfold oR;rw [List.take_of_length_le h, List.take_of_length_le (Nat.le_trans h hn)]
theorem El (l : List AT) (k : Nat) (h : k < l.length) : sB l (k + 1) = sB l k ++ [⟨iR 20 l[k].name, iR 40 l[k].value⟩] := by
 unfold sB;rw [dQ l k h, List.map_append]; rfl
theorem Pf (l : List AT) : sB l 0 = [] := rfl
theorem yA (l : List AT) (n : Nat) : (sB l n).length ≤ n := by simp [sB]; omega
theorem Kf (l : List AT) (k n : Nat) (h : l.length ≤ k) (hn : k ≤ n) : sB l k = sB l n := by
 unfold sB;rw [List.take_of_length_le h, List.take_of_length_le (Nat.le_trans h hn)]
theorem Pz (l : Ls) (n : Nat) (σ : List (List D)) (hl : l.length ≤ 9223372036854775807) (hn : n ≤ 1000000) : Ct Tryd.prog 34 [dl l, D.int n] σ (fun r σ' => r = .sl true ((nW l n).map D.str) ∧ σ' = σ) := by
 refine zf (rs:=[.tmp 4]) Tryd.func34 Tryd.ntmps34 Tryd.results34 ?_;simp only [aU];refine zr ⟨[4,5,18,26],[],[],[],[]⟩ fun _ _ Z=>?_;simp (disch:=omega);and_intros<;>(try omega);apply Z;refine zr ⟨[4,5,18,26],[],[],[],[]⟩ fun _ _ Z=>?_;simp (disch:=omega);and_intros<;>(try omega);apply Z;apply aE;refine zr ⟨[4,5,18,26],[],[],[],[]⟩ fun _ _ Z=>?_;simp (disch:=omega);and_intros<;>(try omega);apply Z;apply aN;refine zk [0,1,4,5,6] ?_;refine dA (fun (k : Nat) => [(6, .d (.int (k : Int))), (5, .d (.sl true ((nW l k).map D.str)))]) [5, 6, 7, 8, 9, 10, 11, 12, 13, 14, 15, 16, 17, 18, 19, 20, 21, 22, 23, 24, 25] (fun (k : Nat) => k ≤ l.length ∧ k ≤ n) (fun (k : Nat) => l.length - k) (0) (by simp <;> rfl) ?_ ?_ ?_
 ·simp [Qo]
 ·simp
 rintro k ⟨hk, hn2⟩;simp only [List.cons_append, List.nil_append];have hfl := yG l k;apply aE;refine Cu ⟨[4,5,18,26],[],[],[],[]⟩ fun all hall _ Z=>?_;have ga4 : aY all 4 = some 11 := hall 4;refine aC 5 fun _ Y=>?_;simp (disch:=omega)[ga4];and_intros<;>(try omega);apply Y;simp only [List.drop];refine cC 11 (by simp <;> rfl) ?_;refine ⟨fun g1 => ?_, fun g1 => ?_⟩
 ·try simp at g1
  simp (disch:=omega)[ga4];and_intros<;>(try omega);apply Z;refine zi ?_;refine ⟨fun c2=>?_,fun c2=>?_⟩
  ·try simp at c2
   apply aJ;apply aD;apply aE;apply aN;refine zk [0,1,4,5,6] ?_;refine zt ⟨[4,5,18,26],[],[],[],[]⟩ fun _ _ Z=>?_;refine aC 5 fun _ Y=>?_;simp (disch:=omega);and_intros<;>(try omega);apply Y;simp only [List.drop];refine aI fun _ Y=>?_;simp (disch:=omega);refine eV (mA _ 20 _ (by omega)) ?_;apply Y;simp (disch:=omega);and_intros<;>(try omega);apply Z;apply aX;apply aD;refine zk [0,1,4,5,6] ?_;refine zt ⟨[4,5,18,26],[],[],[],[]⟩ fun _ _ Z=>?_;simp (disch:=omega);and_intros<;>(try omega);apply Z;refine bW (k + 1) ?_ ?_ (bK rfl ?_ (by simp) (by simp))
   ·omega
   ·try dsimp only
    omega
   ·simp (disch:=omega)[Dl]
  ·try simp at c2
   apply bM;apply bO;apply bP;apply bE;apply aD;refine zk [4,5] ?_;refine zr ⟨[4,5,18,26],[],[],[],[]⟩ fun _ _ Z=>?_;simp (disch:=omega);and_intros<;>(try omega);apply Z;apply aH;simp [bB];rw [show k = n by omega]
 ·try simp at g1
  simp (disch:=omega)[ga4];and_intros<;>(try omega);apply Z;refine dR (t := false) (by simp) (fun h => by cases h) (fun _ => ?_);apply bM;apply bO;apply bP;apply bE;apply aD;refine zk [4,5] ?_;refine zr ⟨[4,5,18,26],[],[],[],[]⟩ fun _ _ Z=>?_;simp (disch:=omega);and_intros<;>(try omega);apply Z;apply aH;simp [bB];rw [Kn l k n (by omega) (by omega)]
theorem Ld (l : List PI) (n : Nat) (σ : List (List D)) (hl : l.length ≤ 9223372036854775807) (hn : n ≤ 1000000) : Ct Tryd.prog 35 [.sl false (l.map bQ), D.int n] σ (fun r σ' => r = .sl true ((oR l n).map bQ) ∧ σ' = σ) := by
 refine zf (rs:=[.tmp 4]) Tryd.func35 Tryd.ntmps35 Tryd.results35 ?_;simp only [aU];refine zr ⟨[4,5,18,33],[],[],[],[]⟩ fun _ _ Z=>?_;simp (disch:=omega);and_intros<;>(try omega);apply Z;refine zr ⟨[4,5,18,33],[],[],[],[]⟩ fun _ _ Z=>?_;simp (disch:=omega);and_intros<;>(try omega);apply Z;apply aE;refine zr ⟨[4,5,18,33],[],[],[],[]⟩ fun _ _ Z=>?_;simp (disch:=omega);and_intros<;>(try omega);apply Z;apply aN;refine zk [0,1,4,5,6] ?_;refine dA (fun (k : Nat) => [(6, .d (.int (k : Int))), (5, .d (.sl true ((oR l k).map bQ)))]) [5, 6, 7, 8, 9, 10, 11, 12, 13, 14, 15, 16, 17, 18, 19, 20, 21, 22, 23, 24, 25, 26, 27, 28, 29, 30, 31, 32] (fun (k : Nat) => k ≤ l.length ∧ k ≤ n) (fun (k : Nat) => l.length - k) (0) (by simp <;> rfl) ?_ ?_ ?_
 ·simp [Qr]
 ·simp
 rintro k ⟨hk, hn2⟩;simp only [List.cons_append, List.nil_append];have hfl := yD l k;apply aE;refine Cu ⟨[4,5,18,33],[],[],[],[]⟩ fun all hall _ Z=>?_;have ga4 : aY all 4 = some 11 := hall 4;refine aC 5 fun _ Y=>?_;simp (disch:=omega)[ga4];and_intros<;>(try omega);apply Y;simp only [List.drop];refine cC 11 (by simp <;> rfl) ?_;refine ⟨fun g1 => ?_, fun g1 => ?_⟩
 ·try simp at g1
  simp (disch:=omega)[ga4];and_intros<;>(try omega);apply Z;refine zi ?_;refine ⟨fun c2=>?_,fun c2=>?_⟩
  ·try simp at c2
   apply aJ;apply aD;apply aE;apply aN;refine zk [0,1,4,5,6] ?_;refine ze ⟨[4,5,18,33],[],[],[],[]⟩ [.op {},.op {},.op {},.op {},.op {},.op {},.pure,.op {},.op {},.op {},.op {},.op {},.op {},.op {},.op {},.op {}] fun all hall _ Z=>?_;refine bL 6 (by simp) fun _ Y=>?_;simp (disch:=omega);and_intros<;>(try omega);apply Y;simp only [List.drop];refine cZ fun _ Y=>?_;simp (disch:=omega);refine Gl (fun _ => (mA _ 20 _ (by omega))) ?_;apply Y;refine bL 8 (by simp) fun _ Y=>?_;simp (disch:=omega);and_intros<;>(try omega);apply Y;simp only [List.drop];simp (disch:=omega);and_intros<;>(try omega);apply Z;apply aX;apply aD;refine zk [0,1,4,5,6] ?_;refine zt ⟨[4,5,18,33],[],[],[],[]⟩ fun _ _ Z=>?_;simp (disch:=omega);and_intros<;>(try omega);apply Z;refine bW (k + 1) ?_ ?_ (bK rfl ?_ (by simp) (by simp))
   ·omega
   ·try dsimp only
    omega
   ·simp (disch:=omega)[Da]
  ·try simp at c2
   apply bM;apply bO;apply bP;apply bE;apply aD;refine zk [4,5] ?_;refine zr ⟨[4,5,18,33],[],[],[],[]⟩ fun _ _ Z=>?_;simp (disch:=omega);and_intros<;>(try omega);apply Z;apply aH;simp [bB];rw [show k = n by omega]
 ·try simp at g1
  simp (disch:=omega)[ga4];and_intros<;>(try omega);apply Z;refine dR (t := false) (by simp) (fun h => by cases h) (fun _ => ?_);apply bM;apply bO;apply bP;apply bE;apply aD;refine zk [4,5] ?_;refine zr ⟨[4,5,18,33],[],[],[],[]⟩ fun _ _ Z=>?_;simp (disch:=omega);and_intros<;>(try omega);apply Z;apply aH;simp [bB];rw [Gk l k n (by omega) (by omega)]
end Go.Proofs.YtighdhfgcdjmeaaDoor
namespace Go.Proofs.YtighdhfgcdjmeaaDoor
open Go Go.Vm
set_option maxRecDepth 20000
set_option linter.all false
set_option maxHeartbeats 8000000
def jP (f : FL) : VN := ⟨f.kind, iR 20 f.tag, iR 20 f.key, iR 70 f.text, nW f.classes 4, sB f.attrs 4, oR f.styles 4, f.opts, []⟩
abbrev FO (f : FL) : Prop := f.classes.length ≤ 9223372036854775807 ∧ f.attrs.length ≤ 9223372036854775807 ∧ f.styles.length ≤ 9223372036854775807
theorem Hg (f : FL) (σ : List (List D)) (h : FO f) : Ct Tryd.prog 18 [vJ f] σ (fun r σ' => r = wZ (jP f) ∧ ∃ J, σ' = σ ++ J) := by
 refine zf (rs:=[.cell 2 43]) Tryd.func18 Tryd.ntmps18 Tryd.results18 ?_;simp only [aU];have h5 := h.1;have h6 := h.2.1;have h7 := h.2.2;refine zr ⟨[37],[],[3],[],[]⟩ fun _ _ Z=>?_;simp (disch:=omega)[aL,aB,aG,aA];and_intros<;>(try omega);apply Z;refine zd ⟨[37],[],[3],[],[]⟩ [.op {},.op {rL:=true},.op {},.op {rL:=true},.pure,.op {},.op {rL:=true},.pure,.op {},.op {rL:=true},.pure,.op {},.op {rL:=true},.pure,.op {},.op {rL:=true},.pure,.op {},.op {rL:=true},.op {},.op {rO:=true,wO:=true},.op {rO:=true,wO:=true}] fun all hall _ Z=>?_;refine bL 4 (by simp) fun _ Y=>?_;simp (disch:=omega)[aL,aB,aG,aA];and_intros<;>(try omega);apply Y;simp only [List.drop];refine cZ fun _ Y=>?_;simp (disch:=omega)[aL,aB,aG,aA];refine Gl (fun _ => (mA f.tag 20 _ (by omega))) ?_;apply Y;refine bL 2 (by simp) fun _ Y=>?_;simp (disch:=omega)[aL,aB,aG,aA];and_intros<;>(try omega);apply Y;simp only [List.drop];refine cZ fun _ Y=>?_;simp (disch:=omega)[aL,aB,aG,aA];refine Gl (fun _ => (mA f.key 20 _ (by omega))) ?_;apply Y;refine bL 2 (by simp) fun _ Y=>?_;simp (disch:=omega)[aL,aB,aG,aA];and_intros<;>(try omega);apply Y;simp only [List.drop];refine cZ fun _ Y=>?_;simp (disch:=omega)[aL,aB,aG,aA];refine Gl (fun _ => (mA f.text 70 _ (by omega))) ?_;apply Y;refine bL 2 (by simp) fun _ Y=>?_;simp (disch:=omega)[aL,aB,aG,aA];and_intros<;>(try omega);apply Y;simp only [List.drop];refine cZ fun _ Y=>?_;simp (disch:=omega)[aL,aB,aG,aA];refine Gl (fun _ => (Pz f.classes 4 _ h5 (by omega))) ?_;apply Y;refine bL 2 (by simp) fun _ Y=>?_;simp (disch:=omega)[aL,aB,aG,aA];and_intros<;>(try omega);apply Y;simp only [List.drop];refine cZ fun _ Y=>?_;simp (disch:=omega)[aL,aB,aG,aA];refine Gl (fun _ => (Ld f.styles 4 _ h7 (by omega))) ?_;apply Y;simp (disch:=omega)[aL,aB,aG,aA];and_intros<;>(try omega);apply Z;apply aE;refine zk [1,2,3] ?_;refine zr ⟨[37],[],[3],[],[]⟩ fun _ _ Z=>?_;simp (disch:=omega)[aL,aB,aG,aA];and_intros<;>(try omega);apply Z;apply aN;refine zk [1,2,3,4] ?_;refine pC (fun (k : Nat) => [(4, .d (.v (.int .i64 (k : Int))))]) (fun (k : Nat) => []) (fun (k : Nat) => [(σ.length, [D.int f.kind, D.str (iR 20 f.tag), D.str (iR 20 f.key), D.str (iR 70 f.text), .sl false ((nW f.classes 4).map D.str), .sl true ((sB f.attrs k).map bZ), .sl false ((oR f.styles 4).map bQ), D.int f.opts.enter, D.int f.opts.leave, D.int f.opts.move, D.int f.opts.mode, D.bool f.opts.appear, D.bool f.opts.moves, .sl true []])]) [4, 25, 26, 27, 28, 29, 30, 31, 32, 33, 34, 35, 36, 37, 38, 39, 40, 41, 42, 43, 44, 45, 46, 47, 48, 49, 50, 51, 52, 53, 54, 55] (fun (k : Nat) => k ≤ f.attrs.length ∧ k ≤ 4) (fun (k : Nat) => f.attrs.length - k) (0) (by simp <;> rfl) ?_ (by simp) (by simp [aB, Pf]) ?_ ?_
 ·simp
 ·simp
 rintro k ⟨hk, hk4⟩;simp only [List.cons_append, List.nil_append, nH, kV, List.set_cons_zero, List.set_cons_succ];have hfl := yA f.attrs k;apply aE;refine Cu ⟨[37],[],[3],[],[]⟩ fun all hall _ Z=>?_;have ga5 : aY all 5 = some 30 := hall 5;refine aC 6 fun _ Y=>?_;simp (disch:=omega)[aL,aB,aG,aA,ga5];and_intros<;>(try omega);apply Y;simp only [List.drop];refine cC 30 (by simp <;> rfl) ?_;refine ⟨fun g1 => ?_, fun g1 => ?_⟩
 ·try simp at g1
  simp (disch:=omega)[aL,aB,aG,aA,ga5];and_intros<;>(try omega);apply Z;refine zi ?_;refine ⟨fun c2=>?_,fun c2=>?_⟩
  ·try simp at c2
   apply aJ;apply aD;apply aE;apply aN;refine zk [1,2,3,4] ?_;refine ze ⟨[37],[],[3],[],[]⟩ [.op {},.op {rO:=true,wO:=true},.op {},.op {rL:=true},.op {},.op {},.op {},.op {},.pure,.op {},.op {rL:=true},.op {},.op {},.op {},.op {},.pure,.op {},.op {},.op {},.op {},.op {rO:=true,wO:=true}] fun all hall _ Z=>?_;refine bL 8 (by simp) fun _ Y=>?_;simp (disch:=omega)[aL,aB,aG,aA];and_intros<;>(try omega);apply Y;simp only [List.drop];refine cZ fun _ Y=>?_;simp (disch:=omega)[aL,aB,aG,aA];refine Gl (fun _ => (mA f.attrs[k].name 20 _ (by omega))) ?_;apply Y;refine bL 6 (by simp) fun _ Y=>?_;simp (disch:=omega)[aL,aB,aG,aA];and_intros<;>(try omega);apply Y;simp only [List.drop];refine cZ fun _ Y=>?_;simp (disch:=omega)[aL,aB,aG,aA];refine Gl (fun _ => (mA f.attrs[k].value 40 _ (by omega))) ?_;apply Y;simp (disch:=omega)[aL,aB,aG,aA];and_intros<;>(try omega);apply Z;apply aX;apply aD;refine zk [1,2,3,4] ?_;refine zt ⟨[37],[],[3],[],[]⟩ fun _ _ Z=>?_;simp (disch:=omega)[aL,aB,aG,aA];and_intros<;>(try omega);apply Z;refine bW (k + 1) ?_ ?_ (bK rfl ?_ (by simp) (by simp [El, aB, *]))
   ·omega
   ·try dsimp only
    omega
   ·simp (disch:=omega)[aL,aB,aG,aA]
  ·try simp at c2
   apply bM;apply bO;apply bP;apply bE;apply aD;refine zk [2,3] ?_;refine zr ⟨[37],[],[3],[],[]⟩ fun _ _ Z=>?_;simp (disch:=omega)[aL,aB,aG,aA];and_intros<;>(try omega);apply Z;apply aH;simp [bB, jP];rw [show k = 4 by omega]
 ·try simp at g1
  simp (disch:=omega)[aL,aB,aG,aA,ga5];and_intros<;>(try omega);apply Z;refine dR (t := false) (by simp) (fun h => by cases h) (fun _ => ?_);apply bM;apply bO;apply bP;apply bE;apply aD;refine zk [2,3] ?_;refine zr ⟨[37],[],[3],[],[]⟩ fun _ _ Z=>?_;simp (disch:=omega)[aL,aB,aG,aA];and_intros<;>(try omega);apply Z;apply aH;simp [bB, jP];rw [Kf f.attrs k 4 (by omega) (by omega)]
end Go.Proofs.YtighdhfgcdjmeaaDoor
namespace Go.Proofs.YtighdhfgcdjmeaaDoor
open Go Go.Vm
set_option maxRecDepth 20000
set_option linter.all false
set_option maxHeartbeats 8000000
theorem Gj (N : Nat) (x : ByteArray) : Sc N (D.str x) := Sc.v _
theorem Jk (N : Nat) (x : AT) : Sc N (bZ x) := Sc.agg fun d hd => by
 simp at hd; rcases hd with rfl | rfl <;> exact Sc.v _
theorem Gv (N : Nat) (x : PI) : Sc N (bQ x) := Sc.agg fun d hd => by
 simp at hd; rcases hd with rfl | rfl <;> exact Sc.v _
theorem Mu (N : Nat) (f : FL) : Sc N (wZ (jP f)) := Sc.agg fun d hd => by
 simp only [List.mem_cons, List.not_mem_nil, or_false] at hd;rcases hd with rfl | rfl | rfl | rfl | rfl | rfl | rfl | rfl | rfl | rfl | rfl | rfl | rfl | rfl <;> first
  | exact Sc.v _
  | exact Sc.sl (Sc.map fun a => Gj _ a)
  | exact Sc.sl (Sc.map fun a => Jk _ a)
  | exact Sc.sl (Sc.map fun a => Gv _ a)
  | exact Sc.sl fun d hd => by cases hd
theorem vT (f : FL) (σ : List (List D)) (h : FO f) : Ct Tryd.prog 18 [vJ f] σ (fun r σ' => r = wZ (jP f) ∧ σ' = σ) :=
 (Hg f σ h).trim fun r σ' ⟨hr, J, hs⟩ => ⟨σ, J, hs, rfl, by rw [hr]; exact Mu _ _, fun n cs h => .inl h, hr, rfl⟩
def gP (v : VN) : Nat := 1 + (v.kids.attach.map fun k => gP k.1).sum
termination_by SizeOf.sizeOf v
decreasing_by
 have h := List.sizeOf_lt_of_mem k.2;cases v; simp at h ⊢; omega
theorem nG (v : VN) : gP v = 1 + (v.kids.map gP).sum := by rw [gP]; simp
abbrev VF (v : VN) : Prop := v.classes.length ≤ 4 ∧ v.attrs.length ≤ 4 ∧ v.styles.length ≤ 4 ∧ v.text.size ≤ 70
inductive VG : VN → Prop
 | mk (v : VN) (h : VF v) (hk : ∀ k ∈ v.kids, VG k) : VG v
theorem wT (f : FL) (vs : List VN) : VF { jP f with kids := vs } := ⟨yG _ _, yA _ _, yD _ _, Jy _ _⟩
abbrev Nu (l : List FL) (i : Nat) (d : Int) : Prop := ∀ σ : List (List D), Ct Tryd.prog 19 [.sl false (l.map vJ), D.int i, D.int d] σ (fun r σ' => (∃ (vs : List VN) (j : Nat), r = .tup [.sl false (vs.map xS), D.int j] ∧ i ≤ j ∧ j ≤ l.length ∧ (∀ v ∈ vs, VG v) ∧ (vs.map gP).sum = j - i) ∧ σ' = σ)
theorem xT (l : List FL) (i : Nat) (d : Int) (σ : List (List D)) (hl : l.length ≤ 25) (hf : ∀ f ∈ l, FO f) (hi : i ≤ l.length) (ih : ∀ (i2 : Nat) (d2 : Int), i < i2 → i2 ≤ l.length → Nu l i2 d2) : Ct Tryd.prog 19 [.sl false (l.map vJ), D.int i, D.int d] σ (fun r σ' => (∃ (vs : List VN) (j : Nat), r = .tup [.sl false (vs.map xS), D.int j] ∧ i ≤ j ∧ j ≤ l.length ∧ (∀ v ∈ vs, VG v) ∧ (vs.map gP).sum = j - i) ∧ σ' = σ) := by
 refine zf (rs:=[.tmp 6,.tmp 7]) Tryd.func19 Tryd.ntmps19 Tryd.results19 ?_;simp only [aU];refine zr ⟨[8,41],[],[],[],[]⟩ fun _ _ Z=>?_;simp (disch:=omega);and_intros<;>(try omega);apply Z;refine zr ⟨[8,41],[],[],[],[]⟩ fun _ _ Z=>?_;simp (disch:=omega);and_intros<;>(try omega);apply Z;apply aE;apply aN;refine zk [0,1,2,6,7,8] ?_;refine dA (fun (p : List VN × Nat) => [(8, .d (.sl true (p.1.map xS))), (1, .d (.v (.int .i64 (p.2 : Int)))), (9, .d (.any))]) [1, 8, 9, 10, 11, 12, 13, 14, 15, 16, 17, 18, 19, 20, 21, 22, 23, 24, 25, 26, 27, 28, 29, 30, 31, 32, 33, 34, 35, 36, 37, 38, 39, 40, 41, 42, 43, 44] (fun (p : List VN × Nat) => i ≤ p.2 ∧ p.2 ≤ l.length ∧ (∀ v ∈ p.1, VG v) ∧ (p.1.map gP).sum = p.2 - i ∧ p.1.length ≤ p.2 - i) (fun (p : List VN × Nat) => l.length - p.2) (([], i)) (by simp <;> rfl) ?_ ?_ ?_
 ·simp
 ·simp; omega
 rintro ⟨vs, k⟩ ⟨h1, h2, h3, h4, h5⟩;simp only [List.cons_append, List.nil_append];dsimp only at h1 h2 h3 h4 h5;apply aE;refine zk [0,1,2,6,7,8,9] ?_;refine Cu ⟨[8,41],[],[],[],[]⟩ fun all hall _ Z=>?_;have ga4 : aY all 4 = some 14 := hall 4;refine aC 5 fun _ Y=>?_;simp (disch:=omega)[ga4];and_intros<;>(try omega);apply Y;simp only [List.drop];refine cC 14 (by simp <;> rfl) ?_;refine ⟨fun g1 => ?_, fun g1 => ?_⟩
 ·try simp at g1
  simp (disch:=omega)[ga4];and_intros<;>(try omega);apply Z;refine zi ?_;refine ⟨fun c2=>?_,fun c2=>?_⟩
  ·try simp at c2
   apply aJ;apply aD;apply aN;refine zk [0,1,2,6,7,8,9] ?_;refine zr ⟨[8,41],[],[],[],[]⟩ fun _ _ Z=>?_;refine aC 4 fun _ Y=>?_;simp (disch:=omega);and_intros<;>(try omega);apply Y;simp only [List.drop];refine aI fun _ Y=>?_;simp (disch:=omega);refine eV (vT l[k] _ (hf _ (List.getElem_mem _))) ?_;apply Y;simp (disch:=omega);and_intros<;>(try omega);apply Z;refine zk [0,1,2,6,7,8,9] ?_;refine zr ⟨[8,41],[],[],[],[]⟩ fun _ _ Z=>?_;refine aC 8 fun _ Y=>?_;simp (disch:=omega);and_intros<;>(try omega);apply Y;simp only [List.drop];refine aI fun _ Y=>?_;simp (disch:=omega);refine Qw (ih (k + 1) l[k].deep (by omega) (by omega) _) ?_;rintro _ τ1 ⟨⟨ws, j, hr, hj1, hj2, hg, hs⟩, hτ⟩;subst hr hτ;apply Y;simp (disch:=omega);and_intros<;>(try omega);apply Z;refine zk [0,1,2,6,7,8,9] ?_;refine zt ⟨[8,41],[],[],[],[]⟩ fun _ _ Z=>?_;simp (disch:=omega);and_intros<;>(try omega);apply Z;apply aX;refine bW ((vs ++ [{ jP l[k] with kids := ws }], j)) ?_ ?_ (bK rfl ?_ (by simp) (by simp))
   ·refine ⟨by omega, hj2, fun v hv => ?_, ?_, ?_⟩
    ·rcases List.mem_append.1 hv with hv | hv
     ·exact h3 v hv
     ·rw [List.mem_singleton.1 hv]; exact .mk _ (wT _ _) hg
    ·simp only [List.map_append, List.sum_append, List.map_cons, List.map_nil, List.sum_cons, List.sum_nil, nG { jP l[k] with kids := ws }]; omega
    ·simp; omega
   ·try dsimp only
    omega
   ·simp (disch:=omega)
  ·try simp at c2
   apply bM;apply bO;apply bP;apply bE;apply aD;refine zk [1,6,7,8] ?_;refine zr ⟨[8,41],[],[],[],[]⟩ fun _ _ Z=>?_;simp (disch:=omega);and_intros<;>(try omega);apply Z;apply aH;simp [bB];exact ⟨vs, k, ⟨rfl, rfl⟩, h1, h2, h3, h4⟩
 ·try simp at g1
  simp (disch:=omega)[ga4];and_intros<;>(try omega);apply Z;refine dR (t := false) (by simp) (fun h => by cases h) (fun _ => ?_);apply bM;apply bO;apply bP;apply bE;apply aD;refine zk [1,6,7,8] ?_;refine zr ⟨[8,41],[],[],[],[]⟩ fun _ _ Z=>?_;simp (disch:=omega);and_intros<;>(try omega);apply Z;apply aH;simp [bB];exact ⟨vs, k, ⟨rfl, rfl⟩, h1, h2, h3, h4⟩
end Go.Proofs.YtighdhfgcdjmeaaDoor
namespace Go.Proofs.YtighdhfgcdjmeaaDoor
open Go Go.Vm
set_option maxRecDepth 20000
set_option linter.all false
set_option maxHeartbeats 8000000
theorem vB (l : List FL) (hl : l.length ≤ 25) (hf : ∀ f ∈ l, FO f) : ∀ (n i : Nat) (d : Int), l.length - i ≤ n → i ≤ l.length → Nu l i d
 | 0, i, d, hn, hi => fun σ => xT l i d σ hl hf hi fun i2 d2 h1 h2 => absurd h2 (by omega)
 | n + 1, i, d, hn, hi => fun σ => xT l i d σ hl hf hi fun i2 d2 h1 h2 => vB l hl hf n i2 d2 (by omega) h2
def oM : VN := ⟨2, ⟨#[112]⟩, ⟨#[]⟩, ⟨#[]⟩, [], [], [], ⟨0, 0, 0, 0, false, false⟩, []⟩
theorem Gg : VG oM := .mk _ ⟨by decide, by decide, by decide, by decide +kernel⟩ fun k hk => by cases hk
theorem Kg : gP oM ≤ 25 := by rw [nG]; decide
theorem Oa (f : FL) (ws : List VN) (j : Nat) (hg : ∀ v ∈ ws, VG v) (hs : (ws.map gP).sum = j - 1) (hj : j ≤ 25) (h1 : 1 ≤ j) : VG { jP f with kids := ws } ∧ gP { jP f with kids := ws } ≤ 25 := by
 refine ⟨.mk _ (wT _ _) hg, ?_⟩;rw [nG]; simp only []; omega
theorem Kj (l : List FL) (n : Nat) (σ : List (List D)) (hn : n ≤ 25) (hl : l.length ≤ 9223372036854775807) (hf : ∀ f ∈ l, FO f) : Ct Tryd.prog 10 [.sl false (l.map vJ), D.int n] σ (fun r σ' => (r.plain = true ∧ ∃ v : VN, r.strip = wZ v ∧ VG v ∧ gP v ≤ 25) ∧ σ' = σ) := by
 refine zf (rs:=[.cell 4 43]) Tryd.func10 Tryd.ntmps10 Tryd.results10 ?_;simp only [aU];refine cH fun _ _ Z=>?_;simp (disch:=omega);and_intros<;>(try omega);apply Z;apply aE;refine cH fun _ _ Z=>?_;simp (disch:=omega);and_intros<;>(try omega);apply Z;refine zi ?_;refine ⟨fun c1=>?_,fun c1=>?_⟩
 ·try simp at c1
  refine Nc fun _ _ Z=>?_;simp (disch:=omega);and_intros<;>(try omega);apply Z;apply aD;apply aE;rw [← List.map_take];obtain ⟨L, hL⟩ : ∃ L, L = l.take n := ⟨_, rfl⟩;rw [← hL];have hLl : L.length ≤ 25 := by rw [hL, List.length_take]; omega
  have hLf : ∀ f ∈ L, FO f := by rw [hL]; exact fun f hf2 => hf f (List.mem_of_mem_take hf2)
  refine cH fun _ _ Z=>?_;simp (disch:=omega);and_intros<;>(try omega);apply Z;refine zi ?_;refine ⟨fun c2=>?_,fun c2=>?_⟩
  ·try simp at c2
   refine zk [0,4] ?_;refine cH fun _ _ Z=>?_;simp (disch:=omega);and_intros<;>(try omega);apply Z;apply aH;apply bJ;simp [bB];exact ⟨oM, by simp [oM], Gg, Kg⟩
  ·try simp at c2
   apply aJ;apply aD;have hL0 : 0 < L.length := by
    rcases L with _ | ⟨a, b⟩
    ·first | (simp at c2; done) | (simp at c3; done)
    ·simp
   refine zk [0,4] ?_;refine cH fun _ _ Z=>?_;refine aC 3 fun _ Y=>?_;simp (disch:=omega);and_intros<;>(try omega);apply Y;simp only [List.drop];refine aI fun _ Y=>?_;simp (disch:=omega);refine eV (vT L[0] _ (hLf _ (List.getElem_mem _))) ?_;apply Y;simp (disch:=omega);and_intros<;>(try omega);apply Z;refine cH fun _ _ Z=>?_;refine aC 5 fun _ Y=>?_;simp (disch:=omega);and_intros<;>(try omega);apply Y;simp only [List.drop];refine aI fun _ Y=>?_;simp (disch:=omega);refine Qw (vB L hLl hLf 25 1 L[0].deep (by omega) (by omega) _) ?_;rintro _ τ1 ⟨⟨ws, j, hr, hj1, hj2, hg, hs⟩, hτ⟩;subst hr hτ;apply Y;simp (disch:=omega);and_intros<;>(try omega);apply Z;refine zk [4,5] ?_;refine cH fun _ _ Z=>?_;simp (disch:=omega);and_intros<;>(try omega);apply Z;apply aH;simp [bB];exact ⟨{ jP L[0] with kids := ws }, by simp, Oa _ ws j hg hs (by omega) (by omega)⟩
 ·try simp at c1
  apply aJ;apply aD;apply aE;obtain ⟨L, hL⟩ : ∃ L, L = l := ⟨_, rfl⟩;have hLl : L.length ≤ 25 := by rw [hL]; omega
  have hLf : ∀ f ∈ L, FO f := by rw [hL]; exact hf
  rw [← hL];refine cH fun _ _ Z=>?_;simp (disch:=omega);and_intros<;>(try omega);apply Z;refine zi ?_;refine ⟨fun c3=>?_,fun c3=>?_⟩
  ·try simp at c3
   refine cH fun _ _ Z=>?_;simp (disch:=omega);and_intros<;>(try omega);apply Z;apply aH;apply bJ;simp [bB];exact ⟨oM, by simp [oM], Gg, Kg⟩
  ·try simp at c3
   apply aJ;apply aD;have hL0 : 0 < L.length := by
    rcases L with _ | ⟨a, b⟩
    ·first | (simp at c2; done) | (simp at c3; done)
    ·simp
   refine cH fun _ _ Z=>?_;refine aC 3 fun _ Y=>?_;simp (disch:=omega);and_intros<;>(try omega);apply Y;simp only [List.drop];refine aI fun _ Y=>?_;simp (disch:=omega);refine eV (vT L[0] _ (hLf _ (List.getElem_mem _))) ?_;apply Y;simp (disch:=omega);and_intros<;>(try omega);apply Z;refine zk [0,4,5] ?_;refine cH fun _ _ Z=>?_;refine aC 5 fun _ Y=>?_;simp (disch:=omega);and_intros<;>(try omega);apply Y;simp only [List.drop];refine aI fun _ Y=>?_;simp (disch:=omega);refine Qw (vB L hLl hLf 25 1 L[0].deep (by omega) (by omega) _) ?_;rintro _ τ1 ⟨⟨ws, j, hr, hj1, hj2, hg, hs⟩, hτ⟩;subst hr hτ;apply Y;simp (disch:=omega);and_intros<;>(try omega);apply Z;refine zk [4,5] ?_;refine cH fun _ _ Z=>?_;simp (disch:=omega);and_intros<;>(try omega);apply Z;apply aH;simp [bB];exact ⟨{ jP L[0] with kids := ws }, by simp, Oa _ ws j hg hs (by omega) (by omega)⟩
end Go.Proofs.YtighdhfgcdjmeaaDoor
namespace Go.Proofs.YtighdhfgcdjmeaaDoor
open Go Go.Vm
set_option maxRecDepth 20000
set_option linter.all false
set_option maxHeartbeats 8000000
theorem Mf (l : List FL) (n : Nat) (σ : List (List D)) (hn : n ≤ 25) (hl : l.length ≤ 9223372036854775807) (hf : ∀ f ∈ l, FO f) : Ct Tryd.prog 10 [.sl false (l.map vJ), D.int n] σ (fun r σ' => (∃ v : VN, r = wZ v ∧ VG v ∧ gP v ≤ 25) ∧ σ' = σ) :=
 (Kj l n σ hn hl hf).strip fun r σ' h => ⟨h.1.1, h.1.2, h.2⟩
def Ou (l : List PI) (k : Nat) : List PI := l.take k
theorem Rf (l : List PI) : Ou l 0 = [] := rfl
theorem Ic (l : List PI) (k : Nat) (h : k < l.length) : Ou l (k + 1) = Ou l k ++ [l[k]] := dQ l k h
theorem Mm (l : List PI) : Ou l l.length = l := List.take_length
theorem Lg (l : List PI) (k : Nat) : (Ou l k).length ≤ k := by unfold Ou; rw [List.length_take]; omega
theorem Me (l : List PI) (σ : List (List D)) (hl : l.length ≤ 999999) : Ct Tryd.prog 12 [.sl false (l.map bQ)] σ (fun r σ' => r = .sl false ((ofL nP l).map bQ) ∧ σ' = σ) := (zX l σ hl).freeze fun r σ' h => h
theorem Ns (N : Nat) (t : TN) : Sc N (oO t) := Sc.agg fun d hd => by
 simp only [List.mem_cons, List.not_mem_nil, or_false] at hd;rcases hd with rfl | rfl | rfl | rfl | rfl | rfl | rfl | rfl
 ·exact Sc.v _
 ·exact Sc.v _
 ·exact Sc.v _
 ·exact Sc.v _
 ·exact Sc.sl (Sc.map fun a => Gj _ a)
 ·exact Sc.sl (Sc.map fun a => Jk _ a)
 ·exact Sc.sl (Sc.map fun a => Gv _ a)
 ·refine Sc.sl fun d hd => ?_;obtain ⟨k, hk, e⟩ := List.mem_map.1 hd;rw [← e, Lp];exact Ns N k
termination_by SizeOf.sizeOf t
decreasing_by
 have h := List.sizeOf_lt_of_mem hk;cases t; simp at h ⊢; omega
def lH (t : TN) : Nat := 1 + (t.kids.attach.map fun k => lH k.1).sum
termination_by SizeOf.sizeOf t
decreasing_by
 have h := List.sizeOf_lt_of_mem k.2;cases t; simp at h ⊢; omega
theorem lD (t : TN) : lH t = 1 + (t.kids.map lH).sum := by rw [lH]; simp
abbrev TF (t : TN) : Prop := (t.styles.length ≤ 4 ∧ Sorted nP t.styles) ∧ (t.attrs.length ≤ 4 ∧ Sorted nA t.attrs) ∧ t.text.size ≤ 70 ∧ t.classes.length ≤ 4
inductive TG : TN → Prop
 | mk (t : TN) (h : TF t) (hk : ∀ k ∈ t.kids, TG k) : TG t
def mD (v : VN) (k : Nat) : Nat := ((v.kids.take k).map gP).sum
theorem Gt (v : VN) : mD v 0 = 0 := rfl
theorem iG (v : VN) (k : Nat) (h : k < v.kids.length) : mD v (k + 1) = mD v k + gP v.kids[k] := by
 unfold mD; rw [dQ _ _ h, List.map_append, List.sum_append]; simp
theorem wQ (v : VN) : mD v v.kids.length + 1 = gP v := by unfold mD; rw [List.take_length, nG]; omega
theorem Ch (v : VN) (k : Nat) : ∀ d, mD v k ≤ mD v (k + d)
 | 0 => Nat.le_refl _
 | d + 1 => by
  refine Nat.le_trans (Ch v k d) ?_;by_cases h : k + d < v.kids.length
  ·have := iG v (k + d) h;show _ ≤ mD v (k + d + 1)
   omega
  ·unfold mD; rw [List.take_of_length_le (by omega), List.take_of_length_le (by omega)]; exact Nat.le_refl _
theorem Na (v : VN) (k : Nat) (h : k < v.kids.length) : mD v k + gP v.kids[k] + 1 ≤ gP v := by
 have h1 := iG v k h;have h2 := Ch v (k + 1) (v.kids.length - (k + 1));rw [show k + 1 + (v.kids.length - (k + 1)) = v.kids.length by omega] at h2;have h3 := wQ v;omega
theorem Jr (v : VN) : ∀ k, k ≤ v.kids.length → k ≤ mD v k
 | 0, _ => Nat.zero_le _
 | k + 1, h => by
  have h1 := iG v k (by omega);have h2 := Jr v k (by omega);have h3 := nG v.kids[k];omega
abbrev Nx (v : VN) : Prop := ∀ (i : Nat) (σ : List (List D)), i + gP v ≤ 1000000 → Ct Tryd.prog 9 [wZ v, D.int i] σ (fun r σ' => (∃ t : TN, r = .tup [oO t, D.int ((i + gP v : Nat) : Int)] ∧ TG t ∧ lH t = gP v) ∧ σ' = σ)
theorem Dh (l : List PI) (σ : List (List D)) (hl : l.length ≤ 999999) : Ct Tryd.prog 16 [.sl false (l.map bQ)] σ (fun r σ' => r = .sl true (l.map bQ) ∧ σ' = σ) := by
 refine zf (rs:=[.tmp 2]) Tryd.func16 Tryd.ntmps16 Tryd.results16 ?_;simp only [aU];refine zr ⟨[2,3,12,17],[],[],[],[]⟩ fun _ _ Z=>?_;simp (disch:=omega);and_intros<;>(try omega);apply Z;refine zr ⟨[2,3,12,17],[],[],[],[]⟩ fun _ _ Z=>?_;simp (disch:=omega);and_intros<;>(try omega);apply Z;apply aE;refine zr ⟨[2,3,12,17],[],[],[],[]⟩ fun _ _ Z=>?_;simp (disch:=omega);and_intros<;>(try omega);apply Z;apply aN;refine zk [2,3,6,7,8] ?_;refine dA (fun (k : Nat) => [(8, .d (.v (.int .i64 (k : Int)))), (3, .d (.sl true ((Ou l k).map bQ))), (5, .d (.any))]) [3, 5, 8, 9, 10, 11, 12, 13, 14, 15, 16] (fun (k : Nat) => k ≤ l.length) (fun (k : Nat) => l.length - k) (0) (by simp <;> rfl) ?_ ?_ ?_
 ·simp [Rf]
 ·simp
 rintro k hk;simp only [List.cons_append, List.nil_append];have htl := Lg l k;refine zr ⟨[2,3,12,17],[],[],[],[]⟩ fun _ _ Z=>?_;simp (disch:=omega);and_intros<;>(try omega);apply Z;apply aE;refine zi ?_;refine ⟨fun c1=>?_,fun c1=>?_⟩
 ·try simp at c1
  apply aJ;apply aD;apply aE;apply aN;refine zr ⟨[2,3,12,17],[],[],[],[]⟩ fun _ _ Z=>?_;simp (disch:=omega);and_intros<;>(try omega);apply Z;refine zt ⟨[2,3,12,17],[],[],[],[]⟩ fun _ _ Z=>?_;simp (disch:=omega);and_intros<;>(try omega);apply Z;apply aX;apply aD;refine zk [2,3,5,6,7,8] ?_;refine zt ⟨[2,3,12,17],[],[],[],[]⟩ fun _ _ Z=>?_;simp (disch:=omega);and_intros<;>(try omega);apply Z;refine bW (k + 1) ?_ ?_ (bK rfl ?_ (by simp) (by simp))
  ·omega
  ·try dsimp only
   omega
  ·simp (disch:=omega)[Ic]
 ·try simp at c1
  obtain rfl : k = l.length := by omega
  rw [Mm];apply bM;apply bO;apply bP;apply bE;apply aD;refine zr ⟨[2,3,12,17],[],[],[],[]⟩ fun _ _ Z=>?_;simp (disch:=omega);and_intros<;>(try omega);apply Z;apply aH;simp [bB]
end Go.Proofs.YtighdhfgcdjmeaaDoor
namespace Go.Proofs.YtighdhfgcdjmeaaDoor
open Go Go.Vm
set_option maxRecDepth 20000
set_option linter.all false
set_option maxHeartbeats 8000000
theorem Jm (v : VN) (i : Nat) (σ : List (List D)) (hv : VF v) (hi : i + gP v ≤ 1000000) (ih : ∀ k ∈ v.kids, VG k ∧ Nx k) : Ct Tryd.prog 9 [wZ v, D.int i] σ (fun r σ' => (∃ t : TN, r = .tup [oO t, D.int ((i + gP v : Nat) : Int)] ∧ TG t ∧ lH t = gP v) ∧ ∃ J, σ' = σ ++ J) := by
 refine zf (rs:=[.cell 4 34,.tmp 5]) Tryd.func9 Tryd.ntmps9 Tryd.results9 ?_;simp only [aU];have hce := wQ v;have hck := Jr v v.kids.length (Nat.le_refl _);have hv1 := hv.1;have hv2 := hv.2.1;have hv3 := hv.2.2.1;refine zr ⟨[62],[],[6],[],[]⟩ fun _ _ Z=>?_;simp (disch:=omega)[aB,aA];and_intros<;>(try omega);apply Z;refine zd ⟨[62],[],[6],[],[]⟩ [.op {},.op {},.op {rL:=true},.op {},.op {},.op {rL:=true},.op {},.op {rL:=true},.op {},.op {},.op {rL:=true},.op {},.op {},.op {rL:=true},.pure,.pure,.op {},.op {rO:=true,wO:=true},.op {rO:=true,wO:=true}] fun all hall _ Z=>?_;refine bL 8 (by simp) fun _ Y=>?_;simp (disch:=omega)[aB,aA];and_intros<;>(try omega);apply Y;simp only [List.drop];refine bL 6 (by simp) fun _ Y=>?_;simp (disch:=omega)[aB,aA];and_intros<;>(try omega);apply Y;simp only [List.drop];refine cZ fun _ Y=>?_;simp (disch:=omega)[aB,aA];refine Gl (fun _ => (Dh v.styles _ (by omega))) ?_;apply Y;refine cZ fun _ Y=>?_;simp (disch:=omega)[aB,aA];refine Gl (fun _ => (Me v.styles _ (by omega))) ?_;apply Y;simp (disch:=omega)[aB,aA];and_intros<;>(try omega);apply Z;apply aE;refine Fv σ.length ([D.int i, D.int (min v.kind 2), D.str v.tag, D.str v.text, .sl false (v.classes.map D.str), .sl false (([]).map bZ), .sl false ((ofL nP v.styles).map bQ), .sl true ([])]) (by simp [aB]; rfl) (by simp [Rz, D.s1]) ?_;simp only [aA, List.set_cons_zero];refine zk [1,2,4,5,6] ?_;refine zr ⟨[62],[],[6],[],[]⟩ fun _ _ Z=>?_;simp (disch:=omega)[aB,aA];and_intros<;>(try omega);apply Z;apply aN;refine zk [1,2,4,5,6,31,32,33] ?_;refine pC (fun (k : Nat) => [(33, .d (.v (.int .i64 (k : Int)))), (8, .d (.any))]) (fun (k : Nat) => []) (fun (k : Nat) => [(σ.length, [D.int i, D.int (min v.kind 2), D.str v.tag, D.str v.text, .sl false (v.classes.map D.str), .sl false ((ofL nA (v.attrs.take k)).map bZ), .sl false ((ofL nP v.styles).map bQ), .sl true ([])])]) [8, 33, 34, 35, 36, 37, 38, 39, 40, 41, 42, 43, 44, 45] (fun (k : Nat) => k ≤ v.attrs.length) (fun (k : Nat) => v.attrs.length - k) (0) (by simp <;> rfl) ?_ (by simp) (by simp [aB, ofL]) ?_ ?_
 ·simp
 ·simp
 rintro k hk;simp only [List.cons_append, List.nil_append, nH, kV, List.set_cons_zero, List.set_cons_succ];have hol := ofL_len nA (v.attrs.take k);simp only [List.length_take] at hol;refine zr ⟨[62],[],[6],[],[]⟩ fun _ _ Z=>?_;simp (disch:=omega)[aB,aA];and_intros<;>(try omega);apply Z;apply aE;refine zi ?_;refine ⟨fun c1=>?_,fun c1=>?_⟩
 ·try simp at c1
  apply aJ;apply aD;apply aE;apply aN;refine zr ⟨[62],[],[6],[],[]⟩ fun _ _ Z=>?_;simp (disch:=omega)[aB,aA];and_intros<;>(try omega);apply Z;refine zk [1,2,4,5,6,8,31,32,33] ?_;refine zt ⟨[62],[],[6],[],[]⟩ fun _ _ Z=>?_;refine aC 6 fun _ Y=>?_;simp (disch:=omega)[aB,aA];and_intros<;>(try omega);apply Y;simp only [List.drop];refine aI fun _ Y=>?_;simp (disch:=omega)[aB,aA];refine eV (Mt (ofL nA (v.attrs.take k)) v.attrs[k].name v.attrs[k].value _ (by omega) (ofL_sorted nA _)) ?_;apply Y;simp (disch:=omega)[aB,aA];and_intros<;>(try omega);apply Z;apply aX;apply aD;refine zk [1,2,4,5,6,8,31,32,33] ?_;refine zt ⟨[62],[],[6],[],[]⟩ fun _ _ Z=>?_;simp (disch:=omega)[aB,aA];and_intros<;>(try omega);apply Z;refine bW (k + 1) ?_ ?_ (bK rfl ?_ (by simp) (by simp [ofL_take, *]))
  ·omega
  ·try dsimp only
   omega
  ·simp (disch:=omega)[aB,aA]
 ·try simp at c1
  obtain rfl : k = v.attrs.length := by omega
  rw [List.take_length];apply bM;apply bO;apply bP;apply bE;apply aD;refine zr ⟨[62],[],[6],[],[]⟩ fun _ _ Z=>?_;simp (disch:=omega)[aB,aA];and_intros<;>(try omega);apply Z;apply aE;refine zk [1,2,4,5,6] ?_;refine zr ⟨[62],[],[6],[],[]⟩ fun _ _ Z=>?_;simp (disch:=omega)[aB,aA];and_intros<;>(try omega);apply Z;apply aN;refine zk [1,4,5,6,49,50,51] ?_;refine pC (fun (p : List TN × Nat) => [(51, .d (.v (.int .i64 (p.2 : Int)))), (1, .d (.v (.int .i64 ((i + 1 + mD v p.2) : Int)))), (10, .d (.any)), (11, .d (.any)), (12, .d (.any))]) (fun (p : List TN × Nat) => []) (fun (p : List TN × Nat) => [(σ.length, [D.int i, D.int (min v.kind 2), D.str v.tag, D.str v.text, .sl false (v.classes.map D.str), .sl false ((ofL nA v.attrs).map bZ), .sl false ((ofL nP v.styles).map bQ), .sl true (p.1.map yN)])]) [1, 10, 11, 12, 51, 52, 53, 54, 55, 56, 57, 58, 59, 60, 61, 62, 63, 64, 65, 66, 67, 68] (fun (p : List TN × Nat) => p.2 ≤ v.kids.length ∧ (∀ t ∈ p.1, TG t) ∧ (p.1.map lH).sum = mD v p.2 ∧ p.1.length ≤ p.2) (fun (p : List TN × Nat) => v.kids.length - p.2) (([], 0)) (by simp <;> rfl) ?_ (by simp) (by simp [aB]) ?_ ?_
  ·simp [Gt]
  ·simp [Gt]
  rintro ⟨ts, j⟩ ⟨h1, h2, h3, h4⟩;simp only [List.cons_append, List.nil_append, nH, kV, List.set_cons_zero, List.set_cons_succ];dsimp only at h1 h2 h3 h4;have hlt := Na v j;refine zr ⟨[62],[],[6],[],[]⟩ fun _ _ Z=>?_;simp (disch:=omega)[aB,aA];and_intros<;>(try omega);apply Z;apply aE;refine zi ?_;refine ⟨fun c2=>?_,fun c2=>?_⟩
  ·try simp at c2
   apply aJ;apply aD;apply aE;apply aN;refine zr ⟨[62],[],[6],[],[]⟩ fun _ _ Z=>?_;simp (disch:=omega)[aB,aA];and_intros<;>(try omega);apply Z;refine zk [1,4,5,6,10,11,12,49,50,51] ?_;refine zr ⟨[62],[],[6],[],[]⟩ fun _ _ Z=>?_;refine aC 2 fun _ Y=>?_;simp (disch:=omega)[aB,aA];and_intros<;>(try omega);apply Y;simp only [List.drop];refine aI fun _ Y=>?_;simp (disch:=omega)[aB,aA];refine Qw ((ih v.kids[j] (List.getElem_mem _)).2 (i + 1 + mD v j) _ (by have := hlt (by assumption); omega)) ?_;rintro _ τ1 ⟨⟨u, hr, hu, hcu⟩, hτ⟩;subst hr hτ;apply Y;simp (disch:=omega)[aB,aA];and_intros<;>(try omega);apply Z;refine zk [1,4,5,6,10,11,12,49,50,51] ?_;refine zr ⟨[62],[],[6],[],[]⟩ fun _ _ Z=>?_;simp (disch:=omega)[aB,aA];and_intros<;>(try omega);apply Z;refine zk [1,4,5,6,10,11,12,49,50,51] ?_;refine zt ⟨[62],[],[6],[],[]⟩ fun _ _ Z=>?_;simp (disch:=omega)[aB,aA];and_intros<;>(try omega);apply Z;apply aX;apply aD;refine zk [1,4,5,6,10,11,12,49,50,51] ?_;refine zt ⟨[62],[],[6],[],[]⟩ fun _ _ Z=>?_;simp (disch:=omega)[aB,aA];and_intros<;>(try omega);apply Z;refine bW ((ts ++ [u], j + 1)) ?_ ?_ (bK rfl ?_ (by simp) (by simp))
   ·refine ⟨by omega, fun t ht => ?_, ?_, ?_⟩
    ·rcases List.mem_append.1 ht with ht | ht
     ·exact h2 t ht
     ·rw [List.mem_singleton.1 ht]; exact hu
    ·simp only [List.map_append, List.sum_append, List.map_cons, List.map_nil, List.sum_cons, List.sum_nil, iG v j (by assumption)]; omega
    ·simp; omega
   ·try dsimp only
    omega
   ·simp (disch:=omega)[aB,aA,iG v j (by omega),Int.add_assoc]
  ·try simp at c2
   obtain rfl : j = v.kids.length := by omega
   apply bM;apply bO;apply bP;apply bE;apply aD;refine zr ⟨[62],[],[6],[],[]⟩ fun _ _ Z=>?_;simp (disch:=omega)[aB,aA];and_intros<;>(try omega);apply Z;apply aH;simp [bB];refine ⟨⟨i, min v.kind 2, v.tag, v.text, v.classes, ofL nA v.attrs, ofL nP v.styles, ts⟩, ?_, ?_, ?_⟩
   ·simp; omega
   ·exact .mk _ ⟨⟨Nat.le_trans (ofL_len nP v.styles) hv3, ofL_sorted nP _⟩, ⟨Nat.le_trans (ofL_len nA v.attrs) hv2, ofL_sorted nA _⟩, hv.2.2.2, hv.1⟩ h2
   ·rw [lD]; simp only []; omega
end Go.Proofs.YtighdhfgcdjmeaaDoor

