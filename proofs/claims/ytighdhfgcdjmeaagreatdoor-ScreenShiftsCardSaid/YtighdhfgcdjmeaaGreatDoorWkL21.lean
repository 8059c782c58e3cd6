import Derived.Test.YtighdhfgcdjmeaaGreatDoorWkL6
namespace Go.Proofs.YtighdhfgcdjmeaaGreatDoor
open Go Go.Vm
set_option maxRecDepth 20000
set_option linter.all false
set_option maxHeartbeats 8000000
structure OPT where
 enter : Int
 leave : Int
 move : Int
 mode : Int
 appear : Bool
 moves : Bool
 deriving DecidableEq
@[simp] abbrev Vu (s : OPT) : D := .agg [.v (.int .i64 s.enter), .v (.int .i64 s.leave), .v (.int .i64 s.move), .v (.int .i64 s.mode), .v (.bool s.appear), .v (.bool s.moves)]
structure FL where
 deep : Int
 kind : Int
 tag : ByteArray
 key : ByteArray
 text : ByteArray
 classes : (List ByteArray)
 attrs : (List AT)
 styles : (List PI)
 opts : OPT
 deriving DecidableEq
@[simp] abbrev xN (s : FL) : D := .agg [.v (.int .i64 s.deep), .v (.int .i64 s.kind), .v (.string s.tag), .v (.string s.key), .v (.string s.text), .sl false (s.classes.map D.str), .sl false (s.attrs.map bY), .sl false (s.styles.map bS), .v (.int .i64 s.opts.enter), .v (.int .i64 s.opts.leave), .v (.int .i64 s.opts.move), .v (.int .i64 s.opts.mode), .v (.bool s.opts.appear), .v (.bool s.opts.moves)]
@[simp] abbrev aDm (s : FL) : D := .agg [.v (.int .i64 s.deep), .v (.int .i64 s.kind), .v (.string s.tag), .v (.string s.key), .v (.string s.text), .sl true (s.classes.map D.str), .sl true (s.attrs.map bY), .sl true (s.styles.map bS), .v (.int .i64 s.opts.enter), .v (.int .i64 s.opts.leave), .v (.int .i64 s.opts.move), .v (.int .i64 s.opts.mode), .v (.bool s.opts.appear), .v (.bool s.opts.moves)]
structure VN where
 kind : Int
 tag : ByteArray
 key : ByteArray
 text : ByteArray
 classes : (List ByteArray)
 attrs : (List AT)
 styles : (List PI)
 opts : OPT
 kids : (List VN)
def Aq (s : VN) : D := .agg [.v (.int .i64 s.kind), .v (.string s.tag), .v (.string s.key), .v (.string s.text), .sl false (s.classes.map D.str), .sl false (s.attrs.map bY), .sl false (s.styles.map bS), .v (.int .i64 s.opts.enter), .v (.int .i64 s.opts.leave), .v (.int .i64 s.opts.move), .v (.int .i64 s.opts.mode), .v (.bool s.opts.appear), .v (.bool s.opts.moves), .sl false (s.kids.attach.map fun k => Aq k.1)]
termination_by SizeOf.sizeOf s
decreasing_by
 have h := List.sizeOf_lt_of_mem k.2;cases s; simp at h ⊢; omega
@[simp] abbrev zZ (s : VN) : D := .agg [.v (.int .i64 s.kind), .v (.string s.tag), .v (.string s.key), .v (.string s.text), .sl false (s.classes.map D.str), .sl false (s.attrs.map bY), .sl false (s.styles.map bS), .v (.int .i64 s.opts.enter), .v (.int .i64 s.opts.leave), .v (.int .i64 s.opts.move), .v (.int .i64 s.opts.mode), .v (.bool s.opts.appear), .v (.bool s.opts.moves), .sl false (s.kids.map Aq)]
@[simp] abbrev aGa (s : VN) : D := .agg [.v (.int .i64 s.kind), .v (.string s.tag), .v (.string s.key), .v (.string s.text), .sl true (s.classes.map D.str), .sl true (s.attrs.map bY), .sl true (s.styles.map bS), .v (.int .i64 s.opts.enter), .v (.int .i64 s.opts.leave), .v (.int .i64 s.opts.move), .v (.int .i64 s.opts.mode), .v (.bool s.opts.appear), .v (.bool s.opts.moves), .sl true (s.kids.map Aq)]
@[simp] theorem Xa (s : VN) : Aq s = zZ s := by rw [Aq]; simp
def oZ (l : Ls) (n : Nat) : Ls := (l.take n).map (jX 20)
def Xs (p : PI) : PI := ⟨jX 20 p.name, p.value⟩
def aAn (p : AT) : AT := ⟨jX 20 p.name, jX 40 p.value⟩
def pU (l : List PI) (n : Nat) : List PI := (l.take n).map Xs
def sV (l : List AT) (n : Nat) : List AT := (l.take n).map aAn
theorem Ft (l : List ByteArray) (k : Nat) (h : k < l.length) : oZ l (k + 1) = oZ l k ++ [jX 20 l[k]] := by
 unfold oZ;rw [cF l k h, List.map_append]; rfl
theorem Ul (l : List ByteArray) : oZ l 0 = [] := rfl
theorem yF (l : List ByteArray) (n : Nat) : (oZ l n).length ≤ n := by simp [oZ]; omega
theorem La (l : List ByteArray) (k n : Nat) (h : l.length ≤ k) (hn : k ≤ n) : oZ l k = oZ l n := by
 unfold oZ;rw [List.take_of_length_le h, List.take_of_length_le (Nat.le_trans h hn)]
theorem Hh (l : List PI) (k : Nat) (h : k < l.length) : pU l (k + 1) = pU l k ++ [⟨jX 20 l[k].name, l[k].value⟩] := by
 unfold pU;rw [cF l k h, List.map_append]; rfl
theorem Ts (l : List PI) : pU l 0 = [] := rfl
theorem yD (l : List PI) (n : Nat) : (pU l n).length ≤ n := by simp [pU]; omega
theorem Ki (l : List PI) (k n : Nat) (h : l.length ≤ k) (hn : k ≤ n) : pU l k = pU l n := by
 unfold pU;rw [List.take_of_length_le h, List.take_of_length_le (Nat.le_trans h hn)]
theorem Hw (l : List AT) (k : Nat) (h : k < l.length) : sV l (k + 1) = sV l k ++ [⟨jX 20 l[k].name, jX 40 l[k].value⟩] := by
 unfold sV;rw [cF l k h, List.map_append]; rfl
theorem Te (l : List AT) : sV l 0 = [] := rfl
theorem zB (l : List AT) (n : Nat) : (sV l n).length ≤ n := by simp [sV]; omega
theorem Kp (l : List AT) (k n : Nat) (h : l.length ≤ k) (hn : k ≤ n) : sV l k = sV l n := by
 unfold sV;rw [List.take_of_length_le h, List.take_of_length_le (Nat.le_trans h hn)]
theorem Sv (l : Ls) (n : Nat) (σ : List (List D)) (hl : l.length ≤ 9223372036854775807) (hn : n ≤ 1000000) : Ct Tryz.prog 44 [dl l, D.int n] σ (fun r σ' => r = .sl true ((oZ l n).map D.str) ∧ σ' = σ) := by
 refine zf (rs:=[.tmp 4]) Tryz.func44 Tryz.ntmps44 Tryz.results44 ?_;simp only [aQ];refine zr ⟨[4,5,18,26],[],[],[],[]⟩ fun _ _ Z=>?_;simp (disch:=omega);and_intros<;>(try omega);apply Z;refine zr ⟨[4,5,18,26],[],[],[],[]⟩ fun _ _ Z=>?_;simp (disch:=omega);and_intros<;>(try omega);apply Z;apply aE;refine zr ⟨[4,5,18,26],[],[],[],[]⟩ fun _ _ Z=>?_;simp (disch:=omega);and_intros<;>(try omega);apply Z;apply aI;refine zk [0,1,4,5,6] ?_;refine cM (fun (k : Nat) => [(6, .d (.int (k : Int))), (5, .d (.sl true ((oZ l k).map D.str)))]) [5, 6, 7, 8, 9, 10, 11, 12, 13, 14, 15, 16, 17, 18, 19, 20, 21, 22, 23, 24, 25] (fun (k : Nat) => k ≤ l.length ∧ k ≤ n) (fun (k : Nat) => l.length - k) (0) (by simp <;> rfl) ?_ ?_ ?_
 ·simp [Ul]
 ·simp
 rintro k ⟨hk, hn2⟩;simp only [List.cons_append, List.nil_append];have hfl := yF l k;apply aE;refine Du ⟨[4,5,18,26],[],[],[],[]⟩ fun all hall _ Z=>?_;have ga4 : bA all 4 = some 11 := hall 4;refine aB 5 fun _ Y=>?_;simp (disch:=omega)[ga4];and_intros<;>(try omega);apply Y;simp only [List.drop];refine cJ 11 (by simp <;> rfl) ?_;refine ⟨fun g1 => ?_, fun g1 => ?_⟩
 ·try simp at g1
  simp (disch:=omega)[ga4];and_intros<;>(try omega);apply Z;refine zi ?_;refine ⟨fun c2=>?_,fun c2=>?_⟩
  ·try simp at c2
   apply aG;apply aC;apply aE;apply aI;refine zk [0,1,4,5,6] ?_;refine zt ⟨[4,5,18,26],[],[],[],[]⟩ fun _ _ Z=>?_;refine aB 5 fun _ Y=>?_;simp (disch:=omega);and_intros<;>(try omega);apply Y;simp only [List.drop];refine aH fun _ Y=>?_;simp (disch:=omega);refine dW (mZ _ 20 _ (by omega)) ?_;apply Y;simp (disch:=omega);and_intros<;>(try omega);apply Z;apply aN;apply aC;refine zk [0,1,4,5,6] ?_;refine zt ⟨[4,5,18,26],[],[],[],[]⟩ fun _ _ Z=>?_;simp (disch:=omega);and_intros<;>(try omega);apply Z;refine bJ (k + 1) ?_ ?_ (aV rfl ?_ (by simp) (by simp))
   ·omega
   ·try dsimp only
    omega
   ·simp (disch:=omega)[Ft]
  ·try simp at c2
   apply bD;apply bE;apply bG;apply aY;apply aC;refine zk [4,5] ?_;refine zr ⟨[4,5,18,26],[],[],[],[]⟩ fun _ _ Z=>?_;simp (disch:=omega);and_intros<;>(try omega);apply Z;apply aF;simp [aS];rw [show k = n by omega]
 ·try simp at g1
  simp (disch:=omega)[ga4];and_intros<;>(try omega);apply Z;refine cI (t := false) (by simp) (fun h => by cases h) (fun _ => ?_);apply bD;apply bE;apply bG;apply aY;apply aC;refine zk [4,5] ?_;refine zr ⟨[4,5,18,26],[],[],[],[]⟩ fun _ _ Z=>?_;simp (disch:=omega);and_intros<;>(try omega);apply Z;apply aF;simp [aS];rw [La l k n (by omega) (by omega)]
theorem Ox (l : List PI) (n : Nat) (σ : List (List D)) (hl : l.length ≤ 9223372036854775807) (hn : n ≤ 1000000) : Ct Tryz.prog 45 [.sl false (l.map bS), D.int n] σ (fun r σ' => r = .sl true ((pU l n).map bS) ∧ σ' = σ) := by
 refine zf (rs:=[.tmp 4]) Tryz.func45 Tryz.ntmps45 Tryz.results45 ?_;simp only [aQ];refine zr ⟨[4,5,18,33],[],[],[],[]⟩ fun _ _ Z=>?_;simp (disch:=omega);and_intros<;>(try omega);apply Z;refine zr ⟨[4,5,18,33],[],[],[],[]⟩ fun _ _ Z=>?_;simp (disch:=omega);and_intros<;>(try omega);apply Z;apply aE;refine zr ⟨[4,5,18,33],[],[],[],[]⟩ fun _ _ Z=>?_;simp (disch:=omega);and_intros<;>(try omega);apply Z;apply aI;refine zk [0,1,4,5,6] ?_;refine cM (fun (k : Nat) => [(6, .d (.int (k : Int))), (5, .d (.sl true ((pU l k).map bS)))]) [5, 6, 7, 8, 9, 10, 11, 12, 13, 14, 15, 16, 17, 18, 19, 20, 21, 22, 23, 24, 25, 26, 27, 28, 29, 30, 31, 32] (fun (k : Nat) => k ≤ l.length ∧ k ≤ n) (fun (k : Nat) => l.length - k) (0) (by simp <;> rfl) ?_ ?_ ?_
 ·simp [Ts]
 ·simp
 rintro k ⟨hk, hn2⟩;simp only [List.cons_append, List.nil_append];have hfl := yD l k;apply aE;refine Du ⟨[4,5,18,33],[],[],[],[]⟩ fun all hall _ Z=>?_;have ga4 : bA all 4 = some 11 := hall 4;refine aB 5 fun _ Y=>?_;simp (disch:=omega)[ga4];and_intros<;>(try omega);apply Y;simp only [List.drop];refine cJ 11 (by simp <;> rfl) ?_;refine ⟨fun g1 => ?_, fun g1 => ?_⟩
 ·try simp at g1
  simp (disch:=omega)[ga4];and_intros<;>(try omega);apply Z;refine zi ?_;refine ⟨fun c2=>?_,fun c2=>?_⟩
  ·try simp at c2
   apply aG;apply aC;apply aE;apply aI;refine zk [0,1,4,5,6] ?_;refine ze ⟨[4,5,18,33],[],[],[],[]⟩ [.op {},.op {},.op {},.op {},.op {},.op {},.pure,.op {},.op {},.op {},.op {},.op {},.op {},.op {},.op {},.op {}] fun all hall _ Z=>?_;refine aL 6 (by simp) fun _ Y=>?_;simp (disch:=omega);and_intros<;>(try omega);apply Y;simp only [List.drop];refine bH fun _ Y=>?_;simp (disch:=omega);refine nG (fun _ => (mZ _ 20 _ (by omega))) ?_;apply Y;refine aL 8 (by simp) fun _ Y=>?_;simp (disch:=omega);and_intros<;>(try omega);apply Y;simp only [List.drop];simp (disch:=omega);and_intros<;>(try omega);apply Z;apply aN;apply aC;refine zk [0,1,4,5,6] ?_;refine zt ⟨[4,5,18,33],[],[],[],[]⟩ fun _ _ Z=>?_;simp (disch:=omega);and_intros<;>(try omega);apply Z;refine bJ (k + 1) ?_ ?_ (aV rfl ?_ (by simp) (by simp))
   ·omega
   ·try dsimp only
    omega
   ·simp (disch:=omega)[Hh]
  ·try simp at c2
   apply bD;apply bE;apply bG;apply aY;apply aC;refine zk [4,5] ?_;refine zr ⟨[4,5,18,33],[],[],[],[]⟩ fun _ _ Z=>?_;simp (disch:=omega);and_intros<;>(try omega);apply Z;apply aF;simp [aS];rw [show k = n by omega]
 ·try simp at g1
  simp (disch:=omega)[ga4];and_intros<;>(try omega);apply Z;refine cI (t := false) (by simp) (fun h => by cases h) (fun _ => ?_);apply bD;apply bE;apply bG;apply aY;apply aC;refine zk [4,5] ?_;refine zr ⟨[4,5,18,33],[],[],[],[]⟩ fun _ _ Z=>?_;simp (disch:=omega);and_intros<;>(try omega);apply Z;apply aF;simp [aS];rw [Ki l k n (by omega) (by omega)]
end Go.Proofs.YtighdhfgcdjmeaaGreatDoor
namespace Go.Proofs.YtighdhfgcdjmeaaGreatDoor
open Go Go.Vm
set_option maxRecDepth 20000
set_option linter.all false
set_option maxHeartbeats 8000000
def kI (f : FL) : VN := ⟨f.kind, jX 20 f.tag, jX 20 f.key, jX 70 f.text, oZ f.classes 4, sV f.attrs 4, pU f.styles 4, f.opts, []⟩
abbrev FO (f : FL) : Prop := f.classes.length ≤ 9223372036854775807 ∧ f.attrs.length ≤ 9223372036854775807 ∧ f.styles.length ≤ 9223372036854775807
theorem Lo (f : FL) (σ : List (List D)) (h : FO f) : Ct Tryz.prog 20 [xN f] σ (fun r σ' => r = zZ (kI f) ∧ ∃ J, σ' = σ ++ J) := by
 refine zf (rs:=[.cell 2 41]) Tryz.func20 Tryz.ntmps20 Tryz.results20 ?_;simp only [aQ];have h5 := h.1;have h6 := h.2.1;have h7 := h.2.2;refine zr ⟨[37],[],[3],[],[]⟩ fun _ _ Z=>?_;simp (disch:=omega)[aO,aD,aK,aA];and_intros<;>(try omega);apply Z;refine zd ⟨[37],[],[3],[],[]⟩ [.op {},.op {rL:=true},.op {},.op {rL:=true},.pure,.op {},.op {rL:=true},.pure,.op {},.op {rL:=true},.pure,.op {},.op {rL:=true},.pure,.op {},.op {rL:=true},.pure,.op {},.op {rL:=true},.op {},.op {rO:=true,wO:=true},.op {rO:=true,wO:=true}] fun all hall _ Z=>?_;refine aL 4 (by simp) fun _ Y=>?_;simp (disch:=omega)[aO,aD,aK,aA];and_intros<;>(try omega);apply Y;simp only [List.drop];refine bH fun _ Y=>?_;simp (disch:=omega)[aO,aD,aK,aA];refine nG (fun _ => (mZ f.tag 20 _ (by omega))) ?_;apply Y;refine aL 2 (by simp) fun _ Y=>?_;simp (disch:=omega)[aO,aD,aK,aA];and_intros<;>(try omega);apply Y;simp only [List.drop];refine bH fun _ Y=>?_;simp (disch:=omega)[aO,aD,aK,aA];refine nG (fun _ => (mZ f.key 20 _ (by omega))) ?_;apply Y;refine aL 2 (by simp) fun _ Y=>?_;simp (disch:=omega)[aO,aD,aK,aA];and_intros<;>(try omega);apply Y;simp only [List.drop];refine bH fun _ Y=>?_;simp (disch:=omega)[aO,aD,aK,aA];refine nG (fun _ => (mZ f.text 70 _ (by omega))) ?_;apply Y;refine aL 2 (by simp) fun _ Y=>?_;simp (disch:=omega)[aO,aD,aK,aA];and_intros<;>(try omega);apply Y;simp only [List.drop];refine bH fun _ Y=>?_;simp (disch:=omega)[aO,aD,aK,aA];refine nG (fun _ => (Sv f.classes 4 _ h5 (by omega))) ?_;apply Y;refine aL 2 (by simp) fun _ Y=>?_;simp (disch:=omega)[aO,aD,aK,aA];and_intros<;>(try omega);apply Y;simp only [List.drop];refine bH fun _ Y=>?_;simp (disch:=omega)[aO,aD,aK,aA];refine nG (fun _ => (Ox f.styles 4 _ h7 (by omega))) ?_;apply Y;simp (disch:=omega)[aO,aD,aK,aA];and_intros<;>(try omega);apply Z;apply aE;refine zk [1,2,3] ?_;refine zr ⟨[37],[],[3],[],[]⟩ fun _ _ Z=>?_;simp (disch:=omega)[aO,aD,aK,aA];and_intros<;>(try omega);apply Z;apply aI;refine zk [1,2,3,4] ?_;refine iA (fun (k : Nat) => [(4, .d (.v (.int .i64 (k : Int))))]) (fun (k : Nat) => []) (fun (k : Nat) => [(σ.length, [D.int f.kind, D.str (jX 20 f.tag), D.str (jX 20 f.key), D.str (jX 70 f.text), .sl false ((oZ f.classes 4).map D.str), .sl true ((sV f.attrs k).map bY), .sl false ((pU f.styles 4).map bS), D.int f.opts.enter, D.int f.opts.leave, D.int f.opts.move, D.int f.opts.mode, D.bool f.opts.appear, D.bool f.opts.moves, .sl true []])]) [4, 25, 26, 27, 28, 29, 30, 31, 32, 33, 34, 35, 36, 37, 38, 39, 40, 41, 42, 43, 44, 45, 46, 47, 48, 49, 50, 51, 52, 53, 54, 55] (fun (k : Nat) => k ≤ f.attrs.length ∧ k ≤ 4) (fun (k : Nat) => f.attrs.length - k) (0) (by simp <;> rfl) ?_ (by simp) (by simp [aD, Te]) ?_ ?_
 ·simp
 ·simp
 rintro k ⟨hk, hk4⟩;simp only [List.cons_append, List.nil_append, iE, gJ, List.set_cons_zero, List.set_cons_succ];have hfl := zB f.attrs k;apply aE;refine Du ⟨[37],[],[3],[],[]⟩ fun all hall _ Z=>?_;have ga5 : bA all 5 = some 30 := hall 5;refine aB 6 fun _ Y=>?_;simp (disch:=omega)[aO,aD,aK,aA,ga5];and_intros<;>(try omega);apply Y;simp only [List.drop];refine cJ 30 (by simp <;> rfl) ?_;refine ⟨fun g1 => ?_, fun g1 => ?_⟩
 ·try simp at g1
  simp (disch:=omega)[aO,aD,aK,aA,ga5];and_intros<;>(try omega);apply Z;refine zi ?_;refine ⟨fun c2=>?_,fun c2=>?_⟩
  ·try simp at c2
   apply aG;apply aC;apply aE;apply aI;refine zk [1,2,3,4] ?_;refine ze ⟨[37],[],[3],[],[]⟩ [.op {},.op {rO:=true,wO:=true},.op {},.op {rL:=true},.op {},.op {},.op {},.op {},.pure,.op {},.op {rL:=true},.op {},.op {},.op {},.op {},.pure,.op {},.op {},.op {},.op {},.op {rO:=true,wO:=true}] fun all hall _ Z=>?_;refine aL 8 (by simp) fun _ Y=>?_;simp (disch:=omega)[aO,aD,aK,aA];and_intros<;>(try omega);apply Y;simp only [List.drop];refine bH fun _ Y=>?_;simp (disch:=omega)[aO,aD,aK,aA];refine nG (fun _ => (mZ f.attrs[k].name 20 _ (by omega))) ?_;apply Y;refine aL 6 (by simp) fun _ Y=>?_;simp (disch:=omega)[aO,aD,aK,aA];and_intros<;>(try omega);apply Y;simp only [List.drop];refine bH fun _ Y=>?_;simp (disch:=omega)[aO,aD,aK,aA];refine nG (fun _ => (mZ f.attrs[k].value 40 _ (by omega))) ?_;apply Y;simp (disch:=omega)[aO,aD,aK,aA];and_intros<;>(try omega);apply Z;apply aN;apply aC;refine zk [1,2,3,4] ?_;refine zt ⟨[37],[],[3],[],[]⟩ fun _ _ Z=>?_;simp (disch:=omega)[aO,aD,aK,aA];and_intros<;>(try omega);apply Z;refine bJ (k + 1) ?_ ?_ (aV rfl ?_ (by simp) (by simp [Hw, aD, *]))
   ·omega
   ·try dsimp only
    omega
   ·simp (disch:=omega)[aO,aD,aK,aA]
  ·try simp at c2
   apply bD;apply bE;apply bG;apply aY;apply aC;refine zk [2,3] ?_;refine zr ⟨[37],[],[3],[],[]⟩ fun _ _ Z=>?_;simp (disch:=omega)[aO,aD,aK,aA];and_intros<;>(try omega);apply Z;apply aF;simp [aS, kI];rw [show k = 4 by omega]
 ·try simp at g1
  simp (disch:=omega)[aO,aD,aK,aA,ga5];and_intros<;>(try omega);apply Z;refine cI (t := false) (by simp) (fun h => by cases h) (fun _ => ?_);apply bD;apply bE;apply bG;apply aY;apply aC;refine zk [2,3] ?_;refine zr ⟨[37],[],[3],[],[]⟩ fun _ _ Z=>?_;simp (disch:=omega)[aO,aD,aK,aA];and_intros<;>(try omega);apply Z;apply aF;simp [aS, kI];rw [Kp f.attrs k 4 (by omega) (by omega)]
end Go.Proofs.YtighdhfgcdjmeaaGreatDoor
namespace Go.Proofs.YtighdhfgcdjmeaaGreatDoor
open Go Go.Vm
set_option maxRecDepth 20000
set_option linter.all false
set_option maxHeartbeats 8000000
theorem Kb (N : Nat) (x : ByteArray) : Sc N (D.str x) := Sc.v _
theorem Jg (N : Nat) (x : AT) : Sc N (bY x) := Sc.agg fun d hd => by
 simp at hd; rcases hd with rfl | rfl <;> exact Sc.v _
theorem Lp (N : Nat) (x : PI) : Sc N (bS x) := Sc.agg fun d hd => by
 simp at hd; rcases hd with rfl | rfl <;> exact Sc.v _
theorem Qr (N : Nat) (f : FL) : Sc N (zZ (kI f)) := Sc.agg fun d hd => by
 simp only [List.mem_cons, List.not_mem_nil, or_false] at hd;rcases hd with rfl | rfl | rfl | rfl | rfl | rfl | rfl | rfl | rfl | rfl | rfl | rfl | rfl | rfl <;> first
  | exact Sc.v _
  | exact Sc.sl (Sc.map fun a => Kb _ a)
  | exact Sc.sl (Sc.map fun a => Jg _ a)
  | exact Sc.sl (Sc.map fun a => Lp _ a)
  | exact Sc.sl fun d hd => by cases hd
theorem wY (f : FL) (σ : List (List D)) (h : FO f) : Ct Tryz.prog 20 [xN f] σ (fun r σ' => r = zZ (kI f) ∧ σ' = σ) :=
 (Lo f σ h).trim fun r σ' ⟨hr, J, hs⟩ => ⟨σ, J, hs, rfl, by rw [hr]; exact Qr _ _, fun n cs h => .inl h, hr, rfl⟩
def iN (v : VN) : Nat := 1 + (v.kids.attach.map fun k => iN k.1).sum
termination_by SizeOf.sizeOf v
decreasing_by
 have h := List.sizeOf_lt_of_mem k.2;cases v; simp at h ⊢; omega
theorem nY (v : VN) : iN v = 1 + (v.kids.map iN).sum := by rw [iN]; simp
abbrev VF (v : VN) : Prop := v.classes.length ≤ 4 ∧ v.attrs.length ≤ 4 ∧ v.styles.length ≤ 4 ∧ v.text.size ≤ 70
inductive VG : VN → Prop
 | mk (v : VN) (h : VF v) (hk : ∀ k ∈ v.kids, VG k) : VG v
theorem zH (f : FL) (vs : List VN) : VF { kI f with kids := vs } := ⟨yF _ _, zB _ _, yD _ _, Lu _ _⟩
abbrev Sa (l : List FL) (i : Nat) (d : Int) : Prop := ∀ σ : List (List D), Ct Tryz.prog 21 [.sl false (l.map xN), D.int i, D.int d] σ (fun r σ' => (∃ (vs : List VN) (j : Nat), r = .tup [.sl false (vs.map Aq), D.int j] ∧ i ≤ j ∧ j ≤ l.length ∧ (∀ v ∈ vs, VG v) ∧ (vs.map iN).sum = j - i) ∧ σ' = σ)
theorem yS (l : List FL) (i : Nat) (d : Int) (σ : List (List D)) (hl : l.length ≤ 25) (hf : ∀ f ∈ l, FO f) (hi : i ≤ l.length) (ih : ∀ (i2 : Nat) (d2 : Int), i < i2 → i2 ≤ l.length → Sa l i2 d2) : Ct Tryz.prog 21 [.sl false (l.map xN), D.int i, D.int d] σ (fun r σ' => (∃ (vs : List VN) (j : Nat), r = .tup [.sl false (vs.map Aq), D.int j] ∧ i ≤ j ∧ j ≤ l.length ∧ (∀ v ∈ vs, VG v) ∧ (vs.map iN).sum = j - i) ∧ σ' = σ) := by
 refine zf (rs:=[.tmp 6,.tmp 7]) Tryz.func21 Tryz.ntmps21 Tryz.results21 ?_;simp only [aQ];refine zr ⟨[8,41],[],[],[],[]⟩ fun _ _ Z=>?_;simp (disch:=omega);and_intros<;>(try omega);apply Z;refine zr ⟨[8,41],[],[],[],[]⟩ fun _ _ Z=>?_;simp (disch:=omega);and_intros<;>(try omega);apply Z;apply aE;apply aI;refine zk [0,1,2,6,7,8] ?_;refine cM (fun (p : List VN × Nat) => [(8, .d (.sl true (p.1.map Aq))), (1, .d (.v (.int .i64 (p.2 : Int)))), (9, .d (.any))]) [1, 8, 9, 10, 11, 12, 13, 14, 15, 16, 17, 18, 19, 20, 21, 22, 23, 24, 25, 26, 27, 28, 29, 30, 31, 32, 33, 34, 35, 36, 37, 38, 39, 40, 41, 42, 43, 44] (fun (p : List VN × Nat) => i ≤ p.2 ∧ p.2 ≤ l.length ∧ (∀ v ∈ p.1, VG v) ∧ (p.1.map iN).sum = p.2 - i ∧ p.1.length ≤ p.2 - i) (fun (p : List VN × Nat) => l.length - p.2) (([], i)) (by simp <;> rfl) ?_ ?_ ?_
 ·simp
 ·simp; omega
 rintro ⟨vs, k⟩ ⟨h1, h2, h3, h4, h5⟩;simp only [List.cons_append, List.nil_append];dsimp only at h1 h2 h3 h4 h5;apply aE;refine zk [0,1,2,6,7,8,9] ?_;refine Du ⟨[8,41],[],[],[],[]⟩ fun all hall _ Z=>?_;have ga4 : bA all 4 = some 14 := hall 4;refine aB 5 fun _ Y=>?_;simp (disch:=omega)[ga4];and_intros<;>(try omega);apply Y;simp only [List.drop];refine cJ 14 (by simp <;> rfl) ?_;refine ⟨fun g1 => ?_, fun g1 => ?_⟩
 ·try simp at g1
  simp (disch:=omega)[ga4];and_intros<;>(try omega);apply Z;refine zi ?_;refine ⟨fun c2=>?_,fun c2=>?_⟩
  ·try simp at c2
   apply aG;apply aC;apply aI;refine zk [0,1,2,6,7,8,9] ?_;refine zr ⟨[8,41],[],[],[],[]⟩ fun _ _ Z=>?_;refine aB 4 fun _ Y=>?_;simp (disch:=omega);and_intros<;>(try omega);apply Y;simp only [List.drop];refine aH fun _ Y=>?_;simp (disch:=omega);refine dW (wY l[k] _ (hf _ (List.getElem_mem _))) ?_;apply Y;simp (disch:=omega);and_intros<;>(try omega);apply Z;refine zk [0,1,2,6,7,8,9] ?_;refine zr ⟨[8,41],[],[],[],[]⟩ fun _ _ Z=>?_;refine aB 8 fun _ Y=>?_;simp (disch:=omega);and_intros<;>(try omega);apply Y;simp only [List.drop];refine aH fun _ Y=>?_;simp (disch:=omega);refine Vd (ih (k + 1) l[k].deep (by omega) (by omega) _) ?_;rintro _ τ1 ⟨⟨ws, j, hr, hj1, hj2, hg, hs⟩, hτ⟩;subst hr hτ;apply Y;simp (disch:=omega);and_intros<;>(try omega);apply Z;refine zk [0,1,2,6,7,8,9] ?_;refine zt ⟨[8,41],[],[],[],[]⟩ fun _ _ Z=>?_;simp (disch:=omega);and_intros<;>(try omega);apply Z;apply aN;refine bJ ((vs ++ [{ kI l[k] with kids := ws }], j)) ?_ ?_ (aV rfl ?_ (by simp) (by simp))
   ·refine ⟨by omega, hj2, fun v hv => ?_, ?_, ?_⟩
    ·rcases List.mem_append.1 hv with hv | hv
     ·exact h3 v hv
     ·rw [List.mem_singleton.1 hv]; exact .mk _ (zH _ _) hg
    ·simp only [List.map_append, List.sum_append, List.map_cons, List.map_nil, List.sum_cons, List.sum_nil, nY { kI l[k] with kids := ws }]; omega
    ·simp; omega
   ·try dsimp only
    omega
   ·simp (disch:=omega)
  ·try simp at c2
   apply bD;apply bE;apply bG;apply aY;apply aC;refine zk [1,6,7,8] ?_;refine zr ⟨[8,41],[],[],[],[]⟩ fun _ _ Z=>?_;simp (disch:=omega);and_intros<;>(try omega);apply Z;apply aF;simp [aS];exact ⟨vs, k, ⟨rfl, rfl⟩, h1, h2, h3, h4⟩
 ·try simp at g1
  simp (disch:=omega)[ga4];and_intros<;>(try omega);apply Z;refine cI (t := false) (by simp) (fun h => by cases h) (fun _ => ?_);apply bD;apply bE;apply bG;apply aY;apply aC;refine zk [1,6,7,8] ?_;refine zr ⟨[8,41],[],[],[],[]⟩ fun _ _ Z=>?_;simp (disch:=omega);and_intros<;>(try omega);apply Z;apply aF;simp [aS];exact ⟨vs, k, ⟨rfl, rfl⟩, h1, h2, h3, h4⟩
end Go.Proofs.YtighdhfgcdjmeaaGreatDoor
namespace Go.Proofs.YtighdhfgcdjmeaaGreatDoor
open Go Go.Vm
set_option maxRecDepth 20000
set_option linter.all false
set_option maxHeartbeats 8000000
theorem xQ (l : List FL) (hl : l.length ≤ 25) (hf : ∀ f ∈ l, FO f) : ∀ (n i : Nat) (d : Int), l.length - i ≤ n → i ≤ l.length → Sa l i d
 | 0, i, d, hn, hi => fun σ => yS l i d σ hl hf hi fun i2 d2 h1 h2 => absurd h2 (by omega)
 | n + 1, i, d, hn, hi => fun σ => yS l i d σ hl hf hi fun i2 d2 h1 h2 => xQ l hl hf n i2 d2 (by omega) h2
def pA : VN := ⟨2, ⟨#[112]⟩, ⟨#[]⟩, ⟨#[]⟩, [], [], [], ⟨0, 0, 0, 0, false, false⟩, []⟩
theorem Mm : VG pA := .mk _ ⟨by decide, by decide, by decide, by decide +kernel⟩ fun k hk => by cases hk
theorem Ke : iN pA ≤ 25 := by rw [nY]; decide
theorem Ro (f : FL) (ws : List VN) (j : Nat) (hg : ∀ v ∈ ws, VG v) (hs : (ws.map iN).sum = j - 1) (hj : j ≤ 25) (h1 : 1 ≤ j) : VG { kI f with kids := ws } ∧ iN { kI f with kids := ws } ≤ 25 := by
 refine ⟨.mk _ (zH _ _) hg, ?_⟩;rw [nY]; simp only []; omega
theorem Nb (l : List FL) (n : Nat) (σ : List (List D)) (hn : n ≤ 25) (hl : l.length ≤ 9223372036854775807) (hf : ∀ f ∈ l, FO f) : Ct Tryz.prog 7 [.sl false (l.map xN), D.int n] σ (fun r σ' => (r.plain = true ∧ ∃ v : VN, r.strip = zZ v ∧ VG v ∧ iN v ≤ 25) ∧ σ' = σ) := by
 refine zf (rs:=[.cell 4 41]) Tryz.func7 Tryz.ntmps7 Tryz.results7 ?_;simp only [aQ];refine bV fun _ _ Z=>?_;simp (disch:=omega);and_intros<;>(try omega);apply Z;apply aE;refine bV fun _ _ Z=>?_;simp (disch:=omega);and_intros<;>(try omega);apply Z;refine zi ?_;refine ⟨fun c1=>?_,fun c1=>?_⟩
 ·try simp at c1
  refine Fe fun _ _ Z=>?_;simp (disch:=omega);and_intros<;>(try omega);apply Z;apply aC;apply aE;rw [← List.map_take];obtain ⟨L, hL⟩ : ∃ L, L = l.take n := ⟨_, rfl⟩;rw [← hL];have hLl : L.length ≤ 25 := by rw [hL, List.length_take]; omega
  have hLf : ∀ f ∈ L, FO f := by rw [hL]; exact fun f hf2 => hf f (List.mem_of_mem_take hf2)
  refine bV fun _ _ Z=>?_;simp (disch:=omega);and_intros<;>(try omega);apply Z;refine zi ?_;refine ⟨fun c2=>?_,fun c2=>?_⟩
  ·try simp at c2
   refine zk [0,4] ?_;refine bV fun _ _ Z=>?_;simp (disch:=omega);and_intros<;>(try omega);apply Z;apply aF;apply bK;simp [aS];exact ⟨pA, by simp [pA], Mm, Ke⟩
  ·try simp at c2
   apply aG;apply aC;have hL0 : 0 < L.length := by
    rcases L with _ | ⟨a, b⟩
    ·first | (simp at c2; done) | (simp at c3; done)
    ·simp
   refine zk [0,4] ?_;refine bV fun _ _ Z=>?_;refine aB 3 fun _ Y=>?_;simp (disch:=omega);and_intros<;>(try omega);apply Y;simp only [List.drop];refine aH fun _ Y=>?_;simp (disch:=omega);refine dW (wY L[0] _ (hLf _ (List.getElem_mem _))) ?_;apply Y;simp (disch:=omega);and_intros<;>(try omega);apply Z;refine bV fun _ _ Z=>?_;refine aB 5 fun _ Y=>?_;simp (disch:=omega);and_intros<;>(try omega);apply Y;simp only [List.drop];refine aH fun _ Y=>?_;simp (disch:=omega);refine Vd (xQ L hLl hLf 25 1 L[0].deep (by omega) (by omega) _) ?_;rintro _ τ1 ⟨⟨ws, j, hr, hj1, hj2, hg, hs⟩, hτ⟩;subst hr hτ;apply Y;simp (disch:=omega);and_intros<;>(try omega);apply Z;refine zk [4,5] ?_;refine bV fun _ _ Z=>?_;simp (disch:=omega);and_intros<;>(try omega);apply Z;apply aF;simp [aS];exact ⟨{ kI L[0] with kids := ws }, by simp, Ro _ ws j hg hs (by omega) (by omega)⟩
 ·try simp at c1
  apply aG;apply aC;apply aE;obtain ⟨L, hL⟩ : ∃ L, L = l := ⟨_, rfl⟩;have hLl : L.length ≤ 25 := by rw [hL]; omega
  have hLf : ∀ f ∈ L, FO f := by rw [hL]; exact hf
  rw [← hL];refine bV fun _ _ Z=>?_;simp (disch:=omega);and_intros<;>(try omega);apply Z;refine zi ?_;refine ⟨fun c3=>?_,fun c3=>?_⟩
  ·try simp at c3
   refine bV fun _ _ Z=>?_;simp (disch:=omega);and_intros<;>(try omega);apply Z;apply aF;apply bK;simp [aS];exact ⟨pA, by simp [pA], Mm, Ke⟩
  ·try simp at c3
   apply aG;apply aC;have hL0 : 0 < L.length := by
    rcases L with _ | ⟨a, b⟩
    ·first | (simp at c2; done) | (simp at c3; done)
    ·simp
   refine bV fun _ _ Z=>?_;refine aB 3 fun _ Y=>?_;simp (disch:=omega);and_intros<;>(try omega);apply Y;simp only [List.drop];refine aH fun _ Y=>?_;simp (disch:=omega);refine dW (wY L[0] _ (hLf _ (List.getElem_mem _))) ?_;apply Y;simp (disch:=omega);and_intros<;>(try omega);apply Z;refine zk [0,4,5] ?_;refine bV fun _ _ Z=>?_;refine aB 5 fun _ Y=>?_;simp (disch:=omega);and_intros<;>(try omega);apply Y;simp only [List.drop];refine aH fun _ Y=>?_;simp (disch:=omega);refine Vd (xQ L hLl hLf 25 1 L[0].deep (by omega) (by omega) _) ?_;rintro _ τ1 ⟨⟨ws, j, hr, hj1, hj2, hg, hs⟩, hτ⟩;subst hr hτ;apply Y;simp (disch:=omega);and_intros<;>(try omega);apply Z;refine zk [4,5] ?_;refine bV fun _ _ Z=>?_;simp (disch:=omega);and_intros<;>(try omega);apply Z;apply aF;simp [aS];exact ⟨{ kI L[0] with kids := ws }, by simp, Ro _ ws j hg hs (by omega) (by omega)⟩
end Go.Proofs.YtighdhfgcdjmeaaGreatDoor
namespace Go.Proofs.YtighdhfgcdjmeaaGreatDoor
open Go Go.Vm
set_option maxRecDepth 20000
set_option linter.all false
set_option maxHeartbeats 8000000
theorem Ql (l : List FL) (n : Nat) (σ : List (List D)) (hn : n ≤ 25) (hl : l.length ≤ 9223372036854775807) (hf : ∀ f ∈ l, FO f) : Ct Tryz.prog 7 [.sl false (l.map xN), D.int n] σ (fun r σ' => (∃ v : VN, r = zZ v ∧ VG v ∧ iN v ≤ 25) ∧ σ' = σ) :=
 (Nb l n σ hn hl hf).strip fun r σ' h => ⟨h.1.1, h.1.2, h.2⟩
def Rt (l : List PI) (k : Nat) : List PI := l.take k
theorem Kg (l : List PI) : Rt l 0 = [] := rfl
theorem tC (l : List PI) (k : Nat) (h : k < l.length) : Rt l (k + 1) = Rt l k ++ [l[k]] := cF l k h
theorem Dv (l : List PI) : Rt l l.length = l := List.take_length
theorem Ec (l : List PI) (k : Nat) : (Rt l k).length ≤ k := by unfold Rt; rw [List.length_take]; omega
theorem Qz (l : List PI) (σ : List (List D)) (hl : l.length ≤ 999999) : Ct Tryz.prog 16 [.sl false (l.map bS)] σ (fun r σ' => r = .sl false ((ofL nP l).map bS) ∧ σ' = σ) := (Cu l σ hl).freeze fun r σ' h => h
theorem Mi (N : Nat) (t : TN) : Sc N (gF t) := Sc.agg fun d hd => by
 simp only [List.mem_cons, List.not_mem_nil, or_false] at hd;rcases hd with rfl | rfl | rfl | rfl | rfl | rfl | rfl | rfl
 ·exact Sc.v _
 ·exact Sc.v _
 ·exact Sc.v _
 ·exact Sc.v _
 ·exact Sc.sl (Sc.map fun a => Kb _ a)
 ·exact Sc.sl (Sc.map fun a => Jg _ a)
 ·exact Sc.sl (Sc.map fun a => Lp _ a)
 ·refine Sc.sl fun d hd => ?_;obtain ⟨k, hk, e⟩ := List.mem_map.1 hd;rw [← e, Pc];exact Mi N k
termination_by SizeOf.sizeOf t
decreasing_by
 have h := List.sizeOf_lt_of_mem hk;cases t; simp at h ⊢; omega
def dJ (t : TN) : Nat := 1 + (t.kids.attach.map fun k => dJ k.1).sum
termination_by SizeOf.sizeOf t
decreasing_by
 have h := List.sizeOf_lt_of_mem k.2;cases t; simp at h ⊢; omega
theorem dF (t : TN) : dJ t = 1 + (t.kids.map dJ).sum := by rw [dJ]; simp
abbrev TF (t : TN) : Prop := (t.styles.length ≤ 4 ∧ Sorted nP t.styles) ∧ (t.attrs.length ≤ 4 ∧ Sorted nA t.attrs) ∧ t.text.size ≤ 70 ∧ t.classes.length ≤ 4
inductive TG : TN → Prop
 | mk (t : TN) (h : TF t) (hk : ∀ k ∈ t.kids, TG k) : TG t
def mH (v : VN) (k : Nat) : Nat := ((v.kids.take k).map iN).sum
theorem Nd (v : VN) : mH v 0 = 0 := rfl
theorem jB (v : VN) (k : Nat) (h : k < v.kids.length) : mH v (k + 1) = mH v k + iN v.kids[k] := by
 unfold mH; rw [cF _ _ h, List.map_append, List.sum_append]; simp
theorem Af (v : VN) : mH v v.kids.length + 1 = iN v := by unfold mH; rw [List.take_length, nY]; omega
theorem Ef (v : VN) (k : Nat) : ∀ d, mH v k ≤ mH v (k + d)
 | 0 => Nat.le_refl _
 | d + 1 => by
  refine Nat.le_trans (Ef v k d) ?_;by_cases h : k + d < v.kids.length
  ·have := jB v (k + d) h;show _ ≤ mH v (k + d + 1)
   omega
  ·unfold mH; rw [List.take_of_length_le (by omega), List.take_of_length_le (by omega)]; exact Nat.le_refl _
theorem Pm (v : VN) (k : Nat) (h : k < v.kids.length) : mH v k + iN v.kids[k] + 1 ≤ iN v := by
 have h1 := jB v k h;have h2 := Ef v (k + 1) (v.kids.length - (k + 1));rw [show k + 1 + (v.kids.length - (k + 1)) = v.kids.length by omega] at h2;have h3 := Af v;omega
theorem Lm (v : VN) : ∀ k, k ≤ v.kids.length → k ≤ mH v k
 | 0, _ => Nat.zero_le _
 | k + 1, h => by
  have h1 := jB v k (by omega);have h2 := Lm v k (by omega);have h3 := nY v.kids[k];omega
abbrev Rq (v : VN) : Prop := ∀ (i : Nat) (σ : List (List D)), i + iN v ≤ 1000000 → Ct Tryz.prog 6 [zZ v, D.int i] σ (fun r σ' => (∃ t : TN, r = .tup [gF t, D.int ((i + iN v : Nat) : Int)] ∧ TG t ∧ dJ t = iN v) ∧ σ' = σ)
theorem Ja (l : List PI) (σ : List (List D)) (hl : l.length ≤ 999999) : Ct Tryz.prog 18 [.sl false (l.map bS)] σ (fun r σ' => r = .sl true (l.map bS) ∧ σ' = σ) := by
 refine zf (rs:=[.tmp 2]) Tryz.func18 Tryz.ntmps18 Tryz.results18 ?_;simp only [aQ];refine zr ⟨[2,3,12,17],[],[],[],[]⟩ fun _ _ Z=>?_;simp (disch:=omega);and_intros<;>(try omega);apply Z;refine zr ⟨[2,3,12,17],[],[],[],[]⟩ fun _ _ Z=>?_;simp (disch:=omega);and_intros<;>(try omega);apply Z;apply aE;refine zr ⟨[2,3,12,17],[],[],[],[]⟩ fun _ _ Z=>?_;simp (disch:=omega);and_intros<;>(try omega);apply Z;apply aI;refine zk [2,3,6,7,8] ?_;refine cM (fun (k : Nat) => [(8, .d (.v (.int .i64 (k : Int)))), (3, .d (.sl true ((Rt l k).map bS))), (5, .d (.any))]) [3, 5, 8, 9, 10, 11, 12, 13, 14, 15, 16] (fun (k : Nat) => k ≤ l.length) (fun (k : Nat) => l.length - k) (0) (by simp <;> rfl) ?_ ?_ ?_
 ·simp [Kg]
 ·simp
 rintro k hk;simp only [List.cons_append, List.nil_append];have htl := Ec l k;refine zr ⟨[2,3,12,17],[],[],[],[]⟩ fun _ _ Z=>?_;simp (disch:=omega);and_intros<;>(try omega);apply Z;apply aE;refine zi ?_;refine ⟨fun c1=>?_,fun c1=>?_⟩
 ·try simp at c1
  apply aG;apply aC;apply aE;apply aI;refine zr ⟨[2,3,12,17],[],[],[],[]⟩ fun _ _ Z=>?_;simp (disch:=omega);and_intros<;>(try omega);apply Z;refine zt ⟨[2,3,12,17],[],[],[],[]⟩ fun _ _ Z=>?_;simp (disch:=omega);and_intros<;>(try omega);apply Z;apply aN;apply aC;refine zk [2,3,5,6,7,8] ?_;refine zt ⟨[2,3,12,17],[],[],[],[]⟩ fun _ _ Z=>?_;simp (disch:=omega);and_intros<;>(try omega);apply Z;refine bJ (k + 1) ?_ ?_ (aV rfl ?_ (by simp) (by simp))
  ·omega
  ·try dsimp only
   omega
  ·simp (disch:=omega)[tC]
 ·try simp at c1
  obtain rfl : k = l.length := by omega
  rw [Dv];apply bD;apply bE;apply bG;apply aY;apply aC;refine zr ⟨[2,3,12,17],[],[],[],[]⟩ fun _ _ Z=>?_;simp (disch:=omega);and_intros<;>(try omega);apply Z;apply aF;simp [aS]
end Go.Proofs.YtighdhfgcdjmeaaGreatDoor
namespace Go.Proofs.YtighdhfgcdjmeaaGreatDoor
open Go Go.Vm
set_option maxRecDepth 20000
set_option linter.all false
set_option maxHeartbeats 8000000
theorem My (v : VN) (i : Nat) (σ : List (List D)) (hv : VF v) (hi : i + iN v ≤ 1000000) (ih : ∀ k ∈ v.kids, VG k ∧ Rq k) : Ct Tryz.prog 6 [zZ v, D.int i] σ (fun r σ' => (∃ t : TN, r = .tup [gF t, D.int ((i + iN v : Nat) : Int)] ∧ TG t ∧ dJ t = iN v) ∧ ∃ J, σ' = σ ++ J) := by
 refine zf (rs:=[.cell 4 32,.tmp 5]) Tryz.func6 Tryz.ntmps6 Tryz.results6 ?_;simp only [aQ];have hce := Af v;have hck := Lm v v.kids.length (Nat.le_refl _);have hv1 := hv.1;have hv2 := hv.2.1;have hv3 := hv.2.2.1;refine zr ⟨[62],[],[6],[],[]⟩ fun _ _ Z=>?_;simp (disch:=omega)[aD,aA];and_intros<;>(try omega);apply Z;refine zd ⟨[62],[],[6],[],[]⟩ [.op {},.op {},.op {rL:=true},.op {},.op {},.op {rL:=true},.op {},.op {rL:=true},.op {},.op {},.op {rL:=true},.op {},.op {},.op {rL:=true},.pure,.pure,.op {},.op {rO:=true,wO:=true},.op {rO:=true,wO:=true}] fun all hall _ Z=>?_;refine aL 8 (by simp) fun _ Y=>?_;simp (disch:=omega)[aD,aA];and_intros<;>(try omega);apply Y;simp only [List.drop];refine aL 6 (by simp) fun _ Y=>?_;simp (disch:=omega)[aD,aA];and_intros<;>(try omega);apply Y;simp only [List.drop];refine bH fun _ Y=>?_;simp (disch:=omega)[aD,aA];refine nG (fun _ => (Ja v.styles _ (by omega))) ?_;apply Y;refine bH fun _ Y=>?_;simp (disch:=omega)[aD,aA];refine nG (fun _ => (Qz v.styles _ (by omega))) ?_;apply Y;simp (disch:=omega)[aD,aA];and_intros<;>(try omega);apply Z;apply aE;refine Fk σ.length ([D.int i, D.int (min v.kind 2), D.str v.tag, D.str v.text, .sl false (v.classes.map D.str), .sl false (([]).map bY), .sl false ((ofL nP v.styles).map bS), .sl true ([])]) (by simp [aD]; rfl) (by simp [Vo, D.s1]) ?_;simp only [aA, List.set_cons_zero];refine zk [1,2,4,5,6] ?_;refine zr ⟨[62],[],[6],[],[]⟩ fun _ _ Z=>?_;simp (disch:=omega)[aD,aA];and_intros<;>(try omega);apply Z;apply aI;refine zk [1,2,4,5,6,31,32,33] ?_;refine iA (fun (k : Nat) => [(33, .d (.v (.int .i64 (k : Int)))), (8, .d (.any))]) (fun (k : Nat) => []) (fun (k : Nat) => [(σ.length, [D.int i, D.int (min v.kind 2), D.str v.tag, D.str v.text, .sl false (v.classes.map D.str), .sl false ((ofL nA (v.attrs.take k)).map bY), .sl false ((ofL nP v.styles).map bS), .sl true ([])])]) [8, 33, 34, 35, 36, 37, 38, 39, 40, 41, 42, 43, 44, 45] (fun (k : Nat) => k ≤ v.attrs.length) (fun (k : Nat) => v.attrs.length - k) (0) (by simp <;> rfl) ?_ (by simp) (by simp [aD, ofL]) ?_ ?_
 ·simp
 ·simp
 rintro k hk;simp only [List.cons_append, List.nil_append, iE, gJ, List.set_cons_zero, List.set_cons_succ];have hol := ofL_len nA (v.attrs.take k);simp only [List.length_take] at hol;refine zr ⟨[62],[],[6],[],[]⟩ fun _ _ Z=>?_;simp (disch:=omega)[aD,aA];and_intros<;>(try omega);apply Z;apply aE;refine zi ?_;refine ⟨fun c1=>?_,fun c1=>?_⟩
 ·try simp at c1
  apply aG;apply aC;apply aE;apply aI;refine zr ⟨[62],[],[6],[],[]⟩ fun _ _ Z=>?_;simp (disch:=omega)[aD,aA];and_intros<;>(try omega);apply Z;refine zk [1,2,4,5,6,8,31,32,33] ?_;refine zt ⟨[62],[],[6],[],[]⟩ fun _ _ Z=>?_;refine aB 6 fun _ Y=>?_;simp (disch:=omega)[aD,aA];and_intros<;>(try omega);apply Y;simp only [List.drop];refine aH fun _ Y=>?_;simp (disch:=omega)[aD,aA];refine dW (Oj (ofL nA (v.attrs.take k)) v.attrs[k].name v.attrs[k].value _ (by omega) (ofL_sorted nA _)) ?_;apply Y;simp (disch:=omega)[aD,aA];and_intros<;>(try omega);apply Z;apply aN;apply aC;refine zk [1,2,4,5,6,8,31,32,33] ?_;refine zt ⟨[62],[],[6],[],[]⟩ fun _ _ Z=>?_;simp (disch:=omega)[aD,aA];and_intros<;>(try omega);apply Z;refine bJ (k + 1) ?_ ?_ (aV rfl ?_ (by simp) (by simp [ofL_take, *]))
  ·omega
  ·try dsimp only
   omega
  ·simp (disch:=omega)[aD,aA]
 ·try simp at c1
  obtain rfl : k = v.attrs.length := by omega
  rw [List.take_length];apply bD;apply bE;apply bG;apply aY;apply aC;refine zr ⟨[62],[],[6],[],[]⟩ fun _ _ Z=>?_;simp (disch:=omega)[aD,aA];and_intros<;>(try omega);apply Z;apply aE;refine zk [1,2,4,5,6] ?_;refine zr ⟨[62],[],[6],[],[]⟩ fun _ _ Z=>?_;simp (disch:=omega)[aD,aA];and_intros<;>(try omega);apply Z;apply aI;refine zk [1,4,5,6,49,50,51] ?_;refine iA (fun (p : List TN × Nat) => [(51, .d (.v (.int .i64 (p.2 : Int)))), (1, .d (.v (.int .i64 ((i + 1 + mH v p.2) : Int)))), (10, .d (.any)), (11, .d (.any)), (12, .d (.any))]) (fun (p : List TN × Nat) => []) (fun (p : List TN × Nat) => [(σ.length, [D.int i, D.int (min v.kind 2), D.str v.tag, D.str v.text, .sl false (v.classes.map D.str), .sl false ((ofL nA v.attrs).map bY), .sl false ((ofL nP v.styles).map bS), .sl true (p.1.map mX)])]) [1, 10, 11, 12, 51, 52, 53, 54, 55, 56, 57, 58, 59, 60, 61, 62, 63, 64, 65, 66, 67, 68] (fun (p : List TN × Nat) => p.2 ≤ v.kids.length ∧ (∀ t ∈ p.1, TG t) ∧ (p.1.map dJ).sum = mH v p.2 ∧ p.1.length ≤ p.2) (fun (p : List TN × Nat) => v.kids.length - p.2) (([], 0)) (by simp <;> rfl) ?_ (by simp) (by simp [aD]) ?_ ?_
  ·simp [Nd]
  ·simp [Nd]
  rintro ⟨ts, j⟩ ⟨h1, h2, h3, h4⟩;simp only [List.cons_append, List.nil_append, iE, gJ, List.set_cons_zero, List.set_cons_succ];dsimp only at h1 h2 h3 h4;have hlt := Pm v j;refine zr ⟨[62],[],[6],[],[]⟩ fun _ _ Z=>?_;simp (disch:=omega)[aD,aA];and_intros<;>(try omega);apply Z;apply aE;refine zi ?_;refine ⟨fun c2=>?_,fun c2=>?_⟩
  ·try simp at c2
   apply aG;apply aC;apply aE;apply aI;refine zr ⟨[62],[],[6],[],[]⟩ fun _ _ Z=>?_;simp (disch:=omega)[aD,aA];and_intros<;>(try omega);apply Z;refine zk [1,4,5,6,10,11,12,49,50,51] ?_;refine zr ⟨[62],[],[6],[],[]⟩ fun _ _ Z=>?_;refine aB 2 fun _ Y=>?_;simp (disch:=omega)[aD,aA];and_intros<;>(try omega);apply Y;simp only [List.drop];refine aH fun _ Y=>?_;simp (disch:=omega)[aD,aA];refine Vd ((ih v.kids[j] (List.getElem_mem _)).2 (i + 1 + mH v j) _ (by have := hlt (by assumption); omega)) ?_;rintro _ τ1 ⟨⟨u, hr, hu, hcu⟩, hτ⟩;subst hr hτ;apply Y;simp (disch:=omega)[aD,aA];and_intros<;>(try omega);apply Z;refine zk [1,4,5,6,10,11,12,49,50,51] ?_;refine zr ⟨[62],[],[6],[],[]⟩ fun _ _ Z=>?_;simp (disch:=omega)[aD,aA];and_intros<;>(try omega);apply Z;refine zk [1,4,5,6,10,11,12,49,50,51] ?_;refine zt ⟨[62],[],[6],[],[]⟩ fun _ _ Z=>?_;simp (disch:=omega)[aD,aA];and_intros<;>(try omega);apply Z;apply aN;apply aC;refine zk [1,4,5,6,10,11,12,49,50,51] ?_;refine zt ⟨[62],[],[6],[],[]⟩ fun _ _ Z=>?_;simp (disch:=omega)[aD,aA];and_intros<;>(try omega);apply Z;refine bJ ((ts ++ [u], j + 1)) ?_ ?_ (aV rfl ?_ (by simp) (by simp))
   ·refine ⟨by omega, fun t ht => ?_, ?_, ?_⟩
    ·rcases List.mem_append.1 ht with ht | ht
     ·exact h2 t ht
     ·rw [List.mem_singleton.1 ht]; exact hu
    ·simp only [List.map_append, List.sum_append, List.map_cons, List.map_nil, List.sum_cons, List.sum_nil, jB v j (by assumption)]; omega
    ·simp; omega
   ·try dsimp only
    omega
   ·simp (disch:=omega)[aD,aA,jB v j (by omega),Int.add_assoc]
  ·try simp at c2
   obtain rfl : j = v.kids.length := by omega
   apply bD;apply bE;apply bG;apply aY;apply aC;refine zr ⟨[62],[],[6],[],[]⟩ fun _ _ Z=>?_;simp (disch:=omega)[aD,aA];and_intros<;>(try omega);apply Z;apply aF;simp [aS];refine ⟨⟨i, min v.kind 2, v.tag, v.text, v.classes, ofL nA v.attrs, ofL nP v.styles, ts⟩, ?_, ?_, ?_⟩
   ·simp; omega
   ·exact .mk _ ⟨⟨Nat.le_trans (ofL_len nP v.styles) hv3, ofL_sorted nP _⟩, ⟨Nat.le_trans (ofL_len nA v.attrs) hv2, ofL_sorted nA _⟩, hv.2.2.2, hv.1⟩ h2
   ·rw [dF]; simp only []; omega
end Go.Proofs.YtighdhfgcdjmeaaGreatDoor

