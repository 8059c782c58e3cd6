import Derived.Test.YtighdhfgcdjmeaaWkL15
namespace Go.Proofs.Ytighdhfgcdjmeaa
open Go Go.Vm
set_option maxRecDepth 20000
set_option linter.all false
set_option maxHeartbeats 8000000
structure OPT where
 enter : Int
 leave : Int
 move : Int
 mode : Int
 appear : Bool
 moves : Bool
 deriving DecidableEq
@[simp] abbrev Uk (s : OPT) : D := .agg [.v (.int .i64 s.enter), .v (.int .i64 s.leave), .v (.int .i64 s.move), .v (.int .i64 s.mode), .v (.bool s.appear), .v (.bool s.moves)]
structure FL where
 deep : Int
 kind : Int
 tag : ByteArray
 key : ByteArray
 text : ByteArray
 classes : (List ByteArray)
 attrs : (List AT)
 styles : (List PI)
 opts : OPT
 deriving DecidableEq
@[simp] abbrev vL (s : FL) : D := .agg [.v (.int .i64 s.deep), .v (.int .i64 s.kind), .v (.string s.tag), .v (.string s.key), .v (.string s.text), .sl false (s.classes.map D.str), .sl false (s.attrs.map bR), .sl false (s.styles.map bH), .v (.int .i64 s.opts.enter), .v (.int .i64 s.opts.leave), .v (.int .i64 s.opts.move), .v (.int .i64 s.opts.mode), .v (.bool s.opts.appear), .v (.bool s.opts.moves)]
@[simp] abbrev aC1 (s : FL) : D := .agg [.v (.int .i64 s.deep), .v (.int .i64 s.kind), .v (.string s.tag), .v (.string s.key), .v (.string s.text), .sl true (s.classes.map D.str), .sl true (s.attrs.map bR), .sl true (s.styles.map bH), .v (.int .i64 s.opts.enter), .v (.int .i64 s.opts.leave), .v (.int .i64 s.opts.move), .v (.int .i64 s.opts.mode), .v (.bool s.opts.appear), .v (.bool s.opts.moves)]
structure VN where
 kind : Int
 tag : ByteArray
 key : ByteArray
 text : ByteArray
 classes : (List ByteArray)
 attrs : (List AT)
 styles : (List PI)
 opts : OPT
 kids : (List VN)
def xR (s : VN) : D := .agg [.v (.int .i64 s.kind), .v (.string s.tag), .v (.string s.key), .v (.string s.text), .sl false (s.classes.map D.str), .sl false (s.attrs.map bR), .sl false (s.styles.map bH), .v (.int .i64 s.opts.enter), .v (.int .i64 s.opts.leave), .v (.int .i64 s.opts.move), .v (.int .i64 s.opts.mode), .v (.bool s.opts.appear), .v (.bool s.opts.moves), .sl false (s.kids.attach.map fun k => xR k.1)]
termination_by SizeOf.sizeOf s
decreasing_by
 have h := List.sizeOf_lt_of_mem k.2;cases s; simp at h ⊢; omega
@[simp] abbrev yO (s : VN) : D := .agg [.v (.int .i64 s.kind), .v (.string s.tag), .v (.string s.key), .v (.string s.text), .sl false (s.classes.map D.str), .sl false (s.attrs.map bR), .sl false (s.styles.map bH), .v (.int .i64 s.opts.enter), .v (.int .i64 s.opts.leave), .v (.int .i64 s.opts.move), .v (.int .i64 s.opts.mode), .v (.bool s.opts.appear), .v (.bool s.opts.moves), .sl false (s.kids.map xR)]
@[simp] abbrev aEj (s : VN) : D := .agg [.v (.int .i64 s.kind), .v (.string s.tag), .v (.string s.key), .v (.string s.text), .sl true (s.classes.map D.str), .sl true (s.attrs.map bR), .sl true (s.styles.map bH), .v (.int .i64 s.opts.enter), .v (.int .i64 s.opts.leave), .v (.int .i64 s.opts.move), .v (.int .i64 s.opts.mode), .v (.bool s.opts.appear), .v (.bool s.opts.moves), .sl true (s.kids.map xR)]
@[simp] theorem Wa (s : VN) : xR s = yO s := by rw [xR]; simp
def oN (l : Ls) (n : Nat) : Ls := (l.take n).map (jV 20)
def Wl (p : PI) : PI := ⟨jV 20 p.name, p.value⟩
def Xm (p : AT) : AT := ⟨jV 20 p.name, jV 40 p.value⟩
def oS (l : List PI) (n : Nat) : List PI := (l.take n).map Wl
def rA (l : List AT) (n : Nat) : List AT := (l.take n).map Xm
theorem Fg (l : List ByteArray) (k : Nat) (h : k < l.length) : oN l (k + 1) = oN l k ++ [jV 20 l[k]] := by
 unfold oN;rw [cS l k h, List.map_append]; rfl
theorem Sl (l : List ByteArray) : oN l 0 = [] := rfl
theorem yL (l : List ByteArray) (n : Nat) : (oN l n).length ≤ n := by simp [oN]; omega
theorem Ir (l : List ByteArray) (k n : Nat) (h : l.length ≤ k) (hn : k ≤ n) : oN l k = oN l n := by
 unfold oN;rw [List.take_of_length_le h, List.take_of_length_le (Nat.le_trans h hn)]
theorem Gj (l : List PI) (k : Nat) (h : k < l.length) : oS l (k + 1) = oS l k ++ [⟨jV 20 l[k].name, l[k].value⟩] := by
 unfold oS;rw [cS l k h, List.map_append]; rfl
theorem Sx (l : List PI) : oS l 0 = [] := rfl
theorem yP (l : List PI) (n : Nat) : (oS l n).length ≤ n := by simp [oS]; omega
theorem Ib (l : List PI) (k n : Nat) (h : l.length ≤ k) (hn : k ≤ n) : oS l k = oS l n := by
 unfold oS;rw [List.take_of_length_le h, List.take_of_length_le (Nat.le_trans h hn)]
theorem Ed (l : List AT) (k : Nat) (h : k < l.length) : rA l (k + 1) = rA l k ++ [⟨jV 20 l[k].name, jV 40 l[k].value⟩] := by
 unfold rA;rw [cS l k h, List.map_append]; rfl
theorem Ta (l : List AT) : rA l 0 = [] := rfl
theorem wW (l : List AT) (n : Nat) : (rA l n).length ≤ n := by simp [rA]; omega
theorem Mq (l : List AT) (k n : Nat) (h : l.length ≤ k) (hn : k ≤ n) : rA l k = rA l n := by
 unfold rA;rw [List.take_of_length_le h, List.take_of_length_le (Nat.le_trans h hn)]
theorem Sw (l : Ls) (n : Nat) (σ : List (List D)) (hl : l.length ≤ 9223372036854775807) (hn : n ≤ 1000000) : Ct Try.prog 37 [dl l, D.int n] σ (fun r σ' => r = .sl true ((oN l n).map D.str) ∧ σ' = σ) := by
 refine zf (rs:=[.tmp 4]) Try.func37 Try.ntmps37 Try.results37 ?_;simp only [aM];refine zr ⟨[4,5,18,26],[],[],[],[]⟩ fun _ _ Z=>?_;simp (disch:=omega);and_intros<;>(try omega);apply Z;refine zr ⟨[4,5,18,26],[],[],[],[]⟩ fun _ _ Z=>?_;simp (disch:=omega);and_intros<;>(try omega);apply Z;apply aH;refine zr ⟨[4,5,18,26],[],[],[],[]⟩ fun _ _ Z=>?_;simp (disch:=omega);and_intros<;>(try omega);apply Z;apply aN;refine zk [0,1,4,5,6] ?_;refine cN (fun (k : Nat) => [(6, .d (.int (k : Int))), (5, .d (.sl true ((oN l k).map D.str)))]) [5, 6, 7, 8, 9, 10, 11, 12, 13, 14, 15, 16, 17, 18, 19, 20, 21, 22, 23, 24, 25] (fun (k : Nat) => k ≤ l.length ∧ k ≤ n) (fun (k : Nat) => l.length - k) (0) (by simp <;> rfl) ?_ ?_ ?_
 ·simp [Sl]
 ·simp
 rintro k ⟨hk, hn2⟩;simp only [List.cons_append, List.nil_append];have hfl := yL l k;apply aH;refine Ms ⟨[4,5,18,26],[],[],[],[]⟩ fun all hall _ Z=>?_;have ga4 : bK all 4 = some 11 := hall 4;refine aC 5 fun _ Y=>?_;simp (disch:=omega)[ga4];and_intros<;>(try omega);apply Y;simp only [List.drop];refine eC 11 (by simp <;> rfl) ?_;refine ⟨fun g1 => ?_, fun g1 => ?_⟩
 ·try simp at g1
  simp (disch:=omega)[ga4];and_intros<;>(try omega);apply Z;refine zi ?_;refine ⟨fun c2=>?_,fun c2=>?_⟩
  ·try simp at c2
   apply aK;apply aE;apply aH;apply aN;refine zk [0,1,4,5,6] ?_;refine zt ⟨[4,5,18,26],[],[],[],[]⟩ fun _ _ Z=>?_;refine aC 5 fun _ Y=>?_;simp (disch:=omega);and_intros<;>(try omega);apply Y;simp only [List.drop];refine aD fun _ Y=>?_;simp (disch:=omega);refine cD (nC _ 20 _ (by omega)) ?_;apply Y;simp (disch:=omega);and_intros<;>(try omega);apply Z;apply aZ;apply aE;refine zk [0,1,4,5,6] ?_;refine zt ⟨[4,5,18,26],[],[],[],[]⟩ fun _ _ Z=>?_;simp (disch:=omega);and_intros<;>(try omega);apply Z;refine bT (k + 1) ?_ ?_ (bI rfl ?_ (by simp) (by simp))
   ·omega
   ·try dsimp only
    omega
   ·simp (disch:=omega)[Fg]
  ·try simp at c2
   apply bP;apply bN;apply bO;apply bG;apply aE;refine zk [4,5] ?_;refine zr ⟨[4,5,18,26],[],[],[],[]⟩ fun _ _ Z=>?_;simp (disch:=omega);and_intros<;>(try omega);apply Z;apply aF;simp [aR];rw [show k = n by omega]
 ·try simp at g1
  simp (disch:=omega)[ga4];and_intros<;>(try omega);apply Z;refine fP (t := false) (by simp) (fun h => by cases h) (fun _ => ?_);apply bP;apply bN;apply bO;apply bG;apply aE;refine zk [4,5] ?_;refine zr ⟨[4,5,18,26],[],[],[],[]⟩ fun _ _ Z=>?_;simp (disch:=omega);and_intros<;>(try omega);apply Z;apply aF;simp [aR];rw [Ir l k n (by omega) (by omega)]
theorem Qh (l : List PI) (n : Nat) (σ : List (List D)) (hl : l.length ≤ 9223372036854775807) (hn : n ≤ 1000000) : Ct Try.prog 38 [.sl false (l.map bH), D.int n] σ (fun r σ' => r = .sl true ((oS l n).map bH) ∧ σ' = σ) := by
 refine zf (rs:=[.tmp 4]) Try.func38 Try.ntmps38 Try.results38 ?_;simp only [aM];refine zr ⟨[4,5,18,33],[],[],[],[]⟩ fun _ _ Z=>?_;simp (disch:=omega);and_intros<;>(try omega);apply Z;refine zr ⟨[4,5,18,33],[],[],[],[]⟩ fun _ _ Z=>?_;simp (disch:=omega);and_intros<;>(try omega);apply Z;apply aH;refine zr ⟨[4,5,18,33],[],[],[],[]⟩ fun _ _ Z=>?_;simp (disch:=omega);and_intros<;>(try omega);apply Z;apply aN;refine zk [0,1,4,5,6] ?_;refine cN (fun (k : Nat) => [(6, .d (.int (k : Int))), (5, .d (.sl true ((oS l k).map bH)))]) [5, 6, 7, 8, 9, 10, 11, 12, 13, 14, 15, 16, 17, 18, 19, 20, 21, 22, 23, 24, 25, 26, 27, 28, 29, 30, 31, 32] (fun (k : Nat) => k ≤ l.length ∧ k ≤ n) (fun (k : Nat) => l.length - k) (0) (by simp <;> rfl) ?_ ?_ ?_
 ·simp [Sx]
 ·simp
 rintro k ⟨hk, hn2⟩;simp only [List.cons_append, List.nil_append];have hfl := yP l k;apply aH;refine Ms ⟨[4,5,18,33],[],[],[],[]⟩ fun all hall _ Z=>?_;have ga4 : bK all 4 = some 11 := hall 4;refine aC 5 fun _ Y=>?_;simp (disch:=omega)[ga4];and_intros<;>(try omega);apply Y;simp only [List.drop];refine eC 11 (by simp <;> rfl) ?_;refine ⟨fun g1 => ?_, fun g1 => ?_⟩
 ·try simp at g1
  simp (disch:=omega)[ga4];and_intros<;>(try omega);apply Z;refine zi ?_;refine ⟨fun c2=>?_,fun c2=>?_⟩
  ·try simp at c2
   apply aK;apply aE;apply aH;apply aN;refine zk [0,1,4,5,6] ?_;refine ze ⟨[4,5,18,33],[],[],[],[]⟩ [.op {},.op {},.op {},.op {},.op {},.op {},.pure,.op {},.op {},.op {},.op {},.op {},.op {},.op {},.op {},.op {}] fun all hall _ Z=>?_;refine aL 6 (by simp) fun _ Y=>?_;simp (disch:=omega);and_intros<;>(try omega);apply Y;simp only [List.drop];refine aV fun _ Y=>?_;simp (disch:=omega);refine kM (fun _ => (nC _ 20 _ (by omega))) ?_;apply Y;refine aL 8 (by simp) fun _ Y=>?_;simp (disch:=omega);and_intros<;>(try omega);apply Y;simp only [List.drop];simp (disch:=omega);and_intros<;>(try omega);apply Z;apply aZ;apply aE;refine zk [0,1,4,5,6] ?_;refine zt ⟨[4,5,18,33],[],[],[],[]⟩ fun _ _ Z=>?_;simp (disch:=omega);and_intros<;>(try omega);apply Z;refine bT (k + 1) ?_ ?_ (bI rfl ?_ (by simp) (by simp))
   ·omega
   ·try dsimp only
    omega
   ·simp (disch:=omega)[Gj]
  ·try simp at c2
   apply bP;apply bN;apply bO;apply bG;apply aE;refine zk [4,5] ?_;refine zr ⟨[4,5,18,33],[],[],[],[]⟩ fun _ _ Z=>?_;simp (disch:=omega);and_intros<;>(try omega);apply Z;apply aF;simp [aR];rw [show k = n by omega]
 ·try simp at g1
  simp (disch:=omega)[ga4];and_intros<;>(try omega);apply Z;refine fP (t := false) (by simp) (fun h => by cases h) (fun _ => ?_);apply bP;apply bN;apply bO;apply bG;apply aE;refine zk [4,5] ?_;refine zr ⟨[4,5,18,33],[],[],[],[]⟩ fun _ _ Z=>?_;simp (disch:=omega);and_intros<;>(try omega);apply Z;apply aF;simp [aR];rw [Ib l k n (by omega) (by omega)]
end Go.Proofs.Ytighdhfgcdjmeaa

