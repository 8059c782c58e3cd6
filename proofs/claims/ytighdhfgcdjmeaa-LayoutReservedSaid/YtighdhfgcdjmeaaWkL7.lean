import Derived.Test.YtighdhfgcdjmeaaWkL5
namespace Go.Proofs.Ytighdhfgcdjmeaa
open Go Go.Vm
set_option maxRecDepth 20000
set_option linter.all false
set_option maxHeartbeats 8000000
def iL (x0 : Int) : Int := max (-2147483648) (min x0 2147483647)
theorem eW (x0 : Int) (σ : List (List D))  : Ct Try.prog 54 [.v (.int .i64 x0)] σ (fun r σ' => r = .v (.int .i64 (iL x0)) ∧ σ' = σ) := by
 refine zf (rs:=[.tmp 2]) Try.func54 Try.ntmps54 Try.results54 ?_;simp only [aM];refine bQ fun all K Z=>?_;simp;and_intros<;>(try omega);apply Z;clear Z K all;refine bQ fun all K Z=>?_;simp;and_intros<;>(try omega);apply Z;clear Z K all;apply aF;first | (simp [aR, iL]; done) | (simp [aR, iL]; done) | (simp [aR]; unfold iL; (repeat' split) <;> first | (exfalso; omega) | (simp_all; done)) | (simp [aR, iL, *]; done) | (simp_all [aR, iL]; done) | (simp_all [aR, iL]; omega) | (simp [aR, iL] <;> split <;> omega)
def gZ (x0 : Int) (x1 : Int) (x2 : Int) : Int := max x1 (min x0 x2)
theorem Dg (x0 : Int) (x1 : Int) (x2 : Int) (σ : List (List D))  : Ct Try.prog 81 [.v (.int .i64 x0), .v (.int .i64 x1), .v (.int .i64 x2)] σ (fun r σ' => r = .v (.int .i64 (gZ x0 x1 x2)) ∧ σ' = σ) := by
 refine zf (rs:=[.tmp 6]) Try.func81 Try.ntmps81 Try.results81 ?_;simp only [aM];refine bQ fun all K Z=>?_;simp;and_intros<;>(try omega);apply Z;clear Z K all;refine bQ fun all K Z=>?_;simp;and_intros<;>(try omega);apply Z;clear Z K all;apply aF;first | (simp [aR, gZ]; done) | (simp [aR, gZ]; done) | (simp [aR]; unfold gZ; (repeat' split) <;> first | (exfalso; omega) | (simp_all; done)) | (simp [aR, gZ, *]; done) | (simp_all [aR, gZ]; done) | (simp_all [aR, gZ]; omega) | (simp [aR, gZ] <;> split <;> omega)
theorem iS (x : Int) : -2147483648 ≤ iL x ∧ iL x ≤ 2147483647 := by unfold iL; omega
def mY (a b : Int) : Int := iL (iL a + iL b)
def Bm (a b : Int) : Int := iL (iL a - iL b)
def Kv (a b : Int) : Int := iL (iL a * iL b)
theorem vC (a b : Int) : -4611686018427387904 ≤ iL a * iL b ∧ iL a * iL b ≤ 4611686018427387904 := by
 have ha := iS a;have hb := iS b;have h : (iL a * iL b).natAbs ≤ 2147483648 * 2147483648 := by
  rw [Int.natAbs_mul];exact Nat.mul_le_mul (by omega) (by omega)
 omega
def jM (l : List Int) : Int := l.foldl mY 0
theorem Ha (l : List Int) (k : Nat) (h : k < l.length) : jM (l.take (k + 1)) = mY (jM (l.take k)) l[k] := by
 unfold jM; rw [cS l k h, List.foldl_append]; rfl
def Tv (a b : Int) : Int := if a.tmod b ≠ 0 ∧ ((a.tmod b < 0 ∧ ¬ b < 0) ∨ (¬ a.tmod b < 0 ∧ b < 0)) then a.tdiv b - 1 else a.tdiv b
def Qy (a b : Int) : Int := if a.tmod b ≠ 0 ∧ ((a.tmod b < 0 ∧ ¬ b < 0) ∨ (¬ a.tmod b < 0 ∧ b < 0)) then a.tmod b + b else a.tmod b
theorem Ox (a b : Int) (h : -2147483648 ≤ a ∧ a ≤ 2147483647) : -2147483648 ≤ a.tdiv b ∧ a.tdiv b ≤ 2147483648 := by
 have : (a.tdiv b).natAbs ≤ a.natAbs := by rw [Int.natAbs_tdiv]; exact Nat.div_le_self _ _
 omega
theorem Nh (a b : Int) (h : -2147483648 ≤ a ∧ a ≤ 2147483647) : -2147483648 ≤ a.tmod b ∧ a.tmod b ≤ 2147483648 := by
 have : (a.tmod b).natAbs ≤ a.natAbs := by rw [Int.natAbs_tmod]; exact Nat.mod_le _ _
 omega
def Nu (a b : Int) : Int := if b = 0 then 0 else iL (Tv (iL a) (iL b))
theorem Qz {b : Int} (h : ¬ b = 0) : ¬ iL b = 0 := by unfold iL; omega
theorem kC (a b : Int) (σ : List (List D))  : Ct Try.prog 32 [D.int a, D.int b] σ (fun r σ' => r = .int (mY a b) ∧ σ' = σ) := by
 refine zf (rs:=[.tmp 4]) Try.func32 Try.ntmps32 Try.results32 ?_;simp only [aM];have hA := iS a;have hB := iS b;have hM := vC a b;refine bQ fun _ _ Z=>?_;simp;and_intros<;>(try omega);apply Z;refine bQ fun _ _ Z=>?_;refine aC 1 fun _ Y=>?_;simp;and_intros<;>(try omega);apply Y;simp only [List.drop];refine aD fun _ Y=>?_;simp;refine cD (eW a _) ?_;apply Y;refine aC 1 fun _ Y=>?_;simp;and_intros<;>(try omega);apply Y;simp only [List.drop];refine aD fun _ Y=>?_;simp;refine cD (eW b _) ?_;apply Y;refine aC 1 fun _ Y=>?_;simp;and_intros<;>(try omega);apply Y;simp only [List.drop];refine aD fun _ Y=>?_;simp;refine cD (eW (iL a + iL b) _) ?_;apply Y;simp;and_intros<;>(try omega);apply Z;apply aF;simp [aR, mY]
theorem wG (a b : Int) (σ : List (List D))  : Ct Try.prog 61 [D.int a, D.int b] σ (fun r σ' => r = .int (Bm a b) ∧ σ' = σ) := by
 refine zf (rs:=[.tmp 4]) Try.func61 Try.ntmps61 Try.results61 ?_;simp only [aM];have hA := iS a;have hB := iS b;have hM := vC a b;refine bQ fun _ _ Z=>?_;simp;and_intros<;>(try omega);apply Z;refine bQ fun _ _ Z=>?_;refine aC 1 fun _ Y=>?_;simp;and_intros<;>(try omega);apply Y;simp only [List.drop];refine aD fun _ Y=>?_;simp;refine cD (eW a _) ?_;apply Y;refine aC 1 fun _ Y=>?_;simp;and_intros<;>(try omega);apply Y;simp only [List.drop];refine aD fun _ Y=>?_;simp;refine cD (eW b _) ?_;apply Y;refine aC 1 fun _ Y=>?_;simp;and_intros<;>(try omega);apply Y;simp only [List.drop];refine aD fun _ Y=>?_;simp;refine cD (eW (iL a - iL b) _) ?_;apply Y;simp;and_intros<;>(try omega);apply Z;apply aF;simp [aR, Bm]
theorem Oc (a b : Int) (σ : List (List D))  : Ct Try.prog 82 [D.int a, D.int b] σ (fun r σ' => r = .int (Kv a b) ∧ σ' = σ) := by
 refine zf (rs:=[.tmp 4]) Try.func82 Try.ntmps82 Try.results82 ?_;simp only [aM];have hA := iS a;have hB := iS b;have hM := vC a b;refine bQ fun _ _ Z=>?_;simp;and_intros<;>(try omega);apply Z;refine bQ fun _ _ Z=>?_;refine aC 1 fun _ Y=>?_;simp;and_intros<;>(try omega);apply Y;simp only [List.drop];refine aD fun _ Y=>?_;simp;refine cD (eW a _) ?_;apply Y;refine aC 1 fun _ Y=>?_;simp;and_intros<;>(try omega);apply Y;simp only [List.drop];refine aD fun _ Y=>?_;simp;refine cD (eW b _) ?_;apply Y;refine aC 1 fun _ Y=>?_;simp;and_intros<;>(try omega);apply Y;simp only [List.drop];refine aD fun _ Y=>?_;simp;refine cD (eW (iL a * iL b) _) ?_;apply Y;simp;and_intros<;>(try omega);apply Z;apply aF;simp [aR, Kv]
def eY (x0 : Int) : Int := max 0 (iL x0)
theorem lF (x0 : Int) (σ : List (List D))  : Ct Try.prog 77 [.v (.int .i64 x0)] σ (fun r σ' => r = .v (.int .i64 (eY x0)) ∧ σ' = σ) := by
 refine zf (rs:=[.tmp 2]) Try.func77 Try.ntmps77 Try.results77 ?_;simp only [aM];refine bQ fun all K Z=>?_;simp;and_intros<;>(try omega);apply Z;clear Z K all;refine bQ fun all K Z=>?_;refine aC 1 fun K' Y=>?_;simp;and_intros<;>(try omega);apply Y;clear Y K';simp only [List.drop];refine aD fun K' Y=>?_;simp;refine cD (eW x0 _ ) ?_;apply Y;clear Y K';simp;and_intros<;>(try omega);apply Z;clear Z K all;apply aF;first | (simp [aR, eY]; done) | (simp [aR, eY]; done) | (simp [aR]; unfold eY; (repeat' split) <;> first | (exfalso; omega) | (simp_all; done)) | (simp [aR, eY, *]; done) | (simp_all [aR, eY]; done) | (simp_all [aR, eY]; omega) | (simp [aR, eY] <;> split <;> omega)
theorem xU (a : Int) (σ : List (List D))  : Ct Try.prog 33 [D.int a] σ (fun r σ' => r = .int (mY a a) ∧ σ' = σ) := by
 refine zf (rs:=[.tmp 2]) Try.func33 Try.ntmps33 Try.results33 ?_;simp only [aM];refine bQ fun _ _ Z=>?_;simp;and_intros<;>(try omega);apply Z;refine bQ fun _ _ Z=>?_;refine aC 2 fun _ Y=>?_;simp;and_intros<;>(try omega);apply Y;simp only [List.drop];refine aD fun _ Y=>?_;simp;refine cD (kC a a _) ?_;apply Y;simp;and_intros<;>(try omega);apply Z;apply aF;simp [aR]
theorem vY (l : List Int) (σ : List (List D)) (hl : l.length ≤ 1000) : Ct Try.prog 43 [.sl false (l.map D.int)] σ (fun r σ' => r = .int (jM l) ∧ σ' = σ) := by
 refine zf (rs:=[.tmp 2]) Try.func43 Try.ntmps43 Try.results43 ?_;simp only [aM];refine bQ fun _ _ Z=>?_;simp (disch:=omega);and_intros<;>(try omega);apply Z;refine bQ fun _ _ Z=>?_;simp (disch:=omega);and_intros<;>(try omega);apply Z;apply aH;refine bQ fun _ _ Z=>?_;simp (disch:=omega);and_intros<;>(try omega);apply Z;apply aN;refine zk [2,3,6,7,8] ?_;refine cN (fun (k : Nat) => [(8, .d (.v (.int .i64 (k : Int)))), (3, .d (.int (jM (l.take k)))), (5, .d (.any))]) [3, 5, 8, 9, 10, 11, 12, 13, 14, 15] (fun (k : Nat) => k ≤ l.length) (fun (k : Nat) => l.length - k) (0) (by simp <;> rfl) ?_ ?_ ?_
 ·simp [jM]
 ·simp
 rintro k hk;simp only [List.cons_append, List.nil_append];refine bQ fun _ _ Z=>?_;simp (disch:=omega);and_intros<;>(try omega);apply Z;apply aH;refine zi ?_;refine ⟨fun c1=>?_,fun c1=>?_⟩
 ·try simp at c1
  apply aK;apply aE;apply aH;apply aN;refine bQ fun _ _ Z=>?_;simp (disch:=omega);and_intros<;>(try omega);apply Z;refine Mx fun _ _ Z=>?_;refine aC 2 fun _ Y=>?_;simp (disch:=omega);and_intros<;>(try omega);apply Y;simp only [List.drop];refine aD fun _ Y=>?_;simp (disch:=omega);refine cD (kC (jM (l.take k)) l[k] _) ?_;apply Y;simp (disch:=omega);and_intros<;>(try omega);apply Z;apply aZ;apply aE;refine zk [2,3,5,6,7,8] ?_;refine Mx fun _ _ Z=>?_;simp (disch:=omega);and_intros<;>(try omega);apply Z;refine bT (k + 1) ?_ ?_ (bI rfl ?_ (by simp) (by simp))
  ·omega
  ·try dsimp only
   omega
  ·simp (disch:=omega)[Ha]
 ·try simp at c1
  obtain rfl : k = l.length := by omega
  rw [List.take_length];apply bP;apply bN;apply bO;apply bG;apply aE;refine bQ fun _ _ Z=>?_;simp (disch:=omega);and_intros<;>(try omega);apply Z;apply aF;simp [aR]
theorem Hv (a b : Int) (σ : List (List D)) (ha : -2147483648 ≤ a ∧ a ≤ 2147483647) (hb : -2147483648 ≤ b ∧ b ≤ 2147483647) (h0 : ¬ b = 0) : Ct Try.prog 97 [D.int a, D.int b] σ (fun r σ' => r = .tup [.int (Tv a b), .int (Qy a b)] ∧ σ' = σ) := by
 refine zf (rs:=[.tmp 4,.tmp 5]) Try.func97 Try.ntmps97 Try.results97 ?_;simp only [aM];have hq := Ox a b ha;have hr := Nh a b ha;refine bQ fun _ _ Z=>?_;simp;and_intros<;>(try omega);apply Z;refine zd ⟨[],[],[],[],[]⟩ [.op {},.op {},.op {},.op {},.op {},.op {},.op {},.op {}] fun all hall _ Z=>?_;simp;and_intros<;>(try omega);apply Z;apply aH;refine Ms ⟨[],[],[],[],[]⟩ fun all hall _ Z=>?_;have ga2 : bK all 2 = some 16 := hall 2;refine aC 3 fun _ Y=>?_;simp[ga2];and_intros<;>(try omega);apply Y;simp only [List.drop];refine eC 16 (by simp <;> rfl) ?_;refine ⟨fun g1 => ?_, fun g1 => ?_⟩
 ·try simp at g1
  simp[ga2];and_intros<;>(try omega);apply Z;refine zi ?_;refine ⟨fun c2=>?_,fun c2=>?_⟩
  ·try simp at c2
   refine zk [1,4,5,6,7] ?_;refine Mx fun _ _ Z=>?_;simp;and_intros<;>(try omega);apply Z;apply aE;refine zk [4,5,6,7] ?_;refine bQ fun _ _ Z=>?_;simp;and_intros<;>(try omega);apply Z;apply aF;simp [aR, Tv, Qy];omega
  ·try simp at c2
   apply aK;apply aE;refine zk [4,5,6,7] ?_;refine bQ fun _ _ Z=>?_;simp;and_intros<;>(try omega);apply Z;apply aF;simp [aR, Tv, Qy];omega
 ·try simp at g1
  simp[ga2];and_intros<;>(try omega);apply Z;refine fP (t := false) (by simp) (fun h => by cases h) (fun _ => ?_);apply aK;apply aE;refine zk [4,5,6,7] ?_;refine bQ fun _ _ Z=>?_;simp;and_intros<;>(try omega);apply Z;apply aF;simp [aR, Tv, Qy];omega
theorem Om (a b : Int) (σ : List (List D))  : Ct Try.prog 83 [D.int a, D.int b] σ (fun r σ' => r = .int (Nu a b) ∧ σ' = σ) := by
 refine zf (rs:=[.tmp 4]) Try.func83 Try.ntmps83 Try.results83 ?_;simp only [aM];have hA := iS a;have hB := iS b;refine bQ fun _ _ Z=>?_;simp;and_intros<;>(try omega);apply Z;apply aH;refine bQ fun _ _ Z=>?_;simp;and_intros<;>(try omega);apply Z;refine zi ?_;refine ⟨fun c1=>?_,fun c1=>?_⟩
 ·try simp at c1
  refine bQ fun _ _ Z=>?_;simp;and_intros<;>(try omega);apply Z;apply aF;apply bD;simp [aR, Nu, c1]
 ·try simp at c1
  apply aK;apply aE;refine bQ fun _ _ Z=>?_;refine aC 1 fun _ Y=>?_;simp;and_intros<;>(try omega);apply Y;simp only [List.drop];refine aD fun _ Y=>?_;simp;refine cD (eW a _) ?_;apply Y;refine aC 1 fun _ Y=>?_;simp;and_intros<;>(try omega);apply Y;simp only [List.drop];refine aD fun _ Y=>?_;simp;refine cD (eW b _) ?_;apply Y;refine aD fun _ Y=>?_;simp;refine cD (Hv (iL a) (iL b) _ hA hB (Qz c1)) ?_;apply Y;simp;and_intros<;>(try omega);apply Z;refine zk [4,5] ?_;refine bQ fun _ _ Z=>?_;refine aC 1 fun _ Y=>?_;simp;and_intros<;>(try omega);apply Y;simp only [List.drop];refine aD fun _ Y=>?_;simp;refine cD (eW (Tv (iL a) (iL b)) _) ?_;apply Y;simp;and_intros<;>(try omega);apply Z;apply aF;simp [aR, Nu, c1]
end Go.Proofs.Ytighdhfgcdjmeaa
namespace Go.Proofs.Ytighdhfgcdjmeaa
open Go Go.Vm
set_option maxRecDepth 20000
set_option linter.all false
set_option maxHeartbeats 8000000
structure TN where
 ID : Int
 kind : Int
 tag : ByteArray
 text : ByteArray
 classes : (List ByteArray)
 attrs : (List AT)
 styles : (List PI)
 kids : (List TN)
def zS (s : TN) : D := .agg [.v (.int .i64 s.ID), .v (.int .i64 s.kind), .v (.string s.tag), .v (.string s.text), .sl false (s.classes.map D.str), .sl false (s.attrs.map bR), .sl false (s.styles.map bH), .sl false (s.kids.attach.map fun k => zS k.1)]
termination_by SizeOf.sizeOf s
decreasing_by
 have h := List.sizeOf_lt_of_mem k.2;cases s; simp at h ⊢; omega
@[simp] abbrev fE (s : TN) : D := .agg [.v (.int .i64 s.ID), .v (.int .i64 s.kind), .v (.string s.tag), .v (.string s.text), .sl false (s.classes.map D.str), .sl false (s.attrs.map bR), .sl false (s.styles.map bH), .sl false (s.kids.map zS)]
@[simp] abbrev aC8 (s : TN) : D := .agg [.v (.int .i64 s.ID), .v (.int .i64 s.kind), .v (.string s.tag), .v (.string s.text), .sl true (s.classes.map D.str), .sl true (s.attrs.map bR), .sl true (s.styles.map bH), .sl true (s.kids.map zS)]
@[simp] theorem Nm (s : TN) : zS s = fE s := by rw [zS]; simp
abbrev SO (t : TN) : Prop := t.styles.length ≤ 99999 ∧ Sorted nP t.styles
def gF (t : TN) (c : ByteArray) : Int := max 0 (iL (iG t.styles c))
abbrev kW : ByteArray := ⟨#[119]⟩
abbrev kH : ByteArray := ⟨#[104]⟩
abbrev dO : ByteArray := ⟨#[112, 97, 100]⟩
abbrev mM : ByteArray := ⟨#[103, 97, 112]⟩
abbrev lL : ByteArray := ⟨#[99, 111, 108, 115]⟩
abbrev tP : ByteArray := ⟨#[102, 108, 111, 119]⟩
def Qv (t : TN) (c : ByteArray) : Bool := kL nP t.styles c
def iW (t : TN) (g : Int) : Int := if Qv t kW = true then gF t kW else max 0 (iL g)
def cB (t : TN) (g : Int) : Int := max 0 (Bm (Bm (iW t g) (gF t dO)) (gF t dO))
def rF (t : TN) : Int := if iG t.styles tP = 1 ∨ iG t.styles tP = 2 then iG t.styles tP else 0
def kG (t : TN) : Int := gZ (gF t lL) 1 64
def yM (t : TN) (w : Int) : Int := max 0 (Nu (Bm w (Kv (kG t - 1) (gF t mM))) (kG t))
theorem Je (t : TN) : 1 ≤ kG t ∧ kG t ≤ 64 := by unfold kG gZ; omega
theorem nF (t : TN) (c : ByteArray) (σ : List (List D)) (h : SO t) : Ct Try.prog 29 [fE t, D.str c] σ (fun r σ' => r = .tup [.int (gF t c), .bool (Qv t c)] ∧ σ' = σ) := by
 refine zf (rs:=[.tmp 4,.tmp 5]) Try.func29 Try.ntmps29 Try.results29 ?_;simp only [aM];have h1 := h.1;refine bQ fun _ _ Z=>?_;simp;and_intros<;>(try omega);apply Z;refine bQ fun _ _ Z=>?_;refine aC 3 fun _ Y=>?_;simp;and_intros<;>(try omega);apply Y;simp only [List.drop];refine aD fun _ Y=>?_;simp;refine cD (Dk t.styles c _ (by omega) h.2) ?_;apply Y;simp;and_intros<;>(try omega);apply Z;refine zk [4,5,6,7] ?_;refine bQ fun _ _ Z=>?_;refine aC 1 fun _ Y=>?_;simp;and_intros<;>(try omega);apply Y;simp only [List.drop];refine aD fun _ Y=>?_;simp;refine cD (eW (iG t.styles c) _) ?_;apply Y;simp;and_intros<;>(try omega);apply Z;apply aF;simp [aR, gF, Qv]
theorem mP (t : TN) (c : ByteArray) (σ : List (List D)) (h : SO t) : Ct Try.prog 34 [fE t, D.str c] σ (fun r σ' => r = .int (gF t c) ∧ σ' = σ) := by
 refine zf (rs:=[.tmp 4]) Try.func34 Try.ntmps34 Try.results34 ?_;simp only [aM];refine bQ fun _ _ Z=>?_;simp;and_intros<;>(try omega);apply Z;refine bQ fun _ _ Z=>?_;refine aC 2 fun _ Y=>?_;simp;and_intros<;>(try omega);apply Y;simp only [List.drop];refine aD fun _ Y=>?_;simp;refine cD (nF t c _ h) ?_;apply Y;simp;and_intros<;>(try omega);apply Z;refine bQ fun _ _ Z=>?_;simp;and_intros<;>(try omega);apply Z;apply aF;simp [aR]
theorem rM (t : TN) (g : Int) (σ : List (List D)) (h : SO t) : Ct Try.prog 35 [fE t, D.int g] σ (fun r σ' => r = .int (iW t g) ∧ σ' = σ) := by
 refine zf (rs:=[.tmp 4]) Try.func35 Try.ntmps35 Try.results35 ?_;simp only [aM];refine bQ fun _ _ Z=>?_;simp;and_intros<;>(try omega);apply Z;apply aH;refine bQ fun _ _ Z=>?_;refine aC 1 fun _ Y=>?_;simp;and_intros<;>(try omega);apply Y;simp only [List.drop];refine aD fun _ Y=>?_;simp;refine cD (nF t kW _ h) ?_;apply Y;simp;and_intros<;>(try omega);apply Z;refine bQ fun _ _ Z=>?_;simp;and_intros<;>(try omega);apply Z;refine zi ?_;refine ⟨fun c1=>?_,fun c1=>?_⟩
 ·try simp at c1
  refine bQ fun _ _ Z=>?_;simp;and_intros<;>(try omega);apply Z;apply aF;apply bD;simp [aR, iW, c1]
 ·try simp at c1
  apply aK;apply aE;refine bQ fun _ _ Z=>?_;refine aC 1 fun _ Y=>?_;simp;and_intros<;>(try omega);apply Y;simp only [List.drop];refine aD fun _ Y=>?_;simp;refine cD (eW g _) ?_;apply Y;simp;and_intros<;>(try omega);apply Z;apply aF;simp [aR, iW, c1]
theorem tD (t : TN) (g : Int) (σ : List (List D)) (h : SO t) : Ct Try.prog 31 [fE t, D.int g] σ (fun r σ' => r = .int (cB t g) ∧ σ' = σ) := by
 refine zf (rs:=[.tmp 4]) Try.func31 Try.ntmps31 Try.results31 ?_;simp only [aM];refine bQ fun _ _ Z=>?_;simp;and_intros<;>(try omega);apply Z;refine bQ fun _ _ Z=>?_;refine aC 1 fun _ Y=>?_;simp;and_intros<;>(try omega);apply Y;simp only [List.drop];refine aD fun _ Y=>?_;simp;refine cD (mP t dO _ h) ?_;apply Y;simp;and_intros<;>(try omega);apply Z;refine bQ fun _ _ Z=>?_;refine aC 2 fun _ Y=>?_;simp;and_intros<;>(try omega);apply Y;simp only [List.drop];refine aD fun _ Y=>?_;simp;refine cD (rM t g _ h) ?_;apply Y;refine aC 1 fun _ Y=>?_;simp;and_intros<;>(try omega);apply Y;simp only [List.drop];refine aD fun _ Y=>?_;simp;refine cD (wG (iW t g) (gF t dO) _) ?_;apply Y;refine aC 1 fun _ Y=>?_;simp;and_intros<;>(try omega);apply Y;simp only [List.drop];refine aD fun _ Y=>?_;simp;refine cD (wG (Bm (iW t g) (gF t dO)) (gF t dO) _) ?_;apply Y;simp;and_intros<;>(try omega);apply Z;apply aF;simp [aR, cB]
theorem Mi (t : TN) (σ : List (List D)) (h : SO t) : Ct Try.prog 56 [fE t] σ (fun r σ' => r = .int (rF t) ∧ σ' = σ) := by
 refine zf (rs:=[.tmp 2]) Try.func56 Try.ntmps56 Try.results56 ?_;simp only [aM];have h1 := h.1;refine bQ fun _ _ Z=>?_;simp;and_intros<;>(try omega);apply Z;apply aH;refine bQ fun _ _ Z=>?_;refine aC 2 fun _ Y=>?_;simp;and_intros<;>(try omega);apply Y;simp only [List.drop];refine aD fun _ Y=>?_;simp;refine cD (Dk t.styles tP _ (by omega) h.2) ?_;apply Y;simp;and_intros<;>(try omega);apply Z;refine bQ fun _ _ Z=>?_;simp;and_intros<;>(try omega);apply Z;apply aN;apply aH;refine bQ fun _ _ Z=>?_;simp;and_intros<;>(try omega);apply Z;refine zi ?_;refine ⟨fun c1=>?_,fun c1=>?_⟩
 ·try simp at c1
  apply aK;apply aE;refine fP (t := true) (by simp) (fun _ => ?_) (fun h => by cases h);refine zk [2,3] ?_;refine bQ fun _ _ Z=>?_;simp;and_intros<;>(try omega);apply Z;apply aF;apply eE;apply bD;simp [aR, rF, *]
 ·try simp at c1
  refine zk [2,3,11,12] ?_;refine Mx fun _ _ Z=>?_;simp;and_intros<;>(try omega);apply Z;apply aE;refine zi ?_;refine ⟨fun c2=>?_,fun c2=>?_⟩
  ·try simp at c2
   refine bQ fun _ _ Z=>?_;simp;and_intros<;>(try omega);apply Z;apply aF;apply eE;apply bD;simp [aR, rF, *]
  ·try simp at c2
   apply aK;apply aZ;apply aE;refine bQ fun _ _ Z=>?_;simp;and_intros<;>(try omega);apply Z;apply aF;simp [aR, rF, *]
theorem tH (t : TN) (w : Int) (σ : List (List D)) (h : SO t) : Ct Try.prog 58 [fE t, D.int w] σ (fun r σ' => r = .tup [.int (kG t), .int (yM t w)] ∧ σ' = σ) := by
 refine zf (rs:=[.tmp 4,.tmp 5]) Try.func58 Try.ntmps58 Try.results58 ?_;simp only [aM];have hc : 1 ≤ gZ (gF t lL) 1 64 ∧ gZ (gF t lL) 1 64 ≤ 64 := Je t;refine bQ fun _ _ Z=>?_;simp;and_intros<;>(try omega);apply Z;refine bQ fun _ _ Z=>?_;refine aC 1 fun _ Y=>?_;simp;and_intros<;>(try omega);apply Y;simp only [List.drop];refine aD fun _ Y=>?_;simp;refine cD (mP t lL _ h) ?_;apply Y;refine aD fun _ Y=>?_;simp;refine cD (Dg (gF t lL) 1 64 _) ?_;apply Y;simp;and_intros<;>(try omega);apply Z;refine bQ fun _ _ Z=>?_;refine aC 4 fun _ Y=>?_;simp;and_intros<;>(try omega);apply Y;simp only [List.drop];refine aD fun _ Y=>?_;simp;refine cD (mP t mM _ h) ?_;apply Y;refine aD fun _ Y=>?_;simp;refine cD (Oc (gZ (gF t lL) 1 64 - 1) (gF t mM) _) ?_;apply Y;refine aD fun _ Y=>?_;simp;refine cD (wG w (Kv (gZ (gF t lL) 1 64 - 1) (gF t mM)) _) ?_;apply Y;simp;and_intros<;>(try omega);apply Z;refine zk [4,5,6] ?_;refine bQ fun _ _ Z=>?_;refine aC 3 fun _ Y=>?_;simp;and_intros<;>(try omega);apply Y;simp only [List.drop];refine aD fun _ Y=>?_;simp;refine cD (Om (Bm w (Kv (gZ (gF t lL) 1 64 - 1) (gF t mM))) (gZ (gF t lL) 1 64) _) ?_;apply Y;simp;and_intros<;>(try omega);apply Z;apply aF;simp [aR, yM, kG]
end Go.Proofs.Ytighdhfgcdjmeaa

