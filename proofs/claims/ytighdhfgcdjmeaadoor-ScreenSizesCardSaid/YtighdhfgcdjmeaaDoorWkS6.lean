import Derived.Test.YtighdhfgcdjmeaaDoorWkS2
namespace Go.Proofs.YtighdhfgcdjmeaaDoor
open Go Go.Vm
set_option maxRecDepth 20000
set_option linter.all false
set_option maxHeartbeats 8000000
def qM (base w H : Nat) : List D := (List.range H).map fun y => .slo (base + y) 0 w w
@[simp] theorem Sn (base w H : Nat) : (qM base w H).length = H := by simp [qM]
@[simp] theorem Sp (base w H y : Nat) (h : y < H) : (qM base w H)[y]? = some (.slo (base + y) 0 w w) := by simp [qM, h]
def dF (σ : List (List D)) (m : Nat) : List D := (σ[m]?).getD []
abbrev eX (σ : List (List D)) (base w H : Nat) : Prop := ∀ j, j < H → σ[base + j]? = some (dF σ (base + j)) ∧ w ≤ (dF σ (base + j)).length
def mN (σ : List (List D)) (base w H : Nat) (x y : Int) (b : Nat) : List (List D) := if 0 ≤ y ∧ y < H ∧ 0 ≤ x ∧ x < w then σ.set (base + y.toNat) ((dF σ (base + y.toNat)).set x.toNat (.v (.int .u8 b))) else σ
theorem wM (base w H : Nat) (x y : Int) (b : Nat) (σ : List (List D)) (hb : b ≤ 255) (hH : H ≤ 100) (hw : w ≤ 200) (hr : eX σ base w H) : Ct Tryd.prog 62 [.sl false (qM base w H), D.int x, D.int y, .v (.int .u8 b)] σ (fun r σ' => r = .tup [] ∧ σ' = mN σ base w H x y b) := by
 refine zf (rs:=[]) Tryd.func62 Tryd.ntmps62 Tryd.results62 ?_;simp only [aU];have hq1 : ∀ j, j < H → σ[base + j]? = some (dF σ (base + j)) := fun j h => (hr j h).1;have hq2 : ∀ j, j < H → w ≤ (dF σ (base + j)).length := fun j h => (hr j h).2;refine Cu ⟨[],[],[],[26,35],[]⟩ fun all hall _ Z=>?_;have ga2 : aY all 2 = some 10 := hall 2;have ga8 : aY all 8 = some 16 := hall 8;have ga12 : aY all 12 = some 20 := hall 12;refine aC 3 fun _ Y=>?_;simp (disch:=omega)[hq1,hq2,ga2,ga8,ga12];and_intros<;>(try omega);apply Y;simp only [List.drop];refine cC 10 (by simp <;> rfl) ?_;refine ⟨fun g1 => ?_, fun g1 => ?_⟩
 ·try simp at g1
  obtain ⟨j, rfl⟩ := Int.eq_ofNat_of_zero_le g1;refine aC 6 fun _ Y=>?_;simp (disch:=omega)[hq1,hq2,ga2,ga8,ga12];and_intros<;>(try omega);apply Y;simp only [List.drop];refine cC 16 (by simp <;> rfl) ?_;refine ⟨fun g2 => ?_, fun g2 => ?_⟩
  ·try simp at g2
   have hj : j < H := by omega
   have hj2 := hq2 j hj;refine aC 4 fun _ Y=>?_;simp (disch:=omega)[hq1,hq2,ga2,ga8,ga12];and_intros<;>(try omega);apply Y;simp only [List.drop];refine cC 20 (by simp <;> rfl) ?_;refine ⟨fun g3 => ?_, fun g3 => ?_⟩
   ·try simp at g3
    obtain ⟨i, rfl⟩ := Int.eq_ofNat_of_zero_le g3;simp (disch:=omega)[hq1,hq2,ga2,ga8,ga12];and_intros<;>(try omega);apply Z;refine zi ?_;refine ⟨fun c4=>?_,fun c4=>?_⟩
    ·try simp at c4
     refine zk [0,1,2,3] ?_;refine zt ⟨[],[],[],[26,35],[]⟩ fun _ _ Z=>?_;simp (disch:=omega)[hq1,hq2];and_intros<;>(try omega);apply Z;simp [bB];unfold mN;rw [if_pos (by omega)];simp;rw [List.set_eq_take_append_cons_drop (l := dF σ (base + j)), if_pos (by have := hq2 j hj; omega)]
    ·try simp at c4
     apply aJ;simp [bB];unfold mN;rw [if_neg (by omega)]
   ·try simp at g3
    simp (disch:=omega)[hq1,hq2,ga2,ga8,ga12];and_intros<;>(try omega);apply Z;refine dR (t := false) (by simp) (fun h => by cases h) (fun _ => ?_);apply aJ;simp [bB];unfold mN;rw [if_neg (by omega)]
  ·try simp at g2
   refine aC 4 fun _ Y=>?_;simp (disch:=omega)[hq1,hq2,ga2,ga8,ga12];and_intros<;>(try omega);apply Y;simp only [List.drop];simp (disch:=omega)[hq1,hq2,ga2,ga8,ga12];and_intros<;>(try omega);apply Z;refine dR (t := false) (by simp) (fun h => by cases h) (fun _ => ?_);apply aJ;simp [bB];unfold mN;rw [if_neg (by omega)]
 ·try simp at g1
  refine aC 6 fun _ Y=>?_;simp (disch:=omega)[hq1,hq2,ga2,ga8,ga12];and_intros<;>(try omega);apply Y;simp only [List.drop];refine aC 4 fun _ Y=>?_;simp (disch:=omega)[hq1,hq2,ga2,ga8,ga12];and_intros<;>(try omega);apply Y;simp only [List.drop];simp (disch:=omega)[hq1,hq2,ga2,ga8,ga12];and_intros<;>(try omega);apply Z;refine dR (t := false) (by simp) (fun h => by cases h) (fun _ => ?_);apply aJ;simp [bB];unfold mN;rw [if_neg (by omega)]
theorem Ci {σ : List (List D)} {base w H : Nat} (h : eX σ base w H) (x y : Int) (b : Nat) : eX (mN σ base w H x y b) base w H := fun j hj => by
 obtain ⟨h1, h2⟩ := h j hj;unfold mN;split
 ·rename_i hc;have hlt : base + j < σ.length := (List.getElem?_eq_some_iff.1 h1).1;by_cases e : base + y.toNat = base + j
  ·have hr : (σ.set (base + y.toNat) ((dF σ (base + y.toNat)).set x.toNat (.v (.int .u8 b))))[base + j]? = some ((dF σ (base + j)).set x.toNat (.v (.int .u8 b))) := by
    rw [e, List.getElem?_set_self hlt]
   have hr2 : dF (σ.set (base + y.toNat) ((dF σ (base + y.toNat)).set x.toNat (.v (.int .u8 b)))) (base + j) = (dF σ (base + j)).set x.toNat (.v (.int .u8 b)) := by unfold dF at hr ⊢; rw [hr]; rfl
   exact ⟨by rw [hr, hr2], by rw [hr2, List.length_set]; exact h2⟩
  ·have hr : (σ.set (base + y.toNat) ((dF σ (base + y.toNat)).set x.toNat (.v (.int .u8 b))))[base + j]? = σ[base + j]? := List.getElem?_set_ne e;have hr2 : dF (σ.set (base + y.toNat) ((dF σ (base + y.toNat)).set x.toNat (.v (.int .u8 b)))) (base + j) = dF σ (base + j) := by unfold dF at hr ⊢; rw [hr]
   exact ⟨by rw [hr, hr2]; exact h1, by rw [hr2]; exact h2⟩
 ·exact ⟨h1, h2⟩
def jL (base w H : Nat) (q : RC) (s : ByteArray) (σ : List (List D)) : Nat → List (List D)
 | 0 => σ
 | k + 1 => mN (jL base w H q s σ k) base w H (nT q.x k) q.y (jK s k)
theorem kZ {σ : List (List D)} {base w H : Nat} (h : eX σ base w H) (q : RC) (s : ByteArray) : ∀ k, eX (jL base w H q s σ k) base w H
 | 0 => h
 | k + 1 => Ci (kZ h q s k) _ _ _
theorem tH (s : ByteArray) (k : Nat) : jK s k ≤ 255 := by unfold jK; have := (s.data[k]?.getD 0).toNat_lt; omega
def iK (base w H : Nat) (q : RC) (b : Nat) (y : Nat) (σ : List (List D)) : Nat → List (List D)
 | 0 => σ
 | k + 1 => if qA q k y = true then mN (iK base w H q b y σ k) base w H k y b else iK base w H q b y σ k
theorem kF {σ : List (List D)} {base w H : Nat} (h : eX σ base w H) (q : RC) (b y : Nat) : ∀ k, eX (iK base w H q b y σ k) base w H
 | 0 => h
 | k + 1 => by
  simp only [iK];split
  ·exact Ci (kF h q b y k) _ _ _
  ·exact kF h q b y k
def jO (base w H : Nat) (q : RC) (b : Nat) (σ : List (List D)) : Nat → List (List D)
 | 0 => σ
 | k + 1 => iK base w H q b k (jO base w H q b σ k) w
theorem kL {σ : List (List D)} {base w H : Nat} (h : eX σ base w H) (q : RC) (b : Nat) : ∀ k, eX (jO base w H q b σ k) base w H
 | 0 => h
 | k + 1 => kF (kL h q b k) q b k w
end Go.Proofs.YtighdhfgcdjmeaaDoor
namespace Go.Proofs.YtighdhfgcdjmeaaDoor
open Go Go.Vm
set_option maxRecDepth 20000
set_option linter.all false
set_option maxHeartbeats 8000000
theorem Fe (base w H : Nat) (q : RC) (b : Nat) (σ : List (List D)) (hb : b ≤ 255) (hH : H ≤ 100) (hw : w ≤ 200) (hr : eX σ base w H) : Ct Tryd.prog 44 [.sl false (qM base w H), Cw q, .v (.int .u8 b)] σ (fun r σ' => r = .tup [] ∧ σ' = jO base w H q b σ H) := by
 refine zf (rs:=[]) Tryd.func44 Tryd.ntmps44 Tryd.results44 ?_;simp only [aU];refine zr ⟨[],[],[],[17],[]⟩ fun _ _ Z=>?_;simp (disch:=omega);and_intros<;>(try omega);apply Z;refine zr ⟨[],[],[],[17],[]⟩ fun _ _ Z=>?_;simp (disch:=omega);and_intros<;>(try omega);apply Z;apply aN;refine zk [0,2,4,9,10] ?_;refine gB (fun (k : Nat) => [(10, .d (.v (.int .i64 (k : Int)))), (6, .d (.any)), (7, .d (.any))]) (fun (k : Nat) => [[D.int q.x, D.int q.y, D.int q.w, D.int q.h]]) (fun (k : Nat) => jO base w H q b σ k) [6, 7, 10, 11, 12, 13, 14, 15, 16, 17, 18, 19, 20, 21, 22, 23, 24, 25, 26, 27, 28, 29, 30, 31] (fun (k : Nat) => k ≤ H) (fun (k : Nat) => H - k) (0) (by simp <;> rfl) ?_ (by simp) rfl ?_ ?_
 ·simp [jO]
 ·simp
 rintro k hk;simp only [List.cons_append, List.nil_append];have hq1 : ∀ j, j < H → (jO base w H q b σ k)[base + j]? = some (dF (jO base w H q b σ k) (base + j)) := fun j h => (kL hr q b k j h).1;refine zr ⟨[],[],[],[17],[]⟩ fun _ _ Z=>?_;simp (disch:=omega);and_intros<;>(try omega);apply Z;apply aE;refine zi ?_;refine ⟨fun c1=>?_,fun c1=>?_⟩
 ·try simp at c1
  apply aJ;apply aD;apply aE;apply aN;refine zr ⟨[],[],[],[17],[]⟩ fun _ _ Z=>?_;simp (disch:=omega);and_intros<;>(try omega);apply Z;refine zr ⟨[],[],[],[17],[]⟩ fun _ _ Z=>?_;simp (disch:=omega);and_intros<;>(try omega);apply Z;apply aN;refine zk [0,2,4,6,7,9,10,17,18] ?_;refine gB (fun (m : Nat) => [(18, .d (.v (.int .i64 (m : Int)))), (7, .d (.any))]) (fun (m : Nat) => [[D.int q.x, D.int q.y, D.int q.w, D.int q.h]]) (fun (m : Nat) => iK base w H q b k (jO base w H q b σ k) m) [7, 18, 19, 20, 21, 22, 23, 24, 25, 26, 27, 28, 29, 30] (fun (m : Nat) => m ≤ w) (fun (m : Nat) => w - m) (0) (by simp <;> rfl) ?_ (by simp) rfl ?_ ?_
  ·simp [iK]
  ·simp
  rintro m hm;simp only [List.cons_append, List.nil_append];refine zr ⟨[],[],[],[17],[]⟩ fun _ _ Z=>?_;simp (disch:=omega);and_intros<;>(try omega);apply Z;apply aE;refine zi ?_;refine ⟨fun c2=>?_,fun c2=>?_⟩
  ·try simp at c2
   apply aJ;apply aD;apply aE;apply aN;refine zr ⟨[],[],[],[17],[]⟩ fun _ _ Z=>?_;simp (disch:=omega);and_intros<;>(try omega);apply Z;refine zk [0,2,4,6,7,9,10,17,18] ?_;refine zr ⟨[],[],[],[17],[]⟩ fun _ _ Z=>?_;refine aC 3 fun _ Y=>?_;simp (disch:=omega);and_intros<;>(try omega);apply Y;simp only [List.drop];refine aI fun _ Y=>?_;simp (disch:=omega);refine eV (Bm q m k _) ?_;apply Y;simp only [iS];apply Z;refine zi ?_;refine ⟨fun c3=>?_,fun c3=>?_⟩
   ·try simp at c3
    refine zk [0,2,4,6,7,9,10,17,18] ?_;refine zt ⟨[],[],[],[17],[]⟩ fun _ _ Z=>?_;refine aC 4 fun _ Y=>?_;simp (disch:=omega);and_intros<;>(try omega);apply Y;simp only [List.drop];refine aI fun _ Y=>?_;simp (disch:=omega);refine eV (wM base w H m k b _ hb hH hw (kF (kL hr q b k) q b k m)) ?_;apply Y;simp only [iS];apply Z;apply aX;apply aD;refine zk [0,2,4,6,7,9,10,17,18] ?_;refine zt ⟨[],[],[],[17],[]⟩ fun _ _ Z=>?_;simp (disch:=omega);and_intros<;>(try omega);apply Z;refine bW (m + 1) ?_ ?_ (bK rfl ?_ (by simp) (by simp [iK, *]))
    ·omega
    ·try dsimp only
     omega
    ·simp (disch:=omega)
   ·try simp at c3
    apply aJ;apply aX;apply aD;refine zk [0,2,4,6,7,9,10,17,18] ?_;refine zt ⟨[],[],[],[17],[]⟩ fun _ _ Z=>?_;simp (disch:=omega);and_intros<;>(try omega);apply Z;refine bW (m + 1) ?_ ?_ (bK rfl ?_ (by simp) (by simp [iK, *]))
    ·omega
    ·try dsimp only
     omega
    ·simp (disch:=omega)
  ·try simp at c2
   obtain rfl : m = w := by omega
   apply bM;apply bO;apply bP;apply bE;apply aX;apply aD;refine zt ⟨[],[],[],[17],[]⟩ fun _ _ Z=>?_;simp (disch:=omega);and_intros<;>(try omega);apply Z;refine bW (k + 1) ?_ ?_ (bK rfl ?_ (by simp) (by simp [jO]))
   ·omega
   ·try dsimp only
    omega
   ·simp (disch:=omega)
 ·try simp at c1
  obtain rfl : k = H := by omega
  apply bM;apply bO;apply bP;apply bE;simp [bB]
theorem Ak (base w H : Nat) (q : RC) (s : ByteArray) (σ : List (List D)) (hs : s.size ≤ 1000000) (hH : H ≤ 100) (hw : w ≤ 200) (hr : eX σ base w H) : Ct Tryd.prog 43 [.sl false (qM base w H), Cw q, D.str s] σ (fun r σ' => r = .tup [] ∧ σ' = if q.x > 200 ∨ q.y < 0 ∨ (H : Int) ≤ q.y then σ else jL base w H q s σ s.size) := by
 refine zf (rs:=[]) Tryd.func43 Tryd.ntmps43 Tryd.results43 ?_;simp only [aU];refine cH fun _ _ Z=>?_;simp (disch:=omega);and_intros<;>(try omega);apply Z;apply aE;refine Cu ⟨[],[],[],[],[]⟩ fun all hall _ Z=>?_;have ga3 : aY all 3 = some 10 := hall 3;have ga8 : aY all 8 = some 15 := hall 8;refine aC 4 fun _ Y=>?_;simp (disch:=omega)[ga3,ga8];and_intros<;>(try omega);apply Y;simp only [List.drop];refine cC 10 (by simp <;> rfl) ?_;refine ⟨fun g1 => ?_, fun g1 => ?_⟩
 ·try simp at g1
  refine aC 5 fun _ Y=>?_;simp (disch:=omega)[ga3,ga8];and_intros<;>(try omega);apply Y;simp only [List.drop];simp (disch:=omega)[ga3,ga8];and_intros<;>(try omega);apply Z;refine dR (t := true) (by simp) (fun _ => ?_) (fun h => by cases h);apply aH;apply bJ;simp [bB];first | (intros; omega) | (rw [if_neg (by omega)]; done) | skip
 ·try simp at g1
  refine aC 5 fun _ Y=>?_;simp (disch:=omega)[ga3,ga8];and_intros<;>(try omega);apply Y;simp only [List.drop];refine cC 15 (by simp <;> rfl) ?_;refine ⟨fun g2 => ?_, fun g2 => ?_⟩
  ·try simp at g2
   simp (disch:=omega)[ga3,ga8];and_intros<;>(try omega);apply Z;refine dR (t := true) (by simp) (fun _ => ?_) (fun h => by cases h);apply aH;apply bJ;simp [bB];first | (intros; omega) | (rw [if_neg (by omega)]; done) | skip
  ·try simp at g2
   simp (disch:=omega)[ga3,ga8];and_intros<;>(try omega);apply Z;refine zi ?_;refine ⟨fun c3=>?_,fun c3=>?_⟩
   ·try simp at c3
    apply aH;apply bJ;simp [bB];first | (intros; omega) | (rw [if_neg (by omega)]; done) | skip
   ·try simp at c3
    apply aJ;apply aD;refine zk [0,2,4] ?_;refine cH fun _ _ Z=>?_;simp (disch:=omega);and_intros<;>(try omega);apply Z;apply aN;refine zk [0,2,4,23,24] ?_;refine gB (fun (k : Nat) => [(24, .d (.v (.int .i64 (k : Int)))), (6, .d (.any))]) (fun (k : Nat) => [[D.int q.x, D.int q.y, D.int q.w, D.int q.h]]) (fun (k : Nat) => jL base w H q s σ k) [6, 24, 25, 26, 27, 28, 29, 30, 31, 32, 33, 34, 35, 36, 37, 38] (fun (k : Nat) => k ≤ s.size) (fun (k : Nat) => s.size - k) (0) (by simp <;> rfl) ?_ (by simp) rfl ?_ ?_
    ·simp [jL]
    ·simp
    rintro k hk;simp only [List.cons_append, List.nil_append];refine cH fun _ _ Z=>?_;simp (disch:=omega);and_intros<;>(try omega);apply Z;apply aE;refine zi ?_;refine ⟨fun c4=>?_,fun c4=>?_⟩
    ·try simp at c4
     apply aJ;apply aD;apply aE;apply aN;refine cH fun _ _ Z=>?_;simp (disch:=omega);and_intros<;>(try omega);apply Z;refine ze ⟨[],[],[],[],[]⟩ [.op {},.op {},.op {rL:=true},.op {},.pure,.op {},.op {rL:=true},.op {},.op {},.op {},.det] fun all hall _ Z=>?_;refine bL 4 (by simp) fun _ Y=>?_;simp (disch:=omega);and_intros<;>(try omega);apply Y;simp only [List.drop];refine cZ fun _ Y=>?_;simp (disch:=omega);refine Gl (fun _ => (vW q.x k _)) ?_;apply Y;refine bL 5 (by simp) fun _ Y=>?_;simp (disch:=omega);and_intros<;>(try omega);apply Y;simp only [List.drop];refine cZ fun _ Y=>?_;simp (disch:=omega);refine Zh (wM base w H (nT q.x k) q.y (jK s k) _ (tH s k) hH hw (kZ hr q s k)) ?_;apply Y;simp only [mU];apply Z;apply aX;apply aD;refine zk [0,2,4,6,23,24] ?_;refine Nc fun _ _ Z=>?_;simp (disch:=omega);and_intros<;>(try omega);apply Z;refine bW (k + 1) ?_ ?_ (bK rfl ?_ (by simp) (by simp [jL, jK]))
     ·omega
     ·try dsimp only
      omega
     ·simp (disch:=omega)
    ·try simp at c4
     obtain rfl : k = s.size := by omega
     apply bM;apply bO;apply bP;apply bE;simp [bB];first | (intros; omega) | (rw [if_neg (by omega)]; done) | skip
end Go.Proofs.YtighdhfgcdjmeaaDoor
namespace Go.Proofs.YtighdhfgcdjmeaaDoor
open Go Go.Vm
set_option maxRecDepth 20000
set_option linter.all false
set_option maxHeartbeats 8000000
def dX (l : List EN) (c : Int) : RC := if SI.fnd nE l c = true then ((l[SI.posL nE l c]?).map EN.rect).getD ⟨0, 0, 0, 0⟩ else ⟨0, 0, 0, 0⟩
theorem wF (l : List EN) (c : Int) (σ : List (List D)) (hl : l.length ≤ 999999) (hs : SI.Sorted nE l) : Ct Tryd.prog 41 [.sl false (l.map cL), D.int c] σ (fun r σ' => r = .tup [Cw (dX l c), .bool (SI.fnd nE l c)] ∧ σ' = σ) := by
 cases hf : SI.fnd nE l c with
 | true =>
  have hlt := SI.fnd_lt nE hf;have hr : dX l c = (l[SI.posL nE l c]).rect := by unfold dX; rw [if_pos hf, List.getElem?_eq_getElem hlt]; rfl
  have h := Nm l c (l[SI.posL nE l c]) σ hl hs (List.getElem?_eq_getElem hlt) hf;rw [hr];exact h
 | false =>
  have hr : dX l c = ⟨0, 0, 0, 0⟩ := by unfold dX; rw [if_neg (by rw [hf]; decide)]
  rw [hr];refine (yO l c σ hl hs).trim fun r σ' ⟨_, hr2, J, hs'⟩ => ?_;have hr3 := hr2 hf;have hsc : Sc σ.length r := by
   rw [hr3];exact Sc.tup fun d hd => by
    simp at hd;rcases hd with rfl | rfl
    ·exact Sc.agg fun e he => by simp at he; rw [he]; exact Sc.v _
    ·exact Sc.v _
  exact ⟨σ, J, hs', rfl, hsc, fun n cs h => .inl h, hr3, rfl⟩
abbrev Nt : ByteArray := ⟨#[116, 45, 119, 97, 105, 116]⟩
abbrev rR : ByteArray := ⟨#[105, 110, 107]⟩
def lG (t : TN) : Bool := decide (¬ t.kind = 1) && wV Nt t.classes
def lO (t : TN) : Int := mO t.styles rR
def fN (base w H : Nat) (t : TN) (l : List EN) (σ : List (List D)) : List (List D) :=
 if lG t = true then σ else if SI.fnd nE l t.ID = false then σ else
 if t.kind = 1 then (if (dX l t.ID).x > 200 ∨ (dX l t.ID).y < 0 ∨ (H : Int) ≤ (dX l t.ID).y then σ else jL base w H (dX l t.ID) t.text σ t.text.size)
 else if 33 ≤ lO t ∧ lO t ≤ 126 then jO base w H (dX l t.ID) (lO t).toNat σ H else σ
theorem Fg (base w H : Nat) (t : TN) (l : List EN) (σ : List (List D)) (h : SO t) (hc : t.classes.length ≤ 1000000) (htx : t.text.size ≤ 1000000) (hl : l.length ≤ 999999) (hs : SI.Sorted nE l) (hH : H ≤ 100) (hw : w ≤ 200) (hr : eX σ base w H) : Ct Tryd.prog 25 [.sl false (qM base w H), oO t, .sl false (l.map cL)] σ (fun r σ' => r = .bool (!lG t) ∧ σ' = fN base w H t l σ) := by
 refine zf (rs:=[.tmp 6]) Tryd.func25 Tryd.ntmps25 Tryd.results25 ?_;simp only [aU];refine cH fun _ _ Z=>?_;simp (disch:=omega);and_intros<;>(try omega);apply Z;apply aE;refine Cu ⟨[],[],[],[],[]⟩ fun all hall _ Z=>?_;have ga3 : aY all 3 = some 13 := hall 3;refine aC 4 fun _ Y=>?_;simp (disch:=omega)[ga3];and_intros<;>(try omega);apply Y;simp only [List.drop];refine cC 13 (by simp <;> rfl) ?_;refine ⟨fun g1 => ?_, fun g1 => ?_⟩
 ·try simp at g1
  refine aC 2 fun _ Y=>?_;simp (disch:=omega)[ga3];and_intros<;>(try omega);apply Y;simp only [List.drop];refine zg ga3 fun _ Y=>?_;simp (disch:=omega)[ga3];refine eV (Ly t.classes Nt _ (by omega)) ?_;apply Y;simp (disch:=omega)[ga3];and_intros<;>(try omega);apply Z;refine zi ?_;refine ⟨fun c2=>?_,fun c2=>?_⟩
  ·try simp at c2
   refine cH fun _ _ Z=>?_;simp (disch:=omega);and_intros<;>(try omega);apply Z;apply aH;apply bJ;simp [bB, lG, fN, lO, *];try (first | (intro hh; exact absurd (hh (by omega)) (by omega)) | (intros; omega) | exact (if_neg (fun hh => by omega)).symm | exact if_neg (fun hh => by omega))
  ·try simp at c2
   apply aJ;apply aD;refine cH fun _ _ Z=>?_;refine aC 3 fun _ Y=>?_;simp (disch:=omega);and_intros<;>(try omega);apply Y;simp only [List.drop];refine aI fun _ Y=>?_;simp (disch:=omega);refine eV (wF l t.ID _ hl hs) ?_;apply Y;simp (disch:=omega);and_intros<;>(try omega);apply Z;apply aE;refine zk [0,4,6,7,8] ?_;refine cH fun _ _ Z=>?_;refine aC 1 fun _ Y=>?_;simp (disch:=omega);and_intros<;>(try omega);apply Y;simp only [List.drop];refine aI fun _ Y=>?_;simp (disch:=omega);refine eV (Bo t rR _ h) ?_;apply Y;simp (disch:=omega);and_intros<;>(try omega);apply Z;apply aN;refine cH fun _ _ Z=>?_;simp (disch:=omega);and_intros<;>(try omega);apply Z;refine zi ?_;refine ⟨fun c3=>?_,fun c3=>?_⟩
   ·try simp at c3
    apply aJ;apply aX;apply aD;refine cH fun _ _ Z=>?_;simp (disch:=omega);and_intros<;>(try omega);apply Z;apply aH;simp [bB, lG, fN, lO, *];try (first | (intro hh; exact absurd (hh (by omega)) (by omega)) | (intros; omega) | exact (if_neg (fun hh => by omega)).symm | exact if_neg (fun hh => by omega))
   ·try simp at c3
    refine cH fun _ _ Z=>?_;simp (disch:=omega);and_intros<;>(try omega);apply Z;refine zi ?_;refine ⟨fun c4=>?_,fun c4=>?_⟩
    ·try simp at c4
     exact absurd c4 g1
    ·try simp at c4
     refine zk [0,6,7,9] ?_;refine Cu ⟨[],[],[],[],[]⟩ fun all hall _ Z=>?_;have ga2 : aY all 2 = some 42 := hall 2;refine aC 3 fun _ Y=>?_;simp (disch:=omega)[ga2];and_intros<;>(try omega);apply Y;simp only [List.drop];refine cC 42 (by simp <;> rfl) ?_;refine ⟨fun g5 => ?_, fun g5 => ?_⟩
     ·try simp at g5
      simp (disch:=omega)[ga2];and_intros<;>(try omega);apply Z;refine zi ?_;refine ⟨fun c6=>?_,fun c6=>?_⟩
      ·try simp at c6
       refine Nc fun _ _ Z=>?_;refine aC 4 fun _ Y=>?_;simp (disch:=omega);and_intros<;>(try omega);apply Y;simp only [List.drop];refine aI fun _ Y=>?_;simp (disch:=omega);obtain ⟨b, hb⟩ := Int.eq_ofNat_of_zero_le (show 0 ≤ mO t.styles rR by omega);rw [hb];refine eV (Fe base w H (dX l t.ID) b _ (by omega) hH hw hr) ?_;apply Y;simp only [iS];apply Z;apply aX;apply aD;refine zk [6] ?_;refine cH fun _ _ Z=>?_;simp (disch:=omega);and_intros<;>(try omega);apply Z;apply aH;simp [bB, lG, fN, lO, *];try (first | (intro hh; exact absurd (hh (by omega)) (by omega)) | (intros; omega) | exact (if_neg (fun hh => by omega)).symm | exact if_neg (fun hh => by omega))
      ·try simp at c6
       apply aJ;apply aX;apply aD;refine cH fun _ _ Z=>?_;simp (disch:=omega);and_intros<;>(try omega);apply Z;apply aH;simp [bB, lG, fN, lO, *];try (first | (intro hh; exact absurd (hh (by omega)) (by omega)) | (intros; omega) | exact (if_neg (fun hh => by omega)).symm | exact if_neg (fun hh => by omega))
     ·try simp at g5
      simp (disch:=omega)[ga2];and_intros<;>(try omega);apply Z;refine dR (t := false) (by simp) (fun h => by cases h) (fun _ => ?_);apply aJ;apply aX;apply aD;refine cH fun _ _ Z=>?_;simp (disch:=omega);and_intros<;>(try omega);apply Z;apply aH;simp [bB, lG, fN, lO, *];try (first | (intro hh; exact absurd (hh (by omega)) (by omega)) | (intros; omega) | exact (if_neg (fun hh => by omega)).symm | exact if_neg (fun hh => by omega))
 ·try simp at g1
  simp (disch:=omega)[ga3];and_intros<;>(try omega);apply Z;refine dR (t := false) (by simp) (fun h => by cases h) (fun _ => ?_);apply aJ;apply aD;refine cH fun _ _ Z=>?_;refine aC 3 fun _ Y=>?_;simp (disch:=omega);and_intros<;>(try omega);apply Y;simp only [List.drop];refine aI fun _ Y=>?_;simp (disch:=omega);refine eV (wF l t.ID _ hl hs) ?_;apply Y;simp (disch:=omega);and_intros<;>(try omega);apply Z;apply aE;refine zk [0,4,6,7,8] ?_;refine cH fun _ _ Z=>?_;refine aC 1 fun _ Y=>?_;simp (disch:=omega);and_intros<;>(try omega);apply Y;simp only [List.drop];refine aI fun _ Y=>?_;simp (disch:=omega);refine eV (Bo t rR _ h) ?_;apply Y;simp (disch:=omega);and_intros<;>(try omega);apply Z;apply aN;refine cH fun _ _ Z=>?_;simp (disch:=omega);and_intros<;>(try omega);apply Z;refine zi ?_;refine ⟨fun c7=>?_,fun c7=>?_⟩
  ·try simp at c7
   apply aJ;apply aX;apply aD;refine cH fun _ _ Z=>?_;simp (disch:=omega);and_intros<;>(try omega);apply Z;apply aH;simp [bB, lG, fN, lO, *];try (first | (intro hh; exact absurd (hh (by omega)) (by omega)) | (intros; omega) | exact (if_neg (fun hh => by omega)).symm | exact if_neg (fun hh => by omega))
  ·try simp at c7
   refine cH fun _ _ Z=>?_;simp (disch:=omega);and_intros<;>(try omega);apply Z;refine zi ?_;refine ⟨fun c8=>?_,fun c8=>?_⟩
   ·try simp at c8
    refine zk [0,4,6,7] ?_;refine Nc fun _ _ Z=>?_;refine aC 4 fun _ Y=>?_;simp (disch:=omega);and_intros<;>(try omega);apply Y;simp only [List.drop];refine aI fun _ Y=>?_;simp (disch:=omega);refine eV (Ak base w H (dX l t.ID) t.text _ htx hH hw hr) ?_;apply Y;simp only [iS];apply Z;apply aX;apply aD;refine cH fun _ _ Z=>?_;simp (disch:=omega);and_intros<;>(try omega);apply Z;apply aH;simp [bB, lG, fN, lO, *];try (first | (intro hh; exact absurd (hh (by omega)) (by omega)) | (intros; omega) | exact (if_neg (fun hh => by omega)).symm | exact if_neg (fun hh => by omega))
   ·try simp at c8
    exact absurd g1 c8
end Go.Proofs.YtighdhfgcdjmeaaDoor
namespace Go.Proofs.YtighdhfgcdjmeaaDoor
open Go Go.Vm
set_option maxRecDepth 20000
set_option linter.all false
set_option maxHeartbeats 8000000
theorem Jx (m base w H : Nat) (t : TN) (l : List EN) (σ : List (List D)) (h : SO t) (hc : t.classes.length ≤ 1000000) (htx : t.text.size ≤ 1000000) (hl : l.length ≤ 999999) (hs : SI.Sorted nE l) (hH : H ≤ 100) (hw : w ≤ 200) (hr : eX σ base w H) (hq : σ[m]? = some [.sl true (qM base w H)]) : Ct Tryd.prog 24 [oO t, .sl false (l.map cL), .ref m 0] σ (fun r σ' => r = .tup [.sl false (l.map cL), .bool (!lG t)] ∧ σ' = fN base w H t l σ) := by
 refine zf (rs:=[.tmp 5,.tmp 6]) Tryd.func24 Tryd.ntmps24 Tryd.results24 ?_;simp only [aU];refine cH fun _ _ Z=>?_;simp[hq];and_intros<;>(try omega);apply Z;refine cH fun _ _ Z=>?_;refine aC 4 fun _ Y=>?_;simp[hq];and_intros<;>(try omega);apply Y;simp only [List.drop];refine aI fun _ Y=>?_;simp[hq];refine eV (Fg base w H t l _ h hc htx hl hs hH hw hr) ?_;apply Y;simp[hq];and_intros<;>(try omega);apply Z;apply aH;simp [bB]
theorem Kr {σ : List (List D)} {base : Nat} (w H : Nat) (x y : Int) (b m : Nat) (hm : m < base ∨ base + H ≤ m) : (mN σ base w H x y b)[m]? = σ[m]? := by
 unfold mN; split
 ·rename_i hc; exact List.getElem?_set_ne (by omega)
 ·rfl
theorem wE {base m : Nat} (w H : Nat) (q : RC) (s : ByteArray) (σ : List (List D)) (hm : m < base ∨ base + H ≤ m) : ∀ k, (jL base w H q s σ k)[m]? = σ[m]?
 | 0 => rfl
 | k + 1 => (Kr w H _ _ _ m hm).trans (wE w H q s σ hm k)
theorem vE {base m : Nat} (w H : Nat) (q : RC) (b y : Nat) (σ : List (List D)) (hm : m < base ∨ base + H ≤ m) : ∀ k, (iK base w H q b y σ k)[m]? = σ[m]?
 | 0 => rfl
 | k + 1 => by
  simp only [iK];split
  ·exact (Kr w H _ _ _ m hm).trans (vE w H q b y σ hm k)
  ·exact vE w H q b y σ hm k
theorem Cj {base m : Nat} (w H : Nat) (q : RC) (b : Nat) (σ : List (List D)) (hm : m < base ∨ base + H ≤ m) : ∀ k, (jO base w H q b σ k)[m]? = σ[m]?
 | 0 => rfl
 | k + 1 => (vE w H q b k _ hm w).trans (Cj w H q b σ hm k)
theorem uS {base m : Nat} (w H : Nat) (t : TN) (l : List EN) (σ : List (List D)) (hm : m < base ∨ base + H ≤ m) : (fN base w H t l σ)[m]? = σ[m]? := by
 unfold fN
 repeat' split
 all_goals first | rfl | exact wE w H _ _ _ hm _ | exact Cj w H _ _ _ hm _
theorem nO {base w H : Nat} {σ : List (List D)} (h : eX σ base w H) (t : TN) (l : List EN) : eX (fN base w H t l σ) base w H := by
 unfold fN
 repeat' split
 all_goals first | exact h | exact kZ h _ _ _ | exact kL h _ _ _
def fW (base w H : Nat) (l : List EN) : Nat → TN → List (List D) → List (List D)
 | 0, _ => fun σ => σ
 | n + 1, t => fun σ => if lG t = true then fN base w H t l σ else t.kids.foldl (fun τ k => fW base w H l n k τ) (fN base w H t l σ)
theorem qC {base m : Nat} (w H : Nat) (l : List EN) (hm : m < base ∨ base + H ≤ m) : ∀ (n : Nat) (t : TN) (σ : List (List D)), (fW base w H l n t σ)[m]? = σ[m]?
 | 0, _, _ => rfl
 | n + 1, t, σ => by
  simp only [fW];split
  ·exact uS w H t l σ hm
  ·have hf : ∀ (ks : List TN) (τ : List (List D)), (ks.foldl (fun τ k => fW base w H l n k τ) τ)[m]? = τ[m]? := fun ks => by
    induction ks with
    | nil => exact fun _ => rfl
    | cons k ks ih => exact fun τ => (ih _).trans (qC w H l hm n k τ)
   exact (hf t.kids _).trans (uS w H t l σ hm)
theorem nF {base w H : Nat} (l : List EN) : ∀ (n : Nat) (t : TN) {σ : List (List D)}, eX σ base w H → eX (fW base w H l n t σ) base w H
 | 0, _, _, h => h
 | n + 1, t, σ, h => by
  simp only [fW];split
  ·exact nO h t l
  ·have hf : ∀ (ks : List TN) (τ : List (List D)), eX τ base w H → eX (ks.foldl (fun τ k => fW base w H l n k τ) τ) base w H := fun ks => by
    induction ks with
    | nil => exact fun _ h => h
    | cons k ks ih => exact fun τ h => ih _ (nF l n k h)
   exact hf t.kids _ (nO h t l)
def Lh (base w H : Nat) (l : List EN) (n : Nat) (t : TN) (σ : List (List D)) (k : Nat) : List (List D) := (t.kids.take k).foldl (fun τ k => fW base w H l n k τ) (fN base w H t l σ)
theorem Rk (base w H : Nat) (l : List EN) (n : Nat) (t : TN) (σ : List (List D)) : Lh base w H l n t σ 0 = fN base w H t l σ := rfl
theorem xI (base w H : Nat) (l : List EN) (n : Nat) (t : TN) (σ : List (List D)) (k : Nat) (h : k < t.kids.length) : Lh base w H l n t σ (k + 1) = fW base w H l n t.kids[k] (Lh base w H l n t σ k) := by
 unfold Lh; rw [dQ _ _ h, List.foldl_append]; rfl
theorem Li (base w H : Nat) (l : List EN) (n : Nat) (t : TN) (σ : List (List D)) (h : lG t = false) : Lh base w H l n t σ t.kids.length = fW base w H l (n + 1) t σ := by
 unfold Lh; rw [List.take_length]; simp only [fW, h]; rfl
theorem Cf {base w H m : Nat} {σ : List (List D)} (l : List EN) (n : Nat) (t : TN) (hm : m < base ∨ base + H ≤ m) (hr : eX σ base w H) : ∀ k, k ≤ t.kids.length → eX (Lh base w H l n t σ k) base w H ∧ (Lh base w H l n t σ k)[m]? = σ[m]?
 | 0, _ => ⟨nO hr t l, uS w H t l σ hm⟩
 | k + 1, h => by
  obtain ⟨h1, h2⟩ := Cf l n t hm hr k (by omega);rw [xI _ _ _ _ _ _ _ _ (by omega)];exact ⟨nF l n _ h1, (qC w H l hm n _ _).trans h2⟩
abbrev Nw (m base w H : Nat) (l : List EN) (n : Nat) (t : TN) : Prop := ∀ τ : List (List D), eX τ base w H → τ[m]? = some [.sl true (qM base w H)] → Ct Tryd.prog 23 [oO t, .sl false (l.map cL), .clo (.func 24) [] [.ref m 0]] τ (fun r τ' => r = .tup [] ∧ τ' = fW base w H l n t τ)
theorem Iu (n m base w H : Nat) (t : TN) (l : List EN) (σ : List (List D)) (h : SO t) (hc : t.classes.length ≤ 1000000) (htx : t.text.size ≤ 1000000) (hl : l.length ≤ 999999) (hs : SI.Sorted nE l) (hH : H ≤ 100) (hw : w ≤ 200) (hr : eX σ base w H) (hk1 : t.kids.length ≤ 1000) (hm : m < base ∨ base + H ≤ m) (hq : σ[m]? = some [.sl true (qM base w H)]) (ih : ∀ k ∈ t.kids, Nw m base w H l n k) : Ct Tryd.prog 23 [oO t, .sl false (l.map cL), .clo (.func 24) [] [.ref m 0]] σ (fun r σ' => r = .tup [] ∧ σ' = fW base w H l (n + 1) t σ) := by
 refine zf (rs:=[]) Tryd.func23 Tryd.ntmps23 Tryd.results23 ?_;simp only [aU];refine cH fun _ _ Z=>?_;simp (disch:=omega);and_intros<;>(try omega);apply Z;refine cH fun _ _ Z=>?_;refine aC 3 fun _ Y=>?_;simp (disch:=omega);and_intros<;>(try omega);apply Y;simp only [List.drop];refine aI fun _ Y=>?_;simp (disch:=omega);refine eV (Jx m base w H t l _ h hc htx hl hs hH hw hr hq) ?_;apply Y;simp (disch:=omega);and_intros<;>(try omega);apply Z;apply aE;refine cH fun _ _ Z=>?_;simp (disch:=omega);and_intros<;>(try omega);apply Z;refine zi ?_;refine ⟨fun c1=>?_,fun c1=>?_⟩
 ·try simp at c1
  apply aH;apply bJ;simp [bB, fW, *]
 ·try simp at c1
  apply aJ;apply aD;refine zk [2,3,6] ?_;refine cH fun _ _ Z=>?_;simp (disch:=omega);and_intros<;>(try omega);apply Z;apply aN;refine zk [2,6,20,21,22] ?_;refine gB (fun (k : Nat) => [(22, .d (.v (.int .i64 (k : Int)))), (9, .d (.any))]) (fun (k : Nat) => [[D.int t.ID, D.int t.kind, D.str t.tag, D.str t.text, .sl false (t.classes.map D.str), .sl false (t.attrs.map bZ), .sl false (t.styles.map bQ), .sl false (t.kids.map yN)]]) (fun (k : Nat) => Lh base w H l n t σ k) [9, 22, 23, 24, 25, 26, 27, 28, 29, 30] (fun (k : Nat) => k ≤ t.kids.length) (fun (k : Nat) => t.kids.length - k) (0) (by simp <;> rfl) ?_ (by simp) rfl ?_ ?_
  ·simp [Rk]
  ·simp
  rintro k hk;simp only [List.cons_append, List.nil_append];have hkm := Cf l n t hm hr k hk;refine cH fun _ _ Z=>?_;simp (disch:=omega);and_intros<;>(try omega);apply Z;apply aE;refine zi ?_;refine ⟨fun c2=>?_,fun c2=>?_⟩
  ·try simp at c2
   apply aJ;apply aD;apply aE;apply aN;refine cH fun _ _ Z=>?_;simp (disch:=omega);and_intros<;>(try omega);apply Z;refine Nc fun _ _ Z=>?_;refine aC 3 fun _ Y=>?_;simp (disch:=omega);and_intros<;>(try omega);apply Y;simp only [List.drop];refine aI fun _ Y=>?_;simp (disch:=omega);refine eV (ih t.kids[k] (List.getElem_mem _) _ hkm.1 (hkm.2.trans hq)) ?_;apply Y;simp only [iS];apply Z;apply aX;apply aD;refine zk [2,6,9,20,21,22] ?_;refine Nc fun _ _ Z=>?_;simp (disch:=omega);and_intros<;>(try omega);apply Z;refine bW (k + 1) ?_ ?_ (bK rfl ?_ (by simp) (by simp [xI, *]))
   ·omega
   ·try dsimp only
    omega
   ·simp (disch:=omega)
  ·try simp at c2
   obtain rfl : k = t.kids.length := by omega
   apply bM;apply bO;apply bP;apply bE;simp [bB];exact Li base w H l n t σ (by simpa using c1)
theorem Bs (m base w H : Nat) (l : List EN) (hl : l.length ≤ 999999) (hs : SI.Sorted nE l) (hH : H ≤ 100) (hw : w ≤ 200) (hm : m < base ∨ base + H ≤ m) : ∀ (n : Nat) (t : TN), n ≤ 1000 → TG t → lH t ≤ n → Nw m base w H l n t
 | 0, t, _, _, h => absurd (lD t) (by omega)
 | n + 1, t, hn, hg, h => fun σ hr hq => by
  cases hg with
  | mk _ hf hk =>
   have hc := lD t;have hkl : ∀ ks : List TN, ks.length ≤ (ks.map lH).sum := fun ks => by
    induction ks with
    | nil => exact Nat.le_refl _
    | cons a ks ih => have := lD a; simp only [List.map_cons, List.sum_cons, List.length_cons]; omega
   have hkm : ∀ (ks : List TN) (k : TN), k ∈ ks → lH k ≤ (ks.map lH).sum := fun ks => by
    induction ks with
    | nil => intro k hk; cases hk
    | cons a ks ih =>
     intro k hk;rcases List.mem_cons.1 hk with rfl | hk
     ·simp
     ·have := ih k hk; simp only [List.map_cons, List.sum_cons]; omega
   have hl2 := hkl t.kids;exact Iu n m base w H t l σ ⟨by have := hf.1.1; omega, hf.1.2⟩ (by have := hf.2.2.2; omega) (by have := hf.2.2.1; omega) hl hs hH hw hr (by omega) hm hq fun k hk' => Bs m base w H l hl hs hH hw hm n k (by omega) (hk k hk') (by have := hkm t.kids k hk'; omega)
end Go.Proofs.YtighdhfgcdjmeaaDoor

