import Derived.Test.YtighdhfgcdjmeaaDoorWkS2
namespace Go.Proofs.YtighdhfgcdjmeaaDoor
open Go Go.Vm
set_option maxRecDepth 20000
set_option linter.all false
set_option maxHeartbeats 8000000
def pP (base w H : Nat) : List D := (List.range H).map fun y => .slo (base + y) 0 w w
@[simp] theorem Pn (base w H : Nat) : (pP base w H).length = H := by simp [pP]
@[simp] theorem Ps (base w H y : Nat) (h : y < H) : (pP base w H)[y]? = some (.slo (base + y) 0 w w) := by simp [pP, h]
def cY (σ : List (List D)) (m : Nat) : List D := (σ[m]?).getD []
abbrev eL (σ : List (List D)) (base w H : Nat) : Prop := ∀ j, j < H → σ[base + j]? = some (cY σ (base + j)) ∧ w ≤ (cY σ (base + j)).length
def mN (σ : List (List D)) (base w H : Nat) (x y : Int) (b : Nat) : List (List D) := if 0 ≤ y ∧ y < H ∧ 0 ≤ x ∧ x < w then σ.set (base + y.toNat) ((cY σ (base + y.toNat)).set x.toNat (.v (.int .u8 b))) else σ
theorem vL (base w H : Nat) (x y : Int) (b : Nat) (σ : List (List D)) (hb : b ≤ 255) (hH : H ≤ 100) (hw : w ≤ 200) (hr : eL σ base w H) : Ct Tryd.prog 62 [.sl false (pP base w H), D.int x, D.int y, .v (.int .u8 b)] σ (fun r σ' => r = .tup [] ∧ σ' = mN σ base w H x y b) := by
 refine zf (rs:=[]) Tryd.func62 Tryd.ntmps62 Tryd.results62 ?_;simp only [aX];have hq1 : ∀ j, j < H → σ[base + j]? = some (cY σ (base + j)) := fun j h => (hr j h).1;have hq2 : ∀ j, j < H → w ≤ (cY σ (base + j)).length := fun j h => (hr j h).2;refine Iz ⟨[],[],[],[26,35],[]⟩ fun all hall _ Z=>?_;have ga2 : aT all 2 = some 10 := hall 2;have ga8 : aT all 8 = some 16 := hall 8;have ga12 : aT all 12 = some 20 := hall 12;refine aA 3 fun _ Y=>?_;simp (disch:=omega)[hq1,hq2,ga2,ga8,ga12];and_intros<;>(try omega);apply Y;simp only [List.drop];refine cF 10 (by simp <;> rfl) ?_;refine ⟨fun g1 => ?_, fun g1 => ?_⟩
 ·try simp at g1
  obtain ⟨j, rfl⟩ := Int.eq_ofNat_of_zero_le g1;refine aA 6 fun _ Y=>?_;simp (disch:=omega)[hq1,hq2,ga2,ga8,ga12];and_intros<;>(try omega);apply Y;simp only [List.drop];refine cF 16 (by simp <;> rfl) ?_;refine ⟨fun g2 => ?_, fun g2 => ?_⟩
  ·try simp at g2
   have hj : j < H := by omega
   have hj2 := hq2 j hj;refine aA 4 fun _ Y=>?_;simp (disch:=omega)[hq1,hq2,ga2,ga8,ga12];and_intros<;>(try omega);apply Y;simp only [List.drop];refine cF 20 (by simp <;> rfl) ?_;refine ⟨fun g3 => ?_, fun g3 => ?_⟩
   ·try simp at g3
    obtain ⟨i, rfl⟩ := Int.eq_ofNat_of_zero_le g3;simp (disch:=omega)[hq1,hq2,ga2,ga8,ga12];and_intros<;>(try omega);apply Z;refine zi ?_;refine ⟨fun c4=>?_,fun c4=>?_⟩
    ·try simp at c4
     refine zk [0,1,2,3] ?_;refine zt ⟨[],[],[],[26,35],[]⟩ fun _ _ Z=>?_;simp (disch:=omega)[hq1,hq2];and_intros<;>(try omega);apply Z;simp [bE];unfold mN;rw [if_pos (by omega)];simp;rw [List.set_eq_take_append_cons_drop (l := cY σ (base + j)), if_pos (by have := hq2 j hj; omega)]
    ·try simp at c4
     apply aM;simp [bE];unfold mN;rw [if_neg (by omega)]
   ·try simp at g3
    simp (disch:=omega)[hq1,hq2,ga2,ga8,ga12];and_intros<;>(try omega);apply Z;refine eE (t := false) (by simp) (fun h => by cases h) (fun _ => ?_);apply aM;simp [bE];unfold mN;rw [if_neg (by omega)]
  ·try simp at g2
   refine aA 4 fun _ Y=>?_;simp (disch:=omega)[hq1,hq2,ga2,ga8,ga12];and_intros<;>(try omega);apply Y;simp only [List.drop];simp (disch:=omega)[hq1,hq2,ga2,ga8,ga12];and_intros<;>(try omega);apply Z;refine eE (t := false) (by simp) (fun h => by cases h) (fun _ => ?_);apply aM;simp [bE];unfold mN;rw [if_neg (by omega)]
 ·try simp at g1
  refine aA 6 fun _ Y=>?_;simp (disch:=omega)[hq1,hq2,ga2,ga8,ga12];and_intros<;>(try omega);apply Y;simp only [List.drop];refine aA 4 fun _ Y=>?_;simp (disch:=omega)[hq1,hq2,ga2,ga8,ga12];and_intros<;>(try omega);apply Y;simp only [List.drop];simp (disch:=omega)[hq1,hq2,ga2,ga8,ga12];and_intros<;>(try omega);apply Z;refine eE (t := false) (by simp) (fun h => by cases h) (fun _ => ?_);apply aM;simp [bE];unfold mN;rw [if_neg (by omega)]
theorem An {σ : List (List D)} {base w H : Nat} (h : eL σ base w H) (x y : Int) (b : Nat) : eL (mN σ base w H x y b) base w H := fun j hj => by
 obtain ⟨h1, h2⟩ := h j hj;unfold mN;split
 ·rename_i hc;have hlt : base + j < σ.length := (List.getElem?_eq_some_iff.1 h1).1;by_cases e : base + y.toNat = base + j
  ·have hr : (σ.set (base + y.toNat) ((cY σ (base + y.toNat)).set x.toNat (.v (.int .u8 b))))[base + j]? = some ((cY σ (base + j)).set x.toNat (.v (.int .u8 b))) := by
    rw [e, List.getElem?_set_self hlt]
   have hr2 : cY (σ.set (base + y.toNat) ((cY σ (base + y.toNat)).set x.toNat (.v (.int .u8 b)))) (base + j) = (cY σ (base + j)).set x.toNat (.v (.int .u8 b)) := by unfold cY at hr ⊢; rw [hr]; rfl
   exact ⟨by rw [hr, hr2], by rw [hr2, List.length_set]; exact h2⟩
  ·have hr : (σ.set (base + y.toNat) ((cY σ (base + y.toNat)).set x.toNat (.v (.int .u8 b))))[base + j]? = σ[base + j]? := List.getElem?_set_ne e;have hr2 : cY (σ.set (base + y.toNat) ((cY σ (base + y.toNat)).set x.toNat (.v (.int .u8 b)))) (base + j) = cY σ (base + j) := by unfold cY at hr ⊢; rw [hr]
   exact ⟨by rw [hr, hr2]; exact h1, by rw [hr2]; exact h2⟩
 ·exact ⟨h1, h2⟩
def iV (base w H : Nat) (q : RC) (s : ByteArray) (σ : List (List D)) : Nat → List (List D)
 | 0 => σ
 | k + 1 => mN (iV base w H q s σ k) base w H (nI q.x k) q.y (dW s k)
theorem kP {σ : List (List D)} {base w H : Nat} (h : eL σ base w H) (q : RC) (s : ByteArray) : ∀ k, eL (iV base w H q s σ k) base w H
 | 0 => h
 | k + 1 => An (kP h q s k) _ _ _
theorem sC (s : ByteArray) (k : Nat) : dW s k ≤ 255 := by unfold dW; have := (s.data[k]?.getD 0).toNat_lt; omega
def iD (base w H : Nat) (q : RC) (b : Nat) (y : Nat) (σ : List (List D)) : Nat → List (List D)
 | 0 => σ
 | k + 1 => if oY q k y = true then mN (iD base w H q b y σ k) base w H k y b else iD base w H q b y σ k
theorem kD {σ : List (List D)} {base w H : Nat} (h : eL σ base w H) (q : RC) (b y : Nat) : ∀ k, eL (iD base w H q b y σ k) base w H
 | 0 => h
 | k + 1 => by
  simp only [iD];split
  ·exact An (kD h q b y k) _ _ _
  ·exact kD h q b y k
def jC (base w H : Nat) (q : RC) (b : Nat) (σ : List (List D)) : Nat → List (List D)
 | 0 => σ
 | k + 1 => iD base w H q b k (jC base w H q b σ k) w
theorem jI {σ : List (List D)} {base w H : Nat} (h : eL σ base w H) (q : RC) (b : Nat) : ∀ k, eL (jC base w H q b σ k) base w H
 | 0 => h
 | k + 1 => kD (jI h q b k) q b k w
end Go.Proofs.YtighdhfgcdjmeaaDoor
namespace Go.Proofs.YtighdhfgcdjmeaaDoor
open Go Go.Vm
set_option maxRecDepth 20000
set_option linter.all false
set_option maxHeartbeats 8000000
theorem Ei (base w H : Nat) (q : RC) (b : Nat) (σ : List (List D)) (hb : b ≤ 255) (hH : H ≤ 100) (hw : w ≤ 200) (hr : eL σ base w H) : Ct Tryd.prog 44 [.sl false (pP base w H), Cs q, .v (.int .u8 b)] σ (fun r σ' => r = .tup [] ∧ σ' = jC base w H q b σ H) := by
 refine zf (rs:=[]) Tryd.func44 Tryd.ntmps44 Tryd.results44 ?_;simp only [aX];refine zr ⟨[],[],[],[17],[]⟩ fun _ _ Z=>?_;simp (disch:=omega);and_intros<;>(try omega);apply Z;refine zr ⟨[],[],[],[17],[]⟩ fun _ _ Z=>?_;simp (disch:=omega);and_intros<;>(try omega);apply Z;apply aU;refine zk [0,2,4,9,10] ?_;refine gK (fun (k : Nat) => [(10, .d (.v (.int .i64 (k : Int)))), (6, .d (.any)), (7, .d (.any))]) (fun (k : Nat) => [[D.int q.x, D.int q.y, D.int q.w, D.int q.h]]) (fun (k : Nat) => jC base w H q b σ k) [6, 7, 10, 11, 12, 13, 14, 15, 16, 17, 18, 19, 20, 21, 22, 23, 24, 25, 26, 27, 28, 29, 30, 31] (fun (k : Nat) => k ≤ H) (fun (k : Nat) => H - k) (0) (by simp <;> rfl) ?_ (by simp) rfl ?_ ?_
 ·simp [jC]
 ·simp
 rintro k hk;simp only [List.cons_append, List.nil_append];have hq1 : ∀ j, j < H → (jC base w H q b σ k)[base + j]? = some (cY (jC base w H q b σ k) (base + j)) := fun j h => (jI hr q b k j h).1;refine zr ⟨[],[],[],[17],[]⟩ fun _ _ Z=>?_;simp (disch:=omega);and_intros<;>(try omega);apply Z;apply aG;refine zi ?_;refine ⟨fun c1=>?_,fun c1=>?_⟩
 ·try simp at c1
  apply aM;apply aC;apply aG;apply aU;refine zr ⟨[],[],[],[17],[]⟩ fun _ _ Z=>?_;simp (disch:=omega);and_intros<;>(try omega);apply Z;refine zr ⟨[],[],[],[17],[]⟩ fun _ _ Z=>?_;simp (disch:=omega);and_intros<;>(try omega);apply Z;apply aU;refine zk [0,2,4,6,7,9,10,17,18] ?_;refine gK (fun (m : Nat) => [(18, .d (.v (.int .i64 (m : Int)))), (7, .d (.any))]) (fun (m : Nat) => [[D.int q.x, D.int q.y, D.int q.w, D.int q.h]]) (fun (m : Nat) => iD base w H q b k (jC base w H q b σ k) m) [7, 18, 19, 20, 21, 22, 23, 24, 25, 26, 27, 28, 29, 30] (fun (m : Nat) => m ≤ w) (fun (m : Nat) => w - m) (0) (by simp <;> rfl) ?_ (by simp) rfl ?_ ?_
  ·simp [iD]
  ·simp
  rintro m hm;simp only [List.cons_append, List.nil_append];refine zr ⟨[],[],[],[17],[]⟩ fun _ _ Z=>?_;simp (disch:=omega);and_intros<;>(try omega);apply Z;apply aG;refine zi ?_;refine ⟨fun c2=>?_,fun c2=>?_⟩
  ·try simp at c2
   apply aM;apply aC;apply aG;apply aU;refine zr ⟨[],[],[],[17],[]⟩ fun _ _ Z=>?_;simp (disch:=omega);and_intros<;>(try omega);apply Z;refine zk [0,2,4,6,7,9,10,17,18] ?_;refine zr ⟨[],[],[],[17],[]⟩ fun _ _ Z=>?_;refine aA 3 fun _ Y=>?_;simp (disch:=omega);and_intros<;>(try omega);apply Y;simp only [List.drop];refine aK fun _ Y=>?_;simp (disch:=omega);refine fN (zI q m k _) ?_;apply Y;simp only [jB];apply Z;refine zi ?_;refine ⟨fun c3=>?_,fun c3=>?_⟩
   ·try simp at c3
    refine zk [0,2,4,6,7,9,10,17,18] ?_;refine zt ⟨[],[],[],[17],[]⟩ fun _ _ Z=>?_;refine aA 4 fun _ Y=>?_;simp (disch:=omega);and_intros<;>(try omega);apply Y;simp only [List.drop];refine aK fun _ Y=>?_;simp (disch:=omega);refine fN (vL base w H m k b _ hb hH hw (kD (jI hr q b k) q b k m)) ?_;apply Y;simp only [jB];apply Z;apply bB;apply aC;refine zk [0,2,4,6,7,9,10,17,18] ?_;refine zt ⟨[],[],[],[17],[]⟩ fun _ _ Z=>?_;simp (disch:=omega);and_intros<;>(try omega);apply Z;refine cM (m + 1) ?_ ?_ (bV rfl ?_ (by simp) (by simp [iD, *]))
    ·omega
    ·try dsimp only
     omega
    ·simp (disch:=omega)
   ·try simp at c3
    apply aM;apply bB;apply aC;refine zk [0,2,4,6,7,9,10,17,18] ?_;refine zt ⟨[],[],[],[17],[]⟩ fun _ _ Z=>?_;simp (disch:=omega);and_intros<;>(try omega);apply Z;refine cM (m + 1) ?_ ?_ (bV rfl ?_ (by simp) (by simp [iD, *]))
    ·omega
    ·try dsimp only
     omega
    ·simp (disch:=omega)
  ·try simp at c2
   obtain rfl : m = w := by omega
   apply cL;apply cI;apply cK;apply bW;apply bB;apply aC;refine zt ⟨[],[],[],[17],[]⟩ fun _ _ Z=>?_;simp (disch:=omega);and_intros<;>(try omega);apply Z;refine cM (k + 1) ?_ ?_ (bV rfl ?_ (by simp) (by simp [jC]))
   ·omega
   ·try dsimp only
    omega
   ·simp (disch:=omega)
 ·try simp at c1
  obtain rfl : k = H := by omega
  apply cL;apply cI;apply cK;apply bW;simp [bE]
theorem zO (base w H : Nat) (q : RC) (s : ByteArray) (σ : List (List D)) (hs : s.size ≤ 1000000) (hH : H ≤ 100) (hw : w ≤ 200) (hr : eL σ base w H) : Ct Tryd.prog 43 [.sl false (pP base w H), Cs q, D.str s] σ (fun r σ' => r = .tup [] ∧ σ' = if q.x > 200 ∨ q.y < 0 ∨ (H : Int) ≤ q.y then σ else iV base w H q s σ s.size) := by
 refine zf (rs:=[]) Tryd.func43 Tryd.ntmps43 Tryd.results43 ?_;simp only [aX];refine cN fun _ _ Z=>?_;simp (disch:=omega);and_intros<;>(try omega);apply Z;apply aG;refine Iz ⟨[],[],[],[],[]⟩ fun all hall _ Z=>?_;have ga3 : aT all 3 = some 10 := hall 3;have ga8 : aT all 8 = some 15 := hall 8;refine aA 4 fun _ Y=>?_;simp (disch:=omega)[ga3,ga8];and_intros<;>(try omega);apply Y;simp only [List.drop];refine cF 10 (by simp <;> rfl) ?_;refine ⟨fun g1 => ?_, fun g1 => ?_⟩
 ·try simp at g1
  refine aA 5 fun _ Y=>?_;simp (disch:=omega)[ga3,ga8];and_intros<;>(try omega);apply Y;simp only [List.drop];simp (disch:=omega)[ga3,ga8];and_intros<;>(try omega);apply Z;refine eE (t := true) (by simp) (fun _ => ?_) (fun h => by cases h);apply aI;apply bP;simp [bE];first | (intros; omega) | (rw [if_neg (by omega)]; done) | skip
 ·try simp at g1
  refine aA 5 fun _ Y=>?_;simp (disch:=omega)[ga3,ga8];and_intros<;>(try omega);apply Y;simp only [List.drop];refine cF 15 (by simp <;> rfl) ?_;refine ⟨fun g2 => ?_, fun g2 => ?_⟩
  ·try simp at g2
   simp (disch:=omega)[ga3,ga8];and_intros<;>(try omega);apply Z;refine eE (t := true) (by simp) (fun _ => ?_) (fun h => by cases h);apply aI;apply bP;simp [bE];first | (intros; omega) | (rw [if_neg (by omega)]; done) | skip
  ·try simp at g2
   simp (disch:=omega)[ga3,ga8];and_intros<;>(try omega);apply Z;refine zi ?_;refine ⟨fun c3=>?_,fun c3=>?_⟩
   ·try simp at c3
    apply aI;apply bP;simp [bE];first | (intros; omega) | (rw [if_neg (by omega)]; done) | skip
   ·try simp at c3
    apply aM;apply aC;refine zk [0,2,4] ?_;refine cN fun _ _ Z=>?_;simp (disch:=omega);and_intros<;>(try omega);apply Z;apply aU;refine zk [0,2,4,23,24] ?_;refine gK (fun (k : Nat) => [(24, .d (.v (.int .i64 (k : Int)))), (6, .d (.any))]) (fun (k : Nat) => [[D.int q.x, D.int q.y, D.int q.w, D.int q.h]]) (fun (k : Nat) => iV base w H q s σ k) [6, 24, 25, 26, 27, 28, 29, 30, 31, 32, 33, 34, 35, 36, 37, 38] (fun (k : Nat) => k ≤ s.size) (fun (k : Nat) => s.size - k) (0) (by simp <;> rfl) ?_ (by simp) rfl ?_ ?_
    ·simp [iV]
    ·simp
    rintro k hk;simp only [List.cons_append, List.nil_append];refine cN fun _ _ Z=>?_;simp (disch:=omega);and_intros<;>(try omega);apply Z;apply aG;refine zi ?_;refine ⟨fun c4=>?_,fun c4=>?_⟩
    ·try simp at c4
     apply aM;apply aC;apply aG;apply aU;refine cN fun _ _ Z=>?_;simp (disch:=omega);and_intros<;>(try omega);apply Z;refine ze ⟨[],[],[],[],[]⟩ [.op {},.op {},.op {rL:=true},.op {},.pure,.op {},.op {rL:=true},.op {},.op {},.op {},.det] fun all hall _ Z=>?_;refine eQ 4 (by simp) fun _ Y=>?_;simp (disch:=omega);and_intros<;>(try omega);apply Y;simp only [List.drop];refine nY fun _ Y=>?_;simp (disch:=omega);refine Yf (fun _ => (tD q.x k _)) ?_;apply Y;refine eQ 5 (by simp) fun _ Y=>?_;simp (disch:=omega);and_intros<;>(try omega);apply Y;simp only [List.drop];refine nY fun _ Y=>?_;simp (disch:=omega);refine Uw (vL base w H (nI q.x k) q.y (dW s k) _ (sC s k) hH hw (kP hr q s k)) ?_;apply Y;simp only [mJ];apply Z;apply bB;apply aC;refine zk [0,2,4,6,23,24] ?_;refine Hb fun _ _ Z=>?_;simp (disch:=omega);and_intros<;>(try omega);apply Z;refine cM (k + 1) ?_ ?_ (bV rfl ?_ (by simp) (by simp [iV, dW]))
     ·omega
     ·try dsimp only
      omega
     ·simp (disch:=omega)
    ·try simp at c4
     obtain rfl : k = s.size := by omega
     apply cL;apply cI;apply cK;apply bW;simp [bE];first | (intros; omega) | (rw [if_neg (by omega)]; done) | skip
end Go.Proofs.YtighdhfgcdjmeaaDoor
namespace Go.Proofs.YtighdhfgcdjmeaaDoor
open Go Go.Vm
set_option maxRecDepth 20000
set_option linter.all false
set_option maxHeartbeats 8000000
def dJ (l : List EN) (c : Int) : RC := if SI.fnd nE l c = true then ((l[SI.posL nE l c]?).map EN.rect).getD ⟨0, 0, 0, 0⟩ else ⟨0, 0, 0, 0⟩
theorem vI (l : List EN) (c : Int) (σ : List (List D)) (hl : l.length ≤ 999999) (hs : SI.Sorted nE l) : Ct Tryd.prog 41 [.sl false (l.map bX), D.int c] σ (fun r σ' => r = .tup [Cs (dJ l c), .bool (SI.fnd nE l c)] ∧ σ' = σ) := by
 cases hf : SI.fnd nE l c with
 | true =>
  have hlt := SI.fnd_lt nE hf;have hr : dJ l c = (l[SI.posL nE l c]).rect := by unfold dJ; rw [if_pos hf, List.getElem?_eq_getElem hlt]; rfl
  have h := Jd l c (l[SI.posL nE l c]) σ hl hs (List.getElem?_eq_getElem hlt) hf;rw [hr];exact h
 | false =>
  have hr : dJ l c = ⟨0, 0, 0, 0⟩ := by unfold dJ; rw [if_neg (by rw [hf]; decide)]
  rw [hr];refine (vH l c σ hl hs).trim fun r σ' ⟨_, hr2, J, hs'⟩ => ?_;have hr3 := hr2 hf;have hsc : Sc σ.length r := by
   rw [hr3];exact Sc.tup fun d hd => by
    simp at hd;rcases hd with rfl | rfl
    ·exact Sc.agg fun e he => by simp at he; rw [he]; exact Sc.v _
    ·exact Sc.v _
  exact ⟨σ, J, hs', rfl, hsc, fun n cs h => .inl h, hr3, rfl⟩
abbrev Lf : ByteArray := ⟨#[116, 45, 119, 97, 105, 116]⟩
abbrev pL : ByteArray := ⟨#[105, 110, 107]⟩
def kT (t : TN) : Bool := decide (¬ t.kind = 1) && xK Lf t.classes
def lK (t : TN) : Int := mF t.styles pL
def fI (base w H : Nat) (t : TN) (l : List EN) (σ : List (List D)) : List (List D) :=
 if kT t = true then σ else if SI.fnd nE l t.ID = false then σ else
 if t.kind = 1 then (if (dJ l t.ID).x > 200 ∨ (dJ l t.ID).y < 0 ∨ (H : Int) ≤ (dJ l t.ID).y then σ else iV base w H (dJ l t.ID) t.text σ t.text.size)
 else if 33 ≤ lK t ∧ lK t ≤ 126 then jC base w H (dJ l t.ID) (lK t).toNat σ H else σ
theorem Ca (base w H : Nat) (t : TN) (l : List EN) (σ : List (List D)) (h : SO t) (hc : t.classes.length ≤ 1000000) (htx : t.text.size ≤ 1000000) (hl : l.length ≤ 999999) (hs : SI.Sorted nE l) (hH : H ≤ 100) (hw : w ≤ 200) (hr : eL σ base w H) : Ct Tryd.prog 25 [.sl false (pP base w H), uQ t, .sl false (l.map bX)] σ (fun r σ' => r = .bool (!kT t) ∧ σ' = fI base w H t l σ) := by
 refine zf (rs:=[.tmp 6]) Tryd.func25 Tryd.ntmps25 Tryd.results25 ?_;simp only [aX];refine cN fun _ _ Z=>?_;simp (disch:=omega);and_intros<;>(try omega);apply Z;apply aG;refine Iz ⟨[],[],[],[],[]⟩ fun all hall _ Z=>?_;have ga3 : aT all 3 = some 13 := hall 3;refine aA 4 fun _ Y=>?_;simp (disch:=omega)[ga3];and_intros<;>(try omega);apply Y;simp only [List.drop];refine cF 13 (by simp <;> rfl) ?_;refine ⟨fun g1 => ?_, fun g1 => ?_⟩
 ·try simp at g1
  refine aA 2 fun _ Y=>?_;simp (disch:=omega)[ga3];and_intros<;>(try omega);apply Y;simp only [List.drop];refine zg ga3 fun _ Y=>?_;simp (disch:=omega)[ga3];refine fN (Jf t.classes Lf _ (by omega)) ?_;apply Y;simp (disch:=omega)[ga3];and_intros<;>(try omega);apply Z;refine zi ?_;refine ⟨fun c2=>?_,fun c2=>?_⟩
  ·try simp at c2
   refine cN fun _ _ Z=>?_;simp (disch:=omega);and_intros<;>(try omega);apply Z;apply aI;apply bP;simp [bE, kT, fI, lK, *];try (first | (intro hh; exact absurd (hh (by omega)) (by omega)) | (intros; omega) | exact (if_neg (fun hh => by omega)).symm | exact if_neg (fun hh => by omega))
  ·try simp at c2
   apply aM;apply aC;refine cN fun _ _ Z=>?_;refine aA 3 fun _ Y=>?_;simp (disch:=omega);and_intros<;>(try omega);apply Y;simp only [List.drop];refine aK fun _ Y=>?_;simp (disch:=omega);refine fN (vI l t.ID _ hl hs) ?_;apply Y;simp (disch:=omega);and_intros<;>(try omega);apply Z;apply aG;refine zk [0,4,6,7,8] ?_;refine cN fun _ _ Z=>?_;refine aA 1 fun _ Y=>?_;simp (disch:=omega);and_intros<;>(try omega);apply Y;simp only [List.drop];refine aK fun _ Y=>?_;simp (disch:=omega);refine fN (As t pL _ h) ?_;apply Y;simp (disch:=omega);and_intros<;>(try omega);apply Z;apply aU;refine cN fun _ _ Z=>?_;simp (disch:=omega);and_intros<;>(try omega);apply Z;refine zi ?_;refine ⟨fun c3=>?_,fun c3=>?_⟩
   ·try simp at c3
    apply aM;apply bB;apply aC;refine cN fun _ _ Z=>?_;simp (disch:=omega);and_intros<;>(try omega);apply Z;apply aI;simp [bE, kT, fI, lK, *];try (first | (intro hh; exact absurd (hh (by omega)) (by omega)) | (intros; omega) | exact (if_neg (fun hh => by omega)).symm | exact if_neg (fun hh => by omega))
   ·try simp at c3
    refine cN fun _ _ Z=>?_;simp (disch:=omega);and_intros<;>(try omega);apply Z;refine zi ?_;refine ⟨fun c4=>?_,fun c4=>?_⟩
    ·try simp at c4
     exact absurd c4 g1
    ·try simp at c4
     refine zk [0,6,7,9] ?_;refine Iz ⟨[],[],[],[],[]⟩ fun all hall _ Z=>?_;have ga2 : aT all 2 = some 42 := hall 2;refine aA 3 fun _ Y=>?_;simp (disch:=omega)[ga2];and_intros<;>(try omega);apply Y;simp only [List.drop];refine cF 42 (by simp <;> rfl) ?_;refine ⟨fun g5 => ?_, fun g5 => ?_⟩
     ·try simp at g5
      simp (disch:=omega)[ga2];and_intros<;>(try omega);apply Z;refine zi ?_;refine ⟨fun c6=>?_,fun c6=>?_⟩
      ·try simp at c6
       refine Hb fun _ _ Z=>?_;refine aA 4 fun _ Y=>?_;simp (disch:=omega);and_intros<;>(try omega);apply Y;simp only [List.drop];refine aK fun _ Y=>?_;simp (disch:=omega);obtain ⟨b, hb⟩ := Int.eq_ofNat_of_zero_le (show 0 ≤ mF t.styles pL by omega);rw [hb];refine fN (Ei base w H (dJ l t.ID) b _ (by omega) hH hw hr) ?_;apply Y;simp only [jB];apply Z;apply bB;apply aC;refine zk [6] ?_;refine cN fun _ _ Z=>?_;simp (disch:=omega);and_intros<;>(try omega);apply Z;apply aI;simp [bE, kT, fI, lK, *];try (first | (intro hh; exact absurd (hh (by omega)) (by omega)) | (intros; omega) | exact (if_neg (fun hh => by omega)).symm | exact if_neg (fun hh => by omega))
      ·try simp at c6
       apply aM;apply bB;apply aC;refine cN fun _ _ Z=>?_;simp (disch:=omega);and_intros<;>(try omega);apply Z;apply aI;simp [bE, kT, fI, lK, *];try (first | (intro hh; exact absurd (hh (by omega)) (by omega)) | (intros; omega) | exact (if_neg (fun hh => by omega)).symm | exact if_neg (fun hh => by omega))
     ·try simp at g5
      simp (disch:=omega)[ga2];and_intros<;>(try omega);apply Z;refine eE (t := false) (by simp) (fun h => by cases h) (fun _ => ?_);apply aM;apply bB;apply aC;refine cN fun _ _ Z=>?_;simp (disch:=omega);and_intros<;>(try omega);apply Z;apply aI;simp [bE, kT, fI, lK, *];try (first | (intro hh; exact absurd (hh (by omega)) (by omega)) | (intros; omega) | exact (if_neg (fun hh => by omega)).symm | exact if_neg (fun hh => by omega))
 ·try simp at g1
  simp (disch:=omega)[ga3];and_intros<;>(try omega);apply Z;refine eE (t := false) (by simp) (fun h => by cases h) (fun _ => ?_);apply aM;apply aC;refine cN fun _ _ Z=>?_;refine aA 3 fun _ Y=>?_;simp (disch:=omega);and_intros<;>(try omega);apply Y;simp only [List.drop];refine aK fun _ Y=>?_;simp (disch:=omega);refine fN (vI l t.ID _ hl hs) ?_;apply Y;simp (disch:=omega);and_intros<;>(try omega);apply Z;apply aG;refine zk [0,4,6,7,8] ?_;refine cN fun _ _ Z=>?_;refine aA 1 fun _ Y=>?_;simp (disch:=omega);and_intros<;>(try omega);apply Y;simp only [List.drop];refine aK fun _ Y=>?_;simp (disch:=omega);refine fN (As t pL _ h) ?_;apply Y;simp (disch:=omega);and_intros<;>(try omega);apply Z;apply aU;refine cN fun _ _ Z=>?_;simp (disch:=omega);and_intros<;>(try omega);apply Z;refine zi ?_;refine ⟨fun c7=>?_,fun c7=>?_⟩
  ·try simp at c7
   apply aM;apply bB;apply aC;refine cN fun _ _ Z=>?_;simp (disch:=omega);and_intros<;>(try omega);apply Z;apply aI;simp [bE, kT, fI, lK, *];try (first | (intro hh; exact absurd (hh (by omega)) (by omega)) | (intros; omega) | exact (if_neg (fun hh => by omega)).symm | exact if_neg (fun hh => by omega))
  ·try simp at c7
   refine cN fun _ _ Z=>?_;simp (disch:=omega);and_intros<;>(try omega);apply Z;refine zi ?_;refine ⟨fun c8=>?_,fun c8=>?_⟩
   ·try simp at c8
    refine zk [0,4,6,7] ?_;refine Hb fun _ _ Z=>?_;refine aA 4 fun _ Y=>?_;simp (disch:=omega);and_intros<;>(try omega);apply Y;simp only [List.drop];refine aK fun _ Y=>?_;simp (disch:=omega);refine fN (zO base w H (dJ l t.ID) t.text _ htx hH hw hr) ?_;apply Y;simp only [jB];apply Z;apply bB;apply aC;refine cN fun _ _ Z=>?_;simp (disch:=omega);and_intros<;>(try omega);apply Z;apply aI;simp [bE, kT, fI, lK, *];try (first | (intro hh; exact absurd (hh (by omega)) (by omega)) | (intros; omega) | exact (if_neg (fun hh => by omega)).symm | exact if_neg (fun hh => by omega))
   ·try simp at c8
    exact absurd g1 c8
end Go.Proofs.YtighdhfgcdjmeaaDoor
namespace Go.Proofs.YtighdhfgcdjmeaaDoor
open Go Go.Vm
set_option maxRecDepth 20000
set_option linter.all false
set_option maxHeartbeats 8000000
theorem Fc (m base w H : Nat) (t : TN) (l : List EN) (σ : List (List D)) (h : SO t) (hc : t.classes.length ≤ 1000000) (htx : t.text.size ≤ 1000000) (hl : l.length ≤ 999999) (hs : SI.Sorted nE l) (hH : H ≤ 100) (hw : w ≤ 200) (hr : eL σ base w H) (hq : σ[m]? = some [.sl true (pP base w H)]) : Ct Tryd.prog 24 [uQ t, .sl false (l.map bX), .ref m 0] σ (fun r σ' => r = .tup [.sl false (l.map bX), .bool (!kT t)] ∧ σ' = fI base w H t l σ) := by
 refine zf (rs:=[.tmp 5,.tmp 6]) Tryd.func24 Tryd.ntmps24 Tryd.results24 ?_;simp only [aX];refine cN fun _ _ Z=>?_;simp[hq];and_intros<;>(try omega);apply Z;refine cN fun _ _ Z=>?_;refine aA 4 fun _ Y=>?_;simp[hq];and_intros<;>(try omega);apply Y;simp only [List.drop];refine aK fun _ Y=>?_;simp[hq];refine fN (Ca base w H t l _ h hc htx hl hs hH hw hr) ?_;apply Y;simp[hq];and_intros<;>(try omega);apply Z;apply aI;simp [bE]
theorem Fk {σ : List (List D)} {base : Nat} (w H : Nat) (x y : Int) (b m : Nat) (hm : m < base ∨ base + H ≤ m) : (mN σ base w H x y b)[m]? = σ[m]? := by
 unfold mN; split
 ·rename_i hc; exact List.getElem?_set_ne (by omega)
 ·rfl
theorem xH {base m : Nat} (w H : Nat) (q : RC) (s : ByteArray) (σ : List (List D)) (hm : m < base ∨ base + H ≤ m) : ∀ k, (iV base w H q s σ k)[m]? = σ[m]?
 | 0 => rfl
 | k + 1 => (Fk w H _ _ _ m hm).trans (xH w H q s σ hm k)
theorem uR {base m : Nat} (w H : Nat) (q : RC) (b y : Nat) (σ : List (List D)) (hm : m < base ∨ base + H ≤ m) : ∀ k, (iD base w H q b y σ k)[m]? = σ[m]?
 | 0 => rfl
 | k + 1 => by
  simp only [iD];split
  ·exact (Fk w H _ _ _ m hm).trans (uR w H q b y σ hm k)
  ·exact uR w H q b y σ hm k
theorem Az {base m : Nat} (w H : Nat) (q : RC) (b : Nat) (σ : List (List D)) (hm : m < base ∨ base + H ≤ m) : ∀ k, (jC base w H q b σ k)[m]? = σ[m]?
 | 0 => rfl
 | k + 1 => (uR w H q b k _ hm w).trans (Az w H q b σ hm k)
theorem uP {base m : Nat} (w H : Nat) (t : TN) (l : List EN) (σ : List (List D)) (hm : m < base ∨ base + H ≤ m) : (fI base w H t l σ)[m]? = σ[m]? := by
 unfold fI
 repeat' split
 all_goals first | rfl | exact xH w H _ _ _ hm _ | exact Az w H _ _ _ hm _
theorem lX {base w H : Nat} {σ : List (List D)} (h : eL σ base w H) (t : TN) (l : List EN) : eL (fI base w H t l σ) base w H := by
 unfold fI
 repeat' split
 all_goals first | exact h | exact kP h _ _ _ | exact jI h _ _ _
def fO (base w H : Nat) (l : List EN) : Nat → TN → List (List D) → List (List D)
 | 0, _ => fun σ => σ
 | n + 1, t => fun σ => if kT t = true then fI base w H t l σ else t.kids.foldl (fun τ k => fO base w H l n k τ) (fI base w H t l σ)
theorem pA {base m : Nat} (w H : Nat) (l : List EN) (hm : m < base ∨ base + H ≤ m) : ∀ (n : Nat) (t : TN) (σ : List (List D)), (fO base w H l n t σ)[m]? = σ[m]?
 | 0, _, _ => rfl
 | n + 1, t, σ => by
  simp only [fO];split
  ·exact uP w H t l σ hm
  ·have hf : ∀ (ks : List TN) (τ : List (List D)), (ks.foldl (fun τ k => fO base w H l n k τ) τ)[m]? = τ[m]? := fun ks => by
    induction ks with
    | nil => exact fun _ => rfl
    | cons k ks ih => exact fun τ => (ih _).trans (pA w H l hm n k τ)
   exact (hf t.kids _).trans (uP w H t l σ hm)
theorem mS {base w H : Nat} (l : List EN) : ∀ (n : Nat) (t : TN) {σ : List (List D)}, eL σ base w H → eL (fO base w H l n t σ) base w H
 | 0, _, _, h => h
 | n + 1, t, σ, h => by
  simp only [fO];split
  ·exact lX h t l
  ·have hf : ∀ (ks : List TN) (τ : List (List D)), eL τ base w H → eL (ks.foldl (fun τ k => fO base w H l n k τ) τ) base w H := fun ks => by
    induction ks with
    | nil => exact fun _ h => h
    | cons k ks ih => exact fun τ h => ih _ (mS l n k h)
   exact hf t.kids _ (lX h t l)
def Jn (base w H : Nat) (l : List EN) (n : Nat) (t : TN) (σ : List (List D)) (k : Nat) : List (List D) := (t.kids.take k).foldl (fun τ k => fO base w H l n k τ) (fI base w H t l σ)
theorem Ox (base w H : Nat) (l : List EN) (n : Nat) (t : TN) (σ : List (List D)) : Jn base w H l n t σ 0 = fI base w H t l σ := rfl
theorem wA (base w H : Nat) (l : List EN) (n : Nat) (t : TN) (σ : List (List D)) (k : Nat) (h : k < t.kids.length) : Jn base w H l n t σ (k + 1) = fO base w H l n t.kids[k] (Jn base w H l n t σ k) := by
 unfold Jn; rw [fT _ _ h, List.foldl_append]; rfl
theorem Kj (base w H : Nat) (l : List EN) (n : Nat) (t : TN) (σ : List (List D)) (h : kT t = false) : Jn base w H l n t σ t.kids.length = fO base w H l (n + 1) t σ := by
 unfold Jn; rw [List.take_length]; simp only [fO, h]; rfl
theorem Ap {base w H m : Nat} {σ : List (List D)} (l : List EN) (n : Nat) (t : TN) (hm : m < base ∨ base + H ≤ m) (hr : eL σ base w H) : ∀ k, k ≤ t.kids.length → eL (Jn base w H l n t σ k) base w H ∧ (Jn base w H l n t σ k)[m]? = σ[m]?
 | 0, _ => ⟨lX hr t l, uP w H t l σ hm⟩
 | k + 1, h => by
  obtain ⟨h1, h2⟩ := Ap l n t hm hr k (by omega);rw [wA _ _ _ _ _ _ _ _ (by omega)];exact ⟨mS l n _ h1, (pA w H l hm n _ _).trans h2⟩
abbrev Lk (m base w H : Nat) (l : List EN) (n : Nat) (t : TN) : Prop := ∀ τ : List (List D), eL τ base w H → τ[m]? = some [.sl true (pP base w H)] → Ct Tryd.prog 23 [uQ t, .sl false (l.map bX), .clo (.func 24) [] [.ref m 0]] τ (fun r τ' => r = .tup [] ∧ τ' = fO base w H l n t τ)
theorem Hg (n m base w H : Nat) (t : TN) (l : List EN) (σ : List (List D)) (h : SO t) (hc : t.classes.length ≤ 1000000) (htx : t.text.size ≤ 1000000) (hl : l.length ≤ 999999) (hs : SI.Sorted nE l) (hH : H ≤ 100) (hw : w ≤ 200) (hr : eL σ base w H) (hk1 : t.kids.length ≤ 1000) (hm : m < base ∨ base + H ≤ m) (hq : σ[m]? = some [.sl true (pP base w H)]) (ih : ∀ k ∈ t.kids, Lk m base w H l n k) : Ct Tryd.prog 23 [uQ t, .sl false (l.map bX), .clo (.func 24) [] [.ref m 0]] σ (fun r σ' => r = .tup [] ∧ σ' = fO base w H l (n + 1) t σ) := by
 refine zf (rs:=[]) Tryd.func23 Tryd.ntmps23 Tryd.results23 ?_;simp only [aX];refine cN fun _ _ Z=>?_;simp (disch:=omega);and_intros<;>(try omega);apply Z;refine cN fun _ _ Z=>?_;refine aA 3 fun _ Y=>?_;simp (disch:=omega);and_intros<;>(try omega);apply Y;simp only [List.drop];refine aK fun _ Y=>?_;simp (disch:=omega);refine fN (Fc m base w H t l _ h hc htx hl hs hH hw hr hq) ?_;apply Y;simp (disch:=omega);and_intros<;>(try omega);apply Z;apply aG;refine cN fun _ _ Z=>?_;simp (disch:=omega);and_intros<;>(try omega);apply Z;refine zi ?_;refine ⟨fun c1=>?_,fun c1=>?_⟩
 ·try simp at c1
  apply aI;apply bP;simp [bE, fO, *]
 ·try simp at c1
  apply aM;apply aC;refine zk [2,3,6] ?_;refine cN fun _ _ Z=>?_;simp (disch:=omega);and_intros<;>(try omega);apply Z;apply aU;refine zk [2,6,20,21,22] ?_;refine gK (fun (k : Nat) => [(22, .d (.v (.int .i64 (k : Int)))), (9, .d (.any))]) (fun (k : Nat) => [[D.int t.ID, D.int t.kind, D.str t.tag, D.str t.text, .sl false (t.classes.map D.str), .sl false (t.attrs.map rF), .sl false (t.styles.map bT), .sl false (t.kids.map yO)]]) (fun (k : Nat) => Jn base w H l n t σ k) [9, 22, 23, 24, 25, 26, 27, 28, 29, 30] (fun (k : Nat) => k ≤ t.kids.length) (fun (k : Nat) => t.kids.length - k) (0) (by simp <;> rfl) ?_ (by simp) rfl ?_ ?_
  ·simp [Ox]
  ·simp
  rintro k hk;simp only [List.cons_append, List.nil_append];have hkm := Ap l n t hm hr k hk;refine cN fun _ _ Z=>?_;simp (disch:=omega);and_intros<;>(try omega);apply Z;apply aG;refine zi ?_;refine ⟨fun c2=>?_,fun c2=>?_⟩
  ·try simp at c2
   apply aM;apply aC;apply aG;apply aU;refine cN fun _ _ Z=>?_;simp (disch:=omega);and_intros<;>(try omega);apply Z;refine Hb fun _ _ Z=>?_;refine aA 3 fun _ Y=>?_;simp (disch:=omega);and_intros<;>(try omega);apply Y;simp only [List.drop];refine aK fun _ Y=>?_;simp (disch:=omega);refine fN (ih t.kids[k] (List.getElem_mem _) _ hkm.1 (hkm.2.trans hq)) ?_;apply Y;simp only [jB];apply Z;apply bB;apply aC;refine zk [2,6,9,20,21,22] ?_;refine Hb fun _ _ Z=>?_;simp (disch:=omega);and_intros<;>(try omega);apply Z;refine cM (k + 1) ?_ ?_ (bV rfl ?_ (by simp) (by simp [wA, *]))
   ·omega
   ·try dsimp only
    omega
   ·simp (disch:=omega)
  ·try simp at c2
   obtain rfl : k = t.kids.length := by omega
   apply cL;apply cI;apply cK;apply bW;simp [bE];exact Kj base w H l n t σ (by simpa using c1)
theorem Ax (m base w H : Nat) (l : List EN) (hl : l.length ≤ 999999) (hs : SI.Sorted nE l) (hH : H ≤ 100) (hw : w ≤ 200) (hm : m < base ∨ base + H ≤ m) : ∀ (n : Nat) (t : TN), n ≤ 1000 → TG t → rA t ≤ n → Lk m base w H l n t
 | 0, t, _, _, h => absurd (lW t) (by omega)
 | n + 1, t, hn, hg, h => fun σ hr hq => by
  cases hg with
  | mk _ hf hk =>
   have hc := lW t;have hkl : ∀ ks : List TN, ks.length ≤ (ks.map rA).sum := fun ks => by
    induction ks with
    | nil => exact Nat.le_refl _
    | cons a ks ih => have := lW a; simp only [List.map_cons, List.sum_cons, List.length_cons]; omega
   have hkm : ∀ (ks : List TN) (k : TN), k ∈ ks → rA k ≤ (ks.map rA).sum := fun ks => by
    induction ks with
    | nil => intro k hk; cases hk
    | cons a ks ih =>
     intro k hk;rcases List.mem_cons.1 hk with rfl | hk
     ·simp
     ·have := ih k hk; simp only [List.map_cons, List.sum_cons]; omega
   have hl2 := hkl t.kids;exact Hg n m base w H t l σ ⟨by have := hf.1.1; omega, hf.1.2⟩ (by have := hf.2.2.2; omega) (by have := hf.2.2.1; omega) hl hs hH hw hr (by omega) hm hq fun k hk' => Ax m base w H l hl hs hH hw hm n k (by omega) (hk k hk') (by have := hkm t.kids k hk'; omega)
end Go.Proofs.YtighdhfgcdjmeaaDoor

