import Derived.Test.YtighdhfgcdjmeaaGreatDoorWkS2
namespace Go.Proofs.YtighdhfgcdjmeaaGreatDoor
open Go Go.Vm
set_option maxRecDepth 20000
set_option linter.all false
set_option maxHeartbeats 8000000
def tD (base w H : Nat) : List D := (List.range H).map fun y => .slo (base + y) 0 w w
@[simp] theorem Ws (base w H : Nat) : (tD base w H).length = H := by simp [tD]
@[simp] theorem Wy (base w H y : Nat) (h : y < H) : (tD base w H)[y]? = some (.slo (base + y) 0 w w) := by simp [tD, h]
def dM (σ : List (List D)) (m : Nat) : List D := (σ[m]?).getD []
abbrev fF (σ : List (List D)) (base w H : Nat) : Prop := ∀ j, j < H → σ[base + j]? = some (dM σ (base + j)) ∧ w ≤ (dM σ (base + j)).length
def nO (σ : List (List D)) (base w H : Nat) (x y : Int) (b : Nat) : List (List D) := if 0 ≤ y ∧ y < H ∧ 0 ≤ x ∧ x < w then σ.set (base + y.toNat) ((dM σ (base + y.toNat)).set x.toNat (.v (.int .u8 b))) else σ
theorem zW (base w H : Nat) (x y : Int) (b : Nat) (σ : List (List D)) (hb : b ≤ 255) (hH : H ≤ 100) (hw : w ≤ 200) (hr : fF σ base w H) : Ct Tryz.prog 79 [.sl false (tD base w H), D.int x, D.int y, .v (.int .u8 b)] σ (fun r σ' => r = .tup [] ∧ σ' = nO σ base w H x y b) := by
 refine zf (rs:=[]) Tryz.func79 Tryz.ntmps79 Tryz.results79 ?_;simp only [aQ];have hq1 : ∀ j, j < H → σ[base + j]? = some (dM σ (base + j)) := fun j h => (hr j h).1;have hq2 : ∀ j, j < H → w ≤ (dM σ (base + j)).length := fun j h => (hr j h).2;refine Du ⟨[],[],[],[26,35],[]⟩ fun all hall _ Z=>?_;have ga2 : bA all 2 = some 10 := hall 2;have ga8 : bA all 8 = some 16 := hall 8;have ga12 : bA all 12 = some 20 := hall 12;refine aB 3 fun _ Y=>?_;simp (disch:=omega)[hq1,hq2,ga2,ga8,ga12];and_intros<;>(try omega);apply Y;simp only [List.drop];refine cJ 10 (by simp <;> rfl) ?_;refine ⟨fun g1 => ?_, fun g1 => ?_⟩
 ·try simp at g1
  obtain ⟨j, rfl⟩ := Int.eq_ofNat_of_zero_le g1;refine aB 6 fun _ Y=>?_;simp (disch:=omega)[hq1,hq2,ga2,ga8,ga12];and_intros<;>(try omega);apply Y;simp only [List.drop];refine cJ 16 (by simp <;> rfl) ?_;refine ⟨fun g2 => ?_, fun g2 => ?_⟩
  ·try simp at g2
   have hj : j < H := by omega
   have hj2 := hq2 j hj;refine aB 4 fun _ Y=>?_;simp (disch:=omega)[hq1,hq2,ga2,ga8,ga12];and_intros<;>(try omega);apply Y;simp only [List.drop];refine cJ 20 (by simp <;> rfl) ?_;refine ⟨fun g3 => ?_, fun g3 => ?_⟩
   ·try simp at g3
    obtain ⟨i, rfl⟩ := Int.eq_ofNat_of_zero_le g3;simp (disch:=omega)[hq1,hq2,ga2,ga8,ga12];and_intros<;>(try omega);apply Z;refine zi ?_;refine ⟨fun c4=>?_,fun c4=>?_⟩
    ·try simp at c4
     refine zk [0,1,2,3] ?_;refine zt ⟨[],[],[],[26,35],[]⟩ fun _ _ Z=>?_;simp (disch:=omega)[hq1,hq2];and_intros<;>(try omega);apply Z;simp [aS];unfold nO;rw [if_pos (by omega)];simp;rw [List.set_eq_take_append_cons_drop (l := dM σ (base + j)), if_pos (by have := hq2 j hj; omega)]
    ·try simp at c4
     apply aG;simp [aS];unfold nO;rw [if_neg (by omega)]
   ·try simp at g3
    simp (disch:=omega)[hq1,hq2,ga2,ga8,ga12];and_intros<;>(try omega);apply Z;refine cI (t := false) (by simp) (fun h => by cases h) (fun _ => ?_);apply aG;simp [aS];unfold nO;rw [if_neg (by omega)]
  ·try simp at g2
   refine aB 4 fun _ Y=>?_;simp (disch:=omega)[hq1,hq2,ga2,ga8,ga12];and_intros<;>(try omega);apply Y;simp only [List.drop];simp (disch:=omega)[hq1,hq2,ga2,ga8,ga12];and_intros<;>(try omega);apply Z;refine cI (t := false) (by simp) (fun h => by cases h) (fun _ => ?_);apply aG;simp [aS];unfold nO;rw [if_neg (by omega)]
 ·try simp at g1
  refine aB 6 fun _ Y=>?_;simp (disch:=omega)[hq1,hq2,ga2,ga8,ga12];and_intros<;>(try omega);apply Y;simp only [List.drop];refine aB 4 fun _ Y=>?_;simp (disch:=omega)[hq1,hq2,ga2,ga8,ga12];and_intros<;>(try omega);apply Y;simp only [List.drop];simp (disch:=omega)[hq1,hq2,ga2,ga8,ga12];and_intros<;>(try omega);apply Z;refine cI (t := false) (by simp) (fun h => by cases h) (fun _ => ?_);apply aG;simp [aS];unfold nO;rw [if_neg (by omega)]
theorem Dw {σ : List (List D)} {base w H : Nat} (h : fF σ base w H) (x y : Int) (b : Nat) : fF (nO σ base w H x y b) base w H := fun j hj => by
 obtain ⟨h1, h2⟩ := h j hj;unfold nO;split
 ·rename_i hc;have hlt : base + j < σ.length := (List.getElem?_eq_some_iff.1 h1).1;by_cases e : base + y.toNat = base + j
  ·have hr : (σ.set (base + y.toNat) ((dM σ (base + y.toNat)).set x.toNat (.v (.int .u8 b))))[base + j]? = some ((dM σ (base + j)).set x.toNat (.v (.int .u8 b))) := by
    rw [e, List.getElem?_set_self hlt]
   have hr2 : dM (σ.set (base + y.toNat) ((dM σ (base + y.toNat)).set x.toNat (.v (.int .u8 b)))) (base + j) = (dM σ (base + j)).set x.toNat (.v (.int .u8 b)) := by unfold dM at hr ⊢; rw [hr]; rfl
   exact ⟨by rw [hr, hr2], by rw [hr2, List.length_set]; exact h2⟩
  ·have hr : (σ.set (base + y.toNat) ((dM σ (base + y.toNat)).set x.toNat (.v (.int .u8 b))))[base + j]? = σ[base + j]? := List.getElem?_set_ne e;have hr2 : dM (σ.set (base + y.toNat) ((dM σ (base + y.toNat)).set x.toNat (.v (.int .u8 b)))) (base + j) = dM σ (base + j) := by unfold dM at hr ⊢; rw [hr]
   exact ⟨by rw [hr, hr2]; exact h1, by rw [hr2]; exact h2⟩
 ·exact ⟨h1, h2⟩
def jQ (base w H : Nat) (q : RC) (s : ByteArray) (σ : List (List D)) : Nat → List (List D)
 | 0 => σ
 | k + 1 => nO (jQ base w H q s σ k) base w H (iV q.x k) q.y (jS s k)
theorem lX {σ : List (List D)} {base w H : Nat} (h : fF σ base w H) (q : RC) (s : ByteArray) : ∀ k, fF (jQ base w H q s σ k) base w H
 | 0 => h
 | k + 1 => Dw (lX h q s k) _ _ _
theorem vR (s : ByteArray) (k : Nat) : jS s k ≤ 255 := by unfold jS; have := (s.data[k]?.getD 0).toNat_lt; omega
def jD (base w H : Nat) (q : RC) (b : Nat) (y : Nat) (σ : List (List D)) : Nat → List (List D)
 | 0 => σ
 | k + 1 => if rK q k y = true then nO (jD base w H q b y σ k) base w H k y b else jD base w H q b y σ k
theorem kY {σ : List (List D)} {base w H : Nat} (h : fF σ base w H) (q : RC) (b y : Nat) : ∀ k, fF (jD base w H q b y σ k) base w H
 | 0 => h
 | k + 1 => by
  simp only [jD];split
  ·exact Dw (kY h q b y k) _ _ _
  ·exact kY h q b y k
def kJ (base w H : Nat) (q : RC) (b : Nat) (σ : List (List D)) : Nat → List (List D)
 | 0 => σ
 | k + 1 => jD base w H q b k (kJ base w H q b σ k) w
theorem lF {σ : List (List D)} {base w H : Nat} (h : fF σ base w H) (q : RC) (b : Nat) : ∀ k, fF (kJ base w H q b σ k) base w H
 | 0 => h
 | k + 1 => kY (lF h q b k) q b k w
end Go.Proofs.YtighdhfgcdjmeaaGreatDoor
namespace Go.Proofs.YtighdhfgcdjmeaaGreatDoor
open Go Go.Vm
set_option maxRecDepth 20000
set_option linter.all false
set_option maxHeartbeats 8000000
theorem Ig (base w H : Nat) (q : RC) (b : Nat) (σ : List (List D)) (hb : b ≤ 255) (hH : H ≤ 100) (hw : w ≤ 200) (hr : fF σ base w H) : Ct Tryz.prog 53 [.sl false (tD base w H), oS q, .v (.int .u8 b)] σ (fun r σ' => r = .tup [] ∧ σ' = kJ base w H q b σ H) := by
 refine zf (rs:=[]) Tryz.func53 Tryz.ntmps53 Tryz.results53 ?_;simp only [aQ];refine zr ⟨[],[],[],[17],[]⟩ fun _ _ Z=>?_;simp (disch:=omega);and_intros<;>(try omega);apply Z;refine zr ⟨[],[],[],[17],[]⟩ fun _ _ Z=>?_;simp (disch:=omega);and_intros<;>(try omega);apply Z;apply aI;refine zk [0,2,4,9,10] ?_;refine fS (fun (k : Nat) => [(10, .d (.v (.int .i64 (k : Int)))), (6, .d (.any)), (7, .d (.any))]) (fun (k : Nat) => [[D.int q.x, D.int q.y, D.int q.w, D.int q.h]]) (fun (k : Nat) => kJ base w H q b σ k) [6, 7, 10, 11, 12, 13, 14, 15, 16, 17, 18, 19, 20, 21, 22, 23, 24, 25, 26, 27, 28, 29, 30, 31] (fun (k : Nat) => k ≤ H) (fun (k : Nat) => H - k) (0) (by simp <;> rfl) ?_ (by simp) rfl ?_ ?_
 ·simp [kJ]
 ·simp
 rintro k hk;simp only [List.cons_append, List.nil_append];have hq1 : ∀ j, j < H → (kJ base w H q b σ k)[base + j]? = some (dM (kJ base w H q b σ k) (base + j)) := fun j h => (lF hr q b k j h).1;refine zr ⟨[],[],[],[17],[]⟩ fun _ _ Z=>?_;simp (disch:=omega);and_intros<;>(try omega);apply Z;apply aE;refine zi ?_;refine ⟨fun c1=>?_,fun c1=>?_⟩
 ·try simp at c1
  apply aG;apply aC;apply aE;apply aI;refine zr ⟨[],[],[],[17],[]⟩ fun _ _ Z=>?_;simp (disch:=omega);and_intros<;>(try omega);apply Z;refine zr ⟨[],[],[],[17],[]⟩ fun _ _ Z=>?_;simp (disch:=omega);and_intros<;>(try omega);apply Z;apply aI;refine zk [0,2,4,6,7,9,10,17,18] ?_;refine fS (fun (m : Nat) => [(18, .d (.v (.int .i64 (m : Int)))), (7, .d (.any))]) (fun (m : Nat) => [[D.int q.x, D.int q.y, D.int q.w, D.int q.h]]) (fun (m : Nat) => jD base w H q b k (kJ base w H q b σ k) m) [7, 18, 19, 20, 21, 22, 23, 24, 25, 26, 27, 28, 29, 30] (fun (m : Nat) => m ≤ w) (fun (m : Nat) => w - m) (0) (by simp <;> rfl) ?_ (by simp) rfl ?_ ?_
  ·simp [jD]
  ·simp
  rintro m hm;simp only [List.cons_append, List.nil_append];refine zr ⟨[],[],[],[17],[]⟩ fun _ _ Z=>?_;simp (disch:=omega);and_intros<;>(try omega);apply Z;apply aE;refine zi ?_;refine ⟨fun c2=>?_,fun c2=>?_⟩
  ·try simp at c2
   apply aG;apply aC;apply aE;apply aI;refine zr ⟨[],[],[],[17],[]⟩ fun _ _ Z=>?_;simp (disch:=omega);and_intros<;>(try omega);apply Z;refine zk [0,2,4,6,7,9,10,17,18] ?_;refine zr ⟨[],[],[],[17],[]⟩ fun _ _ Z=>?_;refine aB 3 fun _ Y=>?_;simp (disch:=omega);and_intros<;>(try omega);apply Y;simp only [List.drop];refine aH fun _ Y=>?_;simp (disch:=omega);refine dW (Dk q m k _) ?_;apply Y;simp only [eX];apply Z;refine zi ?_;refine ⟨fun c3=>?_,fun c3=>?_⟩
   ·try simp at c3
    refine zk [0,2,4,6,7,9,10,17,18] ?_;refine zt ⟨[],[],[],[17],[]⟩ fun _ _ Z=>?_;refine aB 4 fun _ Y=>?_;simp (disch:=omega);and_intros<;>(try omega);apply Y;simp only [List.drop];refine aH fun _ Y=>?_;simp (disch:=omega);refine dW (zW base w H m k b _ hb hH hw (kY (lF hr q b k) q b k m)) ?_;apply Y;simp only [eX];apply Z;apply aN;apply aC;refine zk [0,2,4,6,7,9,10,17,18] ?_;refine zt ⟨[],[],[],[17],[]⟩ fun _ _ Z=>?_;simp (disch:=omega);and_intros<;>(try omega);apply Z;refine bJ (m + 1) ?_ ?_ (aV rfl ?_ (by simp) (by simp [jD, *]))
    ·omega
    ·try dsimp only
     omega
    ·simp (disch:=omega)
   ·try simp at c3
    apply aG;apply aN;apply aC;refine zk [0,2,4,6,7,9,10,17,18] ?_;refine zt ⟨[],[],[],[17],[]⟩ fun _ _ Z=>?_;simp (disch:=omega);and_intros<;>(try omega);apply Z;refine bJ (m + 1) ?_ ?_ (aV rfl ?_ (by simp) (by simp [jD, *]))
    ·omega
    ·try dsimp only
     omega
    ·simp (disch:=omega)
  ·try simp at c2
   obtain rfl : m = w := by omega
   apply bD;apply bE;apply bG;apply aY;apply aN;apply aC;refine zt ⟨[],[],[],[17],[]⟩ fun _ _ Z=>?_;simp (disch:=omega);and_intros<;>(try omega);apply Z;refine bJ (k + 1) ?_ ?_ (aV rfl ?_ (by simp) (by simp [kJ]))
   ·omega
   ·try dsimp only
    omega
   ·simp (disch:=omega)
 ·try simp at c1
  obtain rfl : k = H := by omega
  apply bD;apply bE;apply bG;apply aY;simp [aS]
theorem Bq (base w H : Nat) (q : RC) (s : ByteArray) (σ : List (List D)) (hs : s.size ≤ 1000000) (hH : H ≤ 100) (hw : w ≤ 200) (hr : fF σ base w H) : Ct Tryz.prog 52 [.sl false (tD base w H), oS q, D.str s] σ (fun r σ' => r = .tup [] ∧ σ' = if q.x > 200 ∨ q.y < 0 ∨ (H : Int) ≤ q.y then σ else jQ base w H q s σ s.size) := by
 refine zf (rs:=[]) Tryz.func52 Tryz.ntmps52 Tryz.results52 ?_;simp only [aQ];refine bV fun _ _ Z=>?_;simp (disch:=omega);and_intros<;>(try omega);apply Z;apply aE;refine Du ⟨[],[],[],[],[]⟩ fun all hall _ Z=>?_;have ga3 : bA all 3 = some 10 := hall 3;have ga8 : bA all 8 = some 15 := hall 8;refine aB 4 fun _ Y=>?_;simp (disch:=omega)[ga3,ga8];and_intros<;>(try omega);apply Y;simp only [List.drop];refine cJ 10 (by simp <;> rfl) ?_;refine ⟨fun g1 => ?_, fun g1 => ?_⟩
 ·try simp at g1
  refine aB 5 fun _ Y=>?_;simp (disch:=omega)[ga3,ga8];and_intros<;>(try omega);apply Y;simp only [List.drop];simp (disch:=omega)[ga3,ga8];and_intros<;>(try omega);apply Z;refine cI (t := true) (by simp) (fun _ => ?_) (fun h => by cases h);apply aF;apply bK;simp [aS];first | (intros; omega) | (rw [if_neg (by omega)]; done) | skip
 ·try simp at g1
  refine aB 5 fun _ Y=>?_;simp (disch:=omega)[ga3,ga8];and_intros<;>(try omega);apply Y;simp only [List.drop];refine cJ 15 (by simp <;> rfl) ?_;refine ⟨fun g2 => ?_, fun g2 => ?_⟩
  ·try simp at g2
   simp (disch:=omega)[ga3,ga8];and_intros<;>(try omega);apply Z;refine cI (t := true) (by simp) (fun _ => ?_) (fun h => by cases h);apply aF;apply bK;simp [aS];first | (intros; omega) | (rw [if_neg (by omega)]; done) | skip
  ·try simp at g2
   simp (disch:=omega)[ga3,ga8];and_intros<;>(try omega);apply Z;refine zi ?_;refine ⟨fun c3=>?_,fun c3=>?_⟩
   ·try simp at c3
    apply aF;apply bK;simp [aS];first | (intros; omega) | (rw [if_neg (by omega)]; done) | skip
   ·try simp at c3
    apply aG;apply aC;refine zk [0,2,4] ?_;refine bV fun _ _ Z=>?_;simp (disch:=omega);and_intros<;>(try omega);apply Z;apply aI;refine zk [0,2,4,23,24] ?_;refine fS (fun (k : Nat) => [(24, .d (.v (.int .i64 (k : Int)))), (6, .d (.any))]) (fun (k : Nat) => [[D.int q.x, D.int q.y, D.int q.w, D.int q.h]]) (fun (k : Nat) => jQ base w H q s σ k) [6, 24, 25, 26, 27, 28, 29, 30, 31, 32, 33, 34, 35, 36, 37, 38] (fun (k : Nat) => k ≤ s.size) (fun (k : Nat) => s.size - k) (0) (by simp <;> rfl) ?_ (by simp) rfl ?_ ?_
    ·simp [jQ]
    ·simp
    rintro k hk;simp only [List.cons_append, List.nil_append];refine bV fun _ _ Z=>?_;simp (disch:=omega);and_intros<;>(try omega);apply Z;apply aE;refine zi ?_;refine ⟨fun c4=>?_,fun c4=>?_⟩
    ·try simp at c4
     apply aG;apply aC;apply aE;apply aI;refine bV fun _ _ Z=>?_;simp (disch:=omega);and_intros<;>(try omega);apply Z;refine ze ⟨[],[],[],[],[]⟩ [.op {},.op {},.op {rL:=true},.op {},.pure,.op {},.op {rL:=true},.op {},.op {},.op {},.det] fun all hall _ Z=>?_;refine aL 4 (by simp) fun _ Y=>?_;simp (disch:=omega);and_intros<;>(try omega);apply Y;simp only [List.drop];refine bH fun _ Y=>?_;simp (disch:=omega);refine nG (fun _ => (oK q.x k _)) ?_;apply Y;refine aL 5 (by simp) fun _ Y=>?_;simp (disch:=omega);and_intros<;>(try omega);apply Y;simp only [List.drop];refine bH fun _ Y=>?_;simp (disch:=omega);refine zdd (zW base w H (iV q.x k) q.y (jS s k) _ (vR s k) hH hw (lX hr q s k)) ?_;apply Y;simp only [oA];apply Z;apply aN;apply aC;refine zk [0,2,4,6,23,24] ?_;refine Fe fun _ _ Z=>?_;simp (disch:=omega);and_intros<;>(try omega);apply Z;refine bJ (k + 1) ?_ ?_ (aV rfl ?_ (by simp) (by simp [jQ, jS]))
     ·omega
     ·try dsimp only
      omega
     ·simp (disch:=omega)
    ·try simp at c4
     obtain rfl : k = s.size := by omega
     apply bD;apply bE;apply bG;apply aY;simp [aS];first | (intros; omega) | (rw [if_neg (by omega)]; done) | skip
end Go.Proofs.YtighdhfgcdjmeaaGreatDoor
namespace Go.Proofs.YtighdhfgcdjmeaaGreatDoor
open Go Go.Vm
set_option maxRecDepth 20000
set_option linter.all false
set_option maxHeartbeats 8000000
def bR (l : List EN) (c : Int) : RC := if SI.fnd nE l c = true then ((l[SI.posL nE l c]?).map EN.rect).getD ⟨0, 0, 0, 0⟩ else ⟨0, 0, 0, 0⟩
theorem nN (l : List EN) (c : Int) (σ : List (List D)) (hl : l.length ≤ 999999) (hs : SI.Sorted nE l) : Ct Tryz.prog 32 [.sl false (l.map bP), D.int c] σ (fun r σ' => r = .tup [oS (bR l c), .bool (SI.fnd nE l c)] ∧ σ' = σ) := by
 cases hf : SI.fnd nE l c with
 | true =>
  have hlt := SI.fnd_lt nE hf;have hr : bR l c = (l[SI.posL nE l c]).rect := by unfold bR; rw [if_pos hf, List.getElem?_eq_getElem hlt]; rfl
  have h := Ot l c (l[SI.posL nE l c]) σ hl hs (List.getElem?_eq_getElem hlt) hf;rw [hr];exact h
 | false =>
  have hr : bR l c = ⟨0, 0, 0, 0⟩ := by unfold bR; rw [if_neg (by rw [hf]; decide)]
  rw [hr];refine (As l c σ hl hs).trim fun r σ' ⟨_, hr2, J, hs'⟩ => ?_;have hr3 := hr2 hf;have hsc : Sc σ.length r := by
   rw [hr3];exact Sc.tup fun d hd => by
    simp at hd;rcases hd with rfl | rfl
    ·exact Sc.agg fun e he => by simp at he; rw [he]; exact Sc.v _
    ·exact Sc.v _
  exact ⟨σ, J, hs', rfl, hsc, fun n cs h => .inl h, hr3, rfl⟩
abbrev Rw : ByteArray := ⟨#[116, 45, 119, 97, 105, 116]⟩
abbrev sU : ByteArray := ⟨#[105, 110, 107]⟩
def lZ (t : TN) : Bool := decide (¬ t.kind = 1) && zX Rw t.classes
def mU (t : TN) : Int := gI t.styles sU
def fZ (base w H : Nat) (t : TN) (l : List EN) (σ : List (List D)) : List (List D) :=
 if lZ t = true then σ else if SI.fnd nE l t.ID = false then σ else
 if t.kind = 1 then (if (bR l t.ID).x > 200 ∨ (bR l t.ID).y < 0 ∨ (H : Int) ≤ (bR l t.ID).y then σ else jQ base w H (bR l t.ID) t.text σ t.text.size)
 else if 33 ≤ mU t ∧ mU t ≤ 126 then kJ base w H (bR l t.ID) (mU t).toNat σ H else σ
theorem Ir (base w H : Nat) (t : TN) (l : List EN) (σ : List (List D)) (h : SO t) (hc : t.classes.length ≤ 1000000) (htx : t.text.size ≤ 1000000) (hl : l.length ≤ 999999) (hs : SI.Sorted nE l) (hH : H ≤ 100) (hw : w ≤ 200) (hr : fF σ base w H) : Ct Tryz.prog 27 [.sl false (tD base w H), gF t, .sl false (l.map bP)] σ (fun r σ' => r = .bool (!lZ t) ∧ σ' = fZ base w H t l σ) := by
 refine zf (rs:=[.tmp 6]) Tryz.func27 Tryz.ntmps27 Tryz.results27 ?_;simp only [aQ];refine bV fun _ _ Z=>?_;simp (disch:=omega);and_intros<;>(try omega);apply Z;apply aE;refine Du ⟨[],[],[],[],[]⟩ fun all hall _ Z=>?_;have ga3 : bA all 3 = some 13 := hall 3;refine aB 4 fun _ Y=>?_;simp (disch:=omega)[ga3];and_intros<;>(try omega);apply Y;simp only [List.drop];refine cJ 13 (by simp <;> rfl) ?_;refine ⟨fun g1 => ?_, fun g1 => ?_⟩
 ·try simp at g1
  refine aB 2 fun _ Y=>?_;simp (disch:=omega)[ga3];and_intros<;>(try omega);apply Y;simp only [List.drop];refine zg ga3 fun _ Y=>?_;simp (disch:=omega)[ga3];refine dW (Qi t.classes Rw _ (by omega)) ?_;apply Y;simp (disch:=omega)[ga3];and_intros<;>(try omega);apply Z;refine zi ?_;refine ⟨fun c2=>?_,fun c2=>?_⟩
  ·try simp at c2
   refine bV fun _ _ Z=>?_;simp (disch:=omega);and_intros<;>(try omega);apply Z;apply aF;apply bK;simp [aS, lZ, fZ, mU, *];try (first | (intro hh; exact absurd (hh (by omega)) (by omega)) | (intros; omega) | exact (if_neg (fun hh => by omega)).symm | exact if_neg (fun hh => by omega))
  ·try simp at c2
   apply aG;apply aC;refine bV fun _ _ Z=>?_;refine aB 3 fun _ Y=>?_;simp (disch:=omega);and_intros<;>(try omega);apply Y;simp only [List.drop];refine aH fun _ Y=>?_;simp (disch:=omega);refine dW (nN l t.ID _ hl hs) ?_;apply Y;simp (disch:=omega);and_intros<;>(try omega);apply Z;apply aE;refine zk [0,4,6,7,8] ?_;refine bV fun _ _ Z=>?_;refine aB 1 fun _ Y=>?_;simp (disch:=omega);and_intros<;>(try omega);apply Y;simp only [List.drop];refine aH fun _ Y=>?_;simp (disch:=omega);refine dW (rN t sU _ h) ?_;apply Y;simp (disch:=omega);and_intros<;>(try omega);apply Z;apply aI;refine bV fun _ _ Z=>?_;simp (disch:=omega);and_intros<;>(try omega);apply Z;refine zi ?_;refine ⟨fun c3=>?_,fun c3=>?_⟩
   ·try simp at c3
    apply aG;apply aN;apply aC;refine bV fun _ _ Z=>?_;simp (disch:=omega);and_intros<;>(try omega);apply Z;apply aF;simp [aS, lZ, fZ, mU, *];try (first | (intro hh; exact absurd (hh (by omega)) (by omega)) | (intros; omega) | exact (if_neg (fun hh => by omega)).symm | exact if_neg (fun hh => by omega))
   ·try simp at c3
    refine bV fun _ _ Z=>?_;simp (disch:=omega);and_intros<;>(try omega);apply Z;refine zi ?_;refine ⟨fun c4=>?_,fun c4=>?_⟩
    ·try simp at c4
     exact absurd c4 g1
    ·try simp at c4
     refine zk [0,6,7,9] ?_;refine Du ⟨[],[],[],[],[]⟩ fun all hall _ Z=>?_;have ga2 : bA all 2 = some 42 := hall 2;refine aB 3 fun _ Y=>?_;simp (disch:=omega)[ga2];and_intros<;>(try omega);apply Y;simp only [List.drop];refine cJ 42 (by simp <;> rfl) ?_;refine ⟨fun g5 => ?_, fun g5 => ?_⟩
     ·try simp at g5
      simp (disch:=omega)[ga2];and_intros<;>(try omega);apply Z;refine zi ?_;refine ⟨fun c6=>?_,fun c6=>?_⟩
      ·try simp at c6
       refine Fe fun _ _ Z=>?_;refine aB 4 fun _ Y=>?_;simp (disch:=omega);and_intros<;>(try omega);apply Y;simp only [List.drop];refine aH fun _ Y=>?_;simp (disch:=omega);obtain ⟨b, hb⟩ := Int.eq_ofNat_of_zero_le (show 0 ≤ gI t.styles sU by omega);rw [hb];refine dW (Ig base w H (bR l t.ID) b _ (by omega) hH hw hr) ?_;apply Y;simp only [eX];apply Z;apply aN;apply aC;refine zk [6] ?_;refine bV fun _ _ Z=>?_;simp (disch:=omega);and_intros<;>(try omega);apply Z;apply aF;simp [aS, lZ, fZ, mU, *];try (first | (intro hh; exact absurd (hh (by omega)) (by omega)) | (intros; omega) | exact (if_neg (fun hh => by omega)).symm | exact if_neg (fun hh => by omega))
      ·try simp at c6
       apply aG;apply aN;apply aC;refine bV fun _ _ Z=>?_;simp (disch:=omega);and_intros<;>(try omega);apply Z;apply aF;simp [aS, lZ, fZ, mU, *];try (first | (intro hh; exact absurd (hh (by omega)) (by omega)) | (intros; omega) | exact (if_neg (fun hh => by omega)).symm | exact if_neg (fun hh => by omega))
     ·try simp at g5
      simp (disch:=omega)[ga2];and_intros<;>(try omega);apply Z;refine cI (t := false) (by simp) (fun h => by cases h) (fun _ => ?_);apply aG;apply aN;apply aC;refine bV fun _ _ Z=>?_;simp (disch:=omega);and_intros<;>(try omega);apply Z;apply aF;simp [aS, lZ, fZ, mU, *];try (first | (intro hh; exact absurd (hh (by omega)) (by omega)) | (intros; omega) | exact (if_neg (fun hh => by omega)).symm | exact if_neg (fun hh => by omega))
 ·try simp at g1
  simp (disch:=omega)[ga3];and_intros<;>(try omega);apply Z;refine cI (t := false) (by simp) (fun h => by cases h) (fun _ => ?_);apply aG;apply aC;refine bV fun _ _ Z=>?_;refine aB 3 fun _ Y=>?_;simp (disch:=omega);and_intros<;>(try omega);apply Y;simp only [List.drop];refine aH fun _ Y=>?_;simp (disch:=omega);refine dW (nN l t.ID _ hl hs) ?_;apply Y;simp (disch:=omega);and_intros<;>(try omega);apply Z;apply aE;refine zk [0,4,6,7,8] ?_;refine bV fun _ _ Z=>?_;refine aB 1 fun _ Y=>?_;simp (disch:=omega);and_intros<;>(try omega);apply Y;simp only [List.drop];refine aH fun _ Y=>?_;simp (disch:=omega);refine dW (rN t sU _ h) ?_;apply Y;simp (disch:=omega);and_intros<;>(try omega);apply Z;apply aI;refine bV fun _ _ Z=>?_;simp (disch:=omega);and_intros<;>(try omega);apply Z;refine zi ?_;refine ⟨fun c7=>?_,fun c7=>?_⟩
  ·try simp at c7
   apply aG;apply aN;apply aC;refine bV fun _ _ Z=>?_;simp (disch:=omega);and_intros<;>(try omega);apply Z;apply aF;simp [aS, lZ, fZ, mU, *];try (first | (intro hh; exact absurd (hh (by omega)) (by omega)) | (intros; omega) | exact (if_neg (fun hh => by omega)).symm | exact if_neg (fun hh => by omega))
  ·try simp at c7
   refine bV fun _ _ Z=>?_;simp (disch:=omega);and_intros<;>(try omega);apply Z;refine zi ?_;refine ⟨fun c8=>?_,fun c8=>?_⟩
   ·try simp at c8
    refine zk [0,4,6,7] ?_;refine Fe fun _ _ Z=>?_;refine aB 4 fun _ Y=>?_;simp (disch:=omega);and_intros<;>(try omega);apply Y;simp only [List.drop];refine aH fun _ Y=>?_;simp (disch:=omega);refine dW (Bq base w H (bR l t.ID) t.text _ htx hH hw hr) ?_;apply Y;simp only [eX];apply Z;apply aN;apply aC;refine bV fun _ _ Z=>?_;simp (disch:=omega);and_intros<;>(try omega);apply Z;apply aF;simp [aS, lZ, fZ, mU, *];try (first | (intro hh; exact absurd (hh (by omega)) (by omega)) | (intros; omega) | exact (if_neg (fun hh => by omega)).symm | exact if_neg (fun hh => by omega))
   ·try simp at c8
    exact absurd g1 c8
end Go.Proofs.YtighdhfgcdjmeaaGreatDoor
namespace Go.Proofs.YtighdhfgcdjmeaaGreatDoor
open Go Go.Vm
set_option maxRecDepth 20000
set_option linter.all false
set_option maxHeartbeats 8000000
theorem Jr (m base w H : Nat) (t : TN) (l : List EN) (σ : List (List D)) (h : SO t) (hc : t.classes.length ≤ 1000000) (htx : t.text.size ≤ 1000000) (hl : l.length ≤ 999999) (hs : SI.Sorted nE l) (hH : H ≤ 100) (hw : w ≤ 200) (hr : fF σ base w H) (hq : σ[m]? = some [.sl true (tD base w H)]) : Ct Tryz.prog 26 [gF t, .sl false (l.map bP), .ref m 0] σ (fun r σ' => r = .tup [.sl false (l.map bP), .bool (!lZ t)] ∧ σ' = fZ base w H t l σ) := by
 refine zf (rs:=[.tmp 5,.tmp 6]) Tryz.func26 Tryz.ntmps26 Tryz.results26 ?_;simp only [aQ];refine bV fun _ _ Z=>?_;simp[hq];and_intros<;>(try omega);apply Z;refine bV fun _ _ Z=>?_;refine aB 4 fun _ Y=>?_;simp[hq];and_intros<;>(try omega);apply Y;simp only [List.drop];refine aH fun _ Y=>?_;simp[hq];refine dW (Ir base w H t l _ h hc htx hl hs hH hw hr) ?_;apply Y;simp[hq];and_intros<;>(try omega);apply Z;apply aF;simp [aS]
theorem Jm {σ : List (List D)} {base : Nat} (w H : Nat) (x y : Int) (b m : Nat) (hm : m < base ∨ base + H ≤ m) : (nO σ base w H x y b)[m]? = σ[m]? := by
 unfold nO; split
 ·rename_i hc; exact List.getElem?_set_ne (by omega)
 ·rfl
theorem zQ {base m : Nat} (w H : Nat) (q : RC) (s : ByteArray) (σ : List (List D)) (hm : m < base ∨ base + H ≤ m) : ∀ k, (jQ base w H q s σ k)[m]? = σ[m]?
 | 0 => rfl
 | k + 1 => (Jm w H _ _ _ m hm).trans (zQ w H q s σ hm k)
theorem wD {base m : Nat} (w H : Nat) (q : RC) (b y : Nat) (σ : List (List D)) (hm : m < base ∨ base + H ≤ m) : ∀ k, (jD base w H q b y σ k)[m]? = σ[m]?
 | 0 => rfl
 | k + 1 => by
  simp only [jD];split
  ·exact (Jm w H _ _ _ m hm).trans (wD w H q b y σ hm k)
  ·exact wD w H q b y σ hm k
theorem Ev {base m : Nat} (w H : Nat) (q : RC) (b : Nat) (σ : List (List D)) (hm : m < base ∨ base + H ≤ m) : ∀ k, (kJ base w H q b σ k)[m]? = σ[m]?
 | 0 => rfl
 | k + 1 => (wD w H q b k _ hm w).trans (Ev w H q b σ hm k)
theorem wS {base m : Nat} (w H : Nat) (t : TN) (l : List EN) (σ : List (List D)) (hm : m < base ∨ base + H ≤ m) : (fZ base w H t l σ)[m]? = σ[m]? := by
 unfold fZ
 repeat' split
 all_goals first | rfl | exact zQ w H _ _ _ hm _ | exact Ev w H _ _ _ hm _
theorem nZ {base w H : Nat} {σ : List (List D)} (h : fF σ base w H) (t : TN) (l : List EN) : fF (fZ base w H t l σ) base w H := by
 unfold fZ
 repeat' split
 all_goals first | exact h | exact lX h _ _ _ | exact lF h _ _ _
def gH (base w H : Nat) (l : List EN) : Nat → TN → List (List D) → List (List D)
 | 0, _ => fun σ => σ
 | n + 1, t => fun σ => if lZ t = true then fZ base w H t l σ else t.kids.foldl (fun τ k => gH base w H l n k τ) (fZ base w H t l σ)
theorem rG {base m : Nat} (w H : Nat) (l : List EN) (hm : m < base ∨ base + H ≤ m) : ∀ (n : Nat) (t : TN) (σ : List (List D)), (gH base w H l n t σ)[m]? = σ[m]?
 | 0, _, _ => rfl
 | n + 1, t, σ => by
  simp only [gH];split
  ·exact wS w H t l σ hm
  ·have hf : ∀ (ks : List TN) (τ : List (List D)), (ks.foldl (fun τ k => gH base w H l n k τ) τ)[m]? = τ[m]? := fun ks => by
    induction ks with
    | nil => exact fun _ => rfl
    | cons k ks ih => exact fun τ => (ih _).trans (rG w H l hm n k τ)
   exact (hf t.kids _).trans (wS w H t l σ hm)
theorem oL {base w H : Nat} (l : List EN) : ∀ (n : Nat) (t : TN) {σ : List (List D)}, fF σ base w H → fF (gH base w H l n t σ) base w H
 | 0, _, _, h => h
 | n + 1, t, σ, h => by
  simp only [gH];split
  ·exact nZ h t l
  ·have hf : ∀ (ks : List TN) (τ : List (List D)), fF τ base w H → fF (ks.foldl (fun τ k => gH base w H l n k τ) τ) base w H := fun ks => by
    induction ks with
    | nil => exact fun _ h => h
    | cons k ks ih => exact fun τ h => ih _ (oL l n k h)
   exact hf t.kids _ (nZ h t l)
def Ol (base w H : Nat) (l : List EN) (n : Nat) (t : TN) (σ : List (List D)) (k : Nat) : List (List D) := (t.kids.take k).foldl (fun τ k => gH base w H l n k τ) (fZ base w H t l σ)
theorem Wh (base w H : Nat) (l : List EN) (n : Nat) (t : TN) (σ : List (List D)) : Ol base w H l n t σ 0 = fZ base w H t l σ := rfl
theorem yH (base w H : Nat) (l : List EN) (n : Nat) (t : TN) (σ : List (List D)) (k : Nat) (h : k < t.kids.length) : Ol base w H l n t σ (k + 1) = gH base w H l n t.kids[k] (Ol base w H l n t σ k) := by
 unfold Ol; rw [cF _ _ h, List.foldl_append]; rfl
theorem Pw (base w H : Nat) (l : List EN) (n : Nat) (t : TN) (σ : List (List D)) (h : lZ t = false) : Ol base w H l n t σ t.kids.length = gH base w H l (n + 1) t σ := by
 unfold Ol; rw [List.take_length]; simp only [gH, h]; rfl
theorem Fa {base w H m : Nat} {σ : List (List D)} (l : List EN) (n : Nat) (t : TN) (hm : m < base ∨ base + H ≤ m) (hr : fF σ base w H) : ∀ k, k ≤ t.kids.length → fF (Ol base w H l n t σ k) base w H ∧ (Ol base w H l n t σ k)[m]? = σ[m]?
 | 0, _ => ⟨nZ hr t l, wS w H t l σ hm⟩
 | k + 1, h => by
  obtain ⟨h1, h2⟩ := Fa l n t hm hr k (by omega);rw [yH _ _ _ _ _ _ _ _ (by omega)];exact ⟨oL l n _ h1, (rG w H l hm n _ _).trans h2⟩
abbrev Rn (m base w H : Nat) (l : List EN) (n : Nat) (t : TN) : Prop := ∀ τ : List (List D), fF τ base w H → τ[m]? = some [.sl true (tD base w H)] → Ct Tryz.prog 25 [gF t, .sl false (l.map bP), .clo (.func 26) [] [.ref m 0]] τ (fun r τ' => r = .tup [] ∧ τ' = gH base w H l n t τ)
theorem Ky (n m base w H : Nat) (t : TN) (l : List EN) (σ : List (List D)) (h : SO t) (hc : t.classes.length ≤ 1000000) (htx : t.text.size ≤ 1000000) (hl : l.length ≤ 999999) (hs : SI.Sorted nE l) (hH : H ≤ 100) (hw : w ≤ 200) (hr : fF σ base w H) (hk1 : t.kids.length ≤ 1000) (hm : m < base ∨ base + H ≤ m) (hq : σ[m]? = some [.sl true (tD base w H)]) (ih : ∀ k ∈ t.kids, Rn m base w H l n k) : Ct Tryz.prog 25 [gF t, .sl false (l.map bP), .clo (.func 26) [] [.ref m 0]] σ (fun r σ' => r = .tup [] ∧ σ' = gH base w H l (n + 1) t σ) := by
 refine zf (rs:=[]) Tryz.func25 Tryz.ntmps25 Tryz.results25 ?_;simp only [aQ];refine bV fun _ _ Z=>?_;simp (disch:=omega);and_intros<;>(try omega);apply Z;refine bV fun _ _ Z=>?_;refine aB 3 fun _ Y=>?_;simp (disch:=omega);and_intros<;>(try omega);apply Y;simp only [List.drop];refine aH fun _ Y=>?_;simp (disch:=omega);refine dW (Jr m base w H t l _ h hc htx hl hs hH hw hr hq) ?_;apply Y;simp (disch:=omega);and_intros<;>(try omega);apply Z;apply aE;refine bV fun _ _ Z=>?_;simp (disch:=omega);and_intros<;>(try omega);apply Z;refine zi ?_;refine ⟨fun c1=>?_,fun c1=>?_⟩
 ·try simp at c1
  apply aF;apply bK;simp [aS, gH, *]
 ·try simp at c1
  apply aG;apply aC;refine zk [2,3,6] ?_;refine bV fun _ _ Z=>?_;simp (disch:=omega);and_intros<;>(try omega);apply Z;apply aI;refine zk [2,6,20,21,22] ?_;refine fS (fun (k : Nat) => [(22, .d (.v (.int .i64 (k : Int)))), (9, .d (.any))]) (fun (k : Nat) => [[D.int t.ID, D.int t.kind, D.str t.tag, D.str t.text, .sl false (t.classes.map D.str), .sl false (t.attrs.map bY), .sl false (t.styles.map bS), .sl false (t.kids.map mX)]]) (fun (k : Nat) => Ol base w H l n t σ k) [9, 22, 23, 24, 25, 26, 27, 28, 29, 30] (fun (k : Nat) => k ≤ t.kids.length) (fun (k : Nat) => t.kids.length - k) (0) (by simp <;> rfl) ?_ (by simp) rfl ?_ ?_
  ·simp [Wh]
  ·simp
  rintro k hk;simp only [List.cons_append, List.nil_append];have hkm := Fa l n t hm hr k hk;refine bV fun _ _ Z=>?_;simp (disch:=omega);and_intros<;>(try omega);apply Z;apply aE;refine zi ?_;refine ⟨fun c2=>?_,fun c2=>?_⟩
  ·try simp at c2
   apply aG;apply aC;apply aE;apply aI;refine bV fun _ _ Z=>?_;simp (disch:=omega);and_intros<;>(try omega);apply Z;refine Fe fun _ _ Z=>?_;refine aB 3 fun _ Y=>?_;simp (disch:=omega);and_intros<;>(try omega);apply Y;simp only [List.drop];refine aH fun _ Y=>?_;simp (disch:=omega);refine dW (ih t.kids[k] (List.getElem_mem _) _ hkm.1 (hkm.2.trans hq)) ?_;apply Y;simp only [eX];apply Z;apply aN;apply aC;refine zk [2,6,9,20,21,22] ?_;refine Fe fun _ _ Z=>?_;simp (disch:=omega);and_intros<;>(try omega);apply Z;refine bJ (k + 1) ?_ ?_ (aV rfl ?_ (by simp) (by simp [yH, *]))
   ·omega
   ·try dsimp only
    omega
   ·simp (disch:=omega)
  ·try simp at c2
   obtain rfl : k = t.kids.length := by omega
   apply bD;apply bE;apply bG;apply aY;simp [aS];exact Pw base w H l n t σ (by simpa using c1)
theorem Eo (m base w H : Nat) (l : List EN) (hl : l.length ≤ 999999) (hs : SI.Sorted nE l) (hH : H ≤ 100) (hw : w ≤ 200) (hm : m < base ∨ base + H ≤ m) : ∀ (n : Nat) (t : TN), n ≤ 1000 → TG t → dJ t ≤ n → Rn m base w H l n t
 | 0, t, _, _, h => absurd (dF t) (by omega)
 | n + 1, t, hn, hg, h => fun σ hr hq => by
  cases hg with
  | mk _ hf hk =>
   have hc := dF t;have hkl : ∀ ks : List TN, ks.length ≤ (ks.map dJ).sum := fun ks => by
    induction ks with
    | nil => exact Nat.le_refl _
    | cons a ks ih => have := dF a; simp only [List.map_cons, List.sum_cons, List.length_cons]; omega
   have hkm : ∀ (ks : List TN) (k : TN), k ∈ ks → dJ k ≤ (ks.map dJ).sum := fun ks => by
    induction ks with
    | nil => intro k hk; cases hk
    | cons a ks ih =>
     intro k hk;rcases List.mem_cons.1 hk with rfl | hk
     ·simp
     ·have := ih k hk; simp only [List.map_cons, List.sum_cons]; omega
   have hl2 := hkl t.kids;exact Ky n m base w H t l σ ⟨by have := hf.1.1; omega, hf.1.2⟩ (by have := hf.2.2.2; omega) (by have := hf.2.2.1; omega) hl hs hH hw hr (by omega) hm hq fun k hk' => Eo m base w H l hl hs hH hw hm n k (by omega) (hk k hk') (by have := hkm t.kids k hk'; omega)
end Go.Proofs.YtighdhfgcdjmeaaGreatDoor

