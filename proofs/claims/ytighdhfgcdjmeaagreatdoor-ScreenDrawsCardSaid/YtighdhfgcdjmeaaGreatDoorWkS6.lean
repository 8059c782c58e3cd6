import Derived.Test.YtighdhfgcdjmeaaGreatDoorWkS2
namespace Go.Proofs.YtighdhfgcdjmeaaGreatDoor
open Go Go.Vm
set_option maxRecDepth 20000
set_option linter.all false
set_option maxHeartbeats 8000000
def sD (base w H : Nat) : List D := (List.range H).map fun y => .slo (base + y) 0 w w
@[simp] theorem Vg (base w H : Nat) : (sD base w H).length = H := by simp [sD]
@[simp] theorem Vk (base w H y : Nat) (h : y < H) : (sD base w H)[y]? = some (.slo (base + y) 0 w w) := by simp [sD, h]
def dP (σ : List (List D)) (m : Nat) : List D := (σ[m]?).getD []
abbrev fH (σ : List (List D)) (base w H : Nat) : Prop := ∀ j, j < H → σ[base + j]? = some (dP σ (base + j)) ∧ w ≤ (dP σ (base + j)).length
def oJ (σ : List (List D)) (base w H : Nat) (x y : Int) (b : Nat) : List (List D) := if 0 ≤ y ∧ y < H ∧ 0 ≤ x ∧ x < w then σ.set (base + y.toNat) ((dP σ (base + y.toNat)).set x.toNat (.v (.int .u8 b))) else σ
theorem yH (base w H : Nat) (x y : Int) (b : Nat) (σ : List (List D)) (hb : b ≤ 255) (hH : H ≤ 100) (hw : w ≤ 200) (hr : fH σ base w H) : Ct Tryz.prog 79 [.sl false (sD base w H), D.int x, D.int y, .v (.int .u8 b)] σ (fun r σ' => r = .tup [] ∧ σ' = oJ σ base w H x y b) := by
 refine zf (rs:=[]) Tryz.func79 Tryz.ntmps79 Tryz.results79 ?_;simp only [aU];have hq1 : ∀ j, j < H → σ[base + j]? = some (dP σ (base + j)) := fun j h => (hr j h).1;have hq2 : ∀ j, j < H → w ≤ (dP σ (base + j)).length := fun j h => (hr j h).2;refine oA ⟨[],[],[],[26,35],[]⟩ fun all hall _ Z=>?_;have ga2 : aL all 2 = some 10 := hall 2;have ga8 : aL all 8 = some 16 := hall 8;have ga12 : aL all 12 = some 20 := hall 12;refine aA 3 fun _ Y=>?_;simp (disch:=omega)[hq1,hq2,ga2,ga8,ga12];and_intros<;>(try omega);apply Y;simp only [List.drop];refine aX 10 (by simp <;> rfl) ?_;refine ⟨fun g1 => ?_, fun g1 => ?_⟩
 ·try simp at g1
  obtain ⟨j, rfl⟩ := Int.eq_ofNat_of_zero_le g1;refine aA 6 fun _ Y=>?_;simp (disch:=omega)[hq1,hq2,ga2,ga8,ga12];and_intros<;>(try omega);apply Y;simp only [List.drop];refine aX 16 (by simp <;> rfl) ?_;refine ⟨fun g2 => ?_, fun g2 => ?_⟩
  ·try simp at g2
   have hj : j < H := by omega
   have hj2 := hq2 j hj;refine aA 4 fun _ Y=>?_;simp (disch:=omega)[hq1,hq2,ga2,ga8,ga12];and_intros<;>(try omega);apply Y;simp only [List.drop];refine aX 20 (by simp <;> rfl) ?_;refine ⟨fun g3 => ?_, fun g3 => ?_⟩
   ·try simp at g3
    obtain ⟨i, rfl⟩ := Int.eq_ofNat_of_zero_le g3;simp (disch:=omega)[hq1,hq2,ga2,ga8,ga12];and_intros<;>(try omega);apply Z;refine zi ?_;refine ⟨fun c4=>?_,fun c4=>?_⟩
    ·try simp at c4
     refine zk [0,1,2,3] ?_;refine zt ⟨[],[],[],[26,35],[]⟩ fun _ _ Z=>?_;simp (disch:=omega)[hq1,hq2];and_intros<;>(try omega);apply Z;simp [aQ];unfold oJ;rw [if_pos (by omega)];simp;rw [List.set_eq_take_append_cons_drop (l := dP σ (base + j)), if_pos (by have := hq2 j hj; omega)]
    ·try simp at c4
     apply aF;simp [aQ];unfold oJ;rw [if_neg (by omega)]
   ·try simp at g3
    simp (disch:=omega)[hq1,hq2,ga2,ga8,ga12];and_intros<;>(try omega);apply Z;refine bZ (t := false) (by simp) (fun h => by cases h) (fun _ => ?_);apply aF;simp [aQ];unfold oJ;rw [if_neg (by omega)]
  ·try simp at g2
   refine aA 4 fun _ Y=>?_;simp (disch:=omega)[hq1,hq2,ga2,ga8,ga12];and_intros<;>(try omega);apply Y;simp only [List.drop];simp (disch:=omega)[hq1,hq2,ga2,ga8,ga12];and_intros<;>(try omega);apply Z;refine bZ (t := false) (by simp) (fun h => by cases h) (fun _ => ?_);apply aF;simp [aQ];unfold oJ;rw [if_neg (by omega)]
 ·try simp at g1
  refine aA 6 fun _ Y=>?_;simp (disch:=omega)[hq1,hq2,ga2,ga8,ga12];and_intros<;>(try omega);apply Y;simp only [List.drop];refine aA 4 fun _ Y=>?_;simp (disch:=omega)[hq1,hq2,ga2,ga8,ga12];and_intros<;>(try omega);apply Y;simp only [List.drop];simp (disch:=omega)[hq1,hq2,ga2,ga8,ga12];and_intros<;>(try omega);apply Z;refine bZ (t := false) (by simp) (fun h => by cases h) (fun _ => ?_);apply aF;simp [aQ];unfold oJ;rw [if_neg (by omega)]
theorem Du {σ : List (List D)} {base w H : Nat} (h : fH σ base w H) (x y : Int) (b : Nat) : fH (oJ σ base w H x y b) base w H := fun j hj => by
 obtain ⟨h1, h2⟩ := h j hj;unfold oJ;split
 ·rename_i hc;have hlt : base + j < σ.length := (List.getElem?_eq_some_iff.1 h1).1;by_cases e : base + y.toNat = base + j
  ·have hr : (σ.set (base + y.toNat) ((dP σ (base + y.toNat)).set x.toNat (.v (.int .u8 b))))[base + j]? = some ((dP σ (base + j)).set x.toNat (.v (.int .u8 b))) := by
    rw [e, List.getElem?_set_self hlt]
   have hr2 : dP (σ.set (base + y.toNat) ((dP σ (base + y.toNat)).set x.toNat (.v (.int .u8 b)))) (base + j) = (dP σ (base + j)).set x.toNat (.v (.int .u8 b)) := by unfold dP at hr ⊢; rw [hr]; rfl
   exact ⟨by rw [hr, hr2], by rw [hr2, List.length_set]; exact h2⟩
  ·have hr : (σ.set (base + y.toNat) ((dP σ (base + y.toNat)).set x.toNat (.v (.int .u8 b))))[base + j]? = σ[base + j]? := List.getElem?_set_ne e;have hr2 : dP (σ.set (base + y.toNat) ((dP σ (base + y.toNat)).set x.toNat (.v (.int .u8 b)))) (base + j) = dP σ (base + j) := by unfold dP at hr ⊢; rw [hr]
   exact ⟨by rw [hr, hr2]; exact h1, by rw [hr2]; exact h2⟩
 ·exact ⟨h1, h2⟩
def kD (base w H : Nat) (q : RC) (s : ByteArray) (σ : List (List D)) : Nat → List (List D)
 | 0 => σ
 | k + 1 => oJ (kD base w H q s σ k) base w H (kZ q.x k) q.y (iP s k)
theorem lR {σ : List (List D)} {base w H : Nat} (h : fH σ base w H) (q : RC) (s : ByteArray) : ∀ k, fH (kD base w H q s σ k) base w H
 | 0 => h
 | k + 1 => Du (lR h q s k) _ _ _
theorem vH (s : ByteArray) (k : Nat) : iP s k ≤ 255 := by unfold iP; have := (s.data[k]?.getD 0).toNat_lt; omega
def jM (base w H : Nat) (q : RC) (b : Nat) (y : Nat) (σ : List (List D)) : Nat → List (List D)
 | 0 => σ
 | k + 1 => if inR q k y = true then oJ (jM base w H q b y σ k) base w H k y b else jM base w H q b y σ k
theorem kV {σ : List (List D)} {base w H : Nat} (h : fH σ base w H) (q : RC) (b y : Nat) : ∀ k, fH (jM base w H q b y σ k) base w H
 | 0 => h
 | k + 1 => by
  simp only [jM];split
  ·exact Du (kV h q b y k) _ _ _
  ·exact kV h q b y k
def kO (base w H : Nat) (q : RC) (b : Nat) (σ : List (List D)) : Nat → List (List D)
 | 0 => σ
 | k + 1 => jM base w H q b k (kO base w H q b σ k) w
theorem lL {σ : List (List D)} {base w H : Nat} (h : fH σ base w H) (q : RC) (b : Nat) : ∀ k, fH (kO base w H q b σ k) base w H
 | 0 => h
 | k + 1 => kV (lL h q b k) q b k w
end Go.Proofs.YtighdhfgcdjmeaaGreatDoor
namespace Go.Proofs.YtighdhfgcdjmeaaGreatDoor
open Go Go.Vm
set_option maxRecDepth 20000
set_option linter.all false
set_option maxHeartbeats 8000000
theorem Es (base w H : Nat) (q : RC) (b : Nat) (σ : List (List D)) (hb : b ≤ 255) (hH : H ≤ 100) (hw : w ≤ 200) (hr : fH σ base w H) : Ct Tryz.prog 53 [.sl false (sD base w H), xS q, .v (.int .u8 b)] σ (fun r σ' => r = .tup [] ∧ σ' = kO base w H q b σ H) := by
 refine zf (rs:=[]) Tryz.func53 Tryz.ntmps53 Tryz.results53 ?_;simp only [aU];refine zr ⟨[],[],[],[17],[]⟩ fun _ _ Z=>?_;simp (disch:=omega);and_intros<;>(try omega);apply Z;refine zr ⟨[],[],[],[17],[]⟩ fun _ _ Z=>?_;simp (disch:=omega);and_intros<;>(try omega);apply Z;apply aH;refine zk [0,2,4,9,10] ?_;refine gP (fun (k : Nat) => [(10, .d (.v (.int .i64 (k : Int)))), (6, .d (.any)), (7, .d (.any))]) (fun (k : Nat) => [[D.int q.x, D.int q.y, D.int q.w, D.int q.h]]) (fun (k : Nat) => kO base w H q b σ k) [6, 7, 10, 11, 12, 13, 14, 15, 16, 17, 18, 19, 20, 21, 22, 23, 24, 25, 26, 27, 28, 29, 30, 31] (fun (k : Nat) => k ≤ H) (fun (k : Nat) => H - k) (0) (by simp <;> rfl) ?_ (by simp) rfl ?_ ?_
 ·simp [kO]
 ·simp
 rintro k hk;simp only [List.cons_append, List.nil_append];have hq1 : ∀ j, j < H → (kO base w H q b σ k)[base + j]? = some (dP (kO base w H q b σ k) (base + j)) := fun j h => (lL hr q b k j h).1;refine zr ⟨[],[],[],[17],[]⟩ fun _ _ Z=>?_;simp (disch:=omega);and_intros<;>(try omega);apply Z;apply aE;refine zi ?_;refine ⟨fun c1=>?_,fun c1=>?_⟩
 ·try simp at c1
  apply aF;apply aB;apply aE;apply aH;refine zr ⟨[],[],[],[17],[]⟩ fun _ _ Z=>?_;simp (disch:=omega);and_intros<;>(try omega);apply Z;refine zr ⟨[],[],[],[17],[]⟩ fun _ _ Z=>?_;simp (disch:=omega);and_intros<;>(try omega);apply Z;apply aH;refine zk [0,2,4,6,7,9,10,17,18] ?_;refine gP (fun (m : Nat) => [(18, .d (.v (.int .i64 (m : Int)))), (7, .d (.any))]) (fun (m : Nat) => [[D.int q.x, D.int q.y, D.int q.w, D.int q.h]]) (fun (m : Nat) => jM base w H q b k (kO base w H q b σ k) m) [7, 18, 19, 20, 21, 22, 23, 24, 25, 26, 27, 28, 29, 30] (fun (m : Nat) => m ≤ w) (fun (m : Nat) => w - m) (0) (by simp <;> rfl) ?_ (by simp) rfl ?_ ?_
  ·simp [jM]
  ·simp
  rintro m hm;simp only [List.cons_append, List.nil_append];refine zr ⟨[],[],[],[17],[]⟩ fun _ _ Z=>?_;simp (disch:=omega);and_intros<;>(try omega);apply Z;apply aE;refine zi ?_;refine ⟨fun c2=>?_,fun c2=>?_⟩
  ·try simp at c2
   apply aF;apply aB;apply aE;apply aH;refine zr ⟨[],[],[],[17],[]⟩ fun _ _ Z=>?_;simp (disch:=omega);and_intros<;>(try omega);apply Z;refine zk [0,2,4,6,7,9,10,17,18] ?_;refine zr ⟨[],[],[],[17],[]⟩ fun _ _ Z=>?_;refine aA 3 fun _ Y=>?_;simp (disch:=omega);and_intros<;>(try omega);apply Y;simp only [List.drop];refine aI fun _ Y=>?_;simp (disch:=omega);refine dO (Cd q m k _) ?_;apply Y;simp only [jY];apply Z;refine zi ?_;refine ⟨fun c3=>?_,fun c3=>?_⟩
   ·try simp at c3
    refine zk [0,2,4,6,7,9,10,17,18] ?_;refine zt ⟨[],[],[],[17],[]⟩ fun _ _ Z=>?_;refine aA 4 fun _ Y=>?_;simp (disch:=omega);and_intros<;>(try omega);apply Y;simp only [List.drop];refine aI fun _ Y=>?_;simp (disch:=omega);refine dO (yH base w H m k b _ hb hH hw (kV (lL hr q b k) q b k m)) ?_;apply Y;simp only [jY];apply Z;apply aN;apply aB;refine zk [0,2,4,6,7,9,10,17,18] ?_;refine zt ⟨[],[],[],[17],[]⟩ fun _ _ Z=>?_;simp (disch:=omega);and_intros<;>(try omega);apply Z;refine bL (m + 1) ?_ ?_ (aW rfl ?_ (by simp) (by simp [jM, *]))
    ·omega
    ·try dsimp only
     omega
    ·simp (disch:=omega)
   ·try simp at c3
    apply aF;apply aN;apply aB;refine zk [0,2,4,6,7,9,10,17,18] ?_;refine zt ⟨[],[],[],[17],[]⟩ fun _ _ Z=>?_;simp (disch:=omega);and_intros<;>(try omega);apply Z;refine bL (m + 1) ?_ ?_ (aW rfl ?_ (by simp) (by simp [jM, *]))
    ·omega
    ·try dsimp only
     omega
    ·simp (disch:=omega)
  ·try simp at c2
   obtain rfl : m = w := by omega
   apply bB;apply bC;apply bA;apply aS;apply aN;apply aB;refine zt ⟨[],[],[],[17],[]⟩ fun _ _ Z=>?_;simp (disch:=omega);and_intros<;>(try omega);apply Z;refine bL (k + 1) ?_ ?_ (aW rfl ?_ (by simp) (by simp [kO]))
   ·omega
   ·try dsimp only
    omega
   ·simp (disch:=omega)
 ·try simp at c1
  obtain rfl : k = H := by omega
  apply bB;apply bC;apply bA;apply aS;simp [aQ]
theorem Aw (base w H : Nat) (q : RC) (s : ByteArray) (σ : List (List D)) (hs : s.size ≤ 1000000) (hH : H ≤ 100) (hw : w ≤ 200) (hr : fH σ base w H) : Ct Tryz.prog 52 [.sl false (sD base w H), xS q, D.str s] σ (fun r σ' => r = .tup [] ∧ σ' = if q.x > 200 ∨ q.y < 0 ∨ (H : Int) ≤ q.y then σ else kD base w H q s σ s.size) := by
 refine zf (rs:=[]) Tryz.func52 Tryz.ntmps52 Tryz.results52 ?_;simp only [aU];refine bP fun _ _ Z=>?_;simp (disch:=omega);and_intros<;>(try omega);apply Z;apply aE;refine oA ⟨[],[],[],[],[]⟩ fun all hall _ Z=>?_;have ga3 : aL all 3 = some 10 := hall 3;have ga8 : aL all 8 = some 15 := hall 8;refine aA 4 fun _ Y=>?_;simp (disch:=omega)[ga3,ga8];and_intros<;>(try omega);apply Y;simp only [List.drop];refine aX 10 (by simp <;> rfl) ?_;refine ⟨fun g1 => ?_, fun g1 => ?_⟩
 ·try simp at g1
  refine aA 5 fun _ Y=>?_;simp (disch:=omega)[ga3,ga8];and_intros<;>(try omega);apply Y;simp only [List.drop];simp (disch:=omega)[ga3,ga8];and_intros<;>(try omega);apply Z;refine bZ (t := true) (by simp) (fun _ => ?_) (fun h => by cases h);apply aG;apply bG;simp [aQ];first | (intros; omega) | (rw [if_neg (by omega)]; done) | skip
 ·try simp at g1
  refine aA 5 fun _ Y=>?_;simp (disch:=omega)[ga3,ga8];and_intros<;>(try omega);apply Y;simp only [List.drop];refine aX 15 (by simp <;> rfl) ?_;refine ⟨fun g2 => ?_, fun g2 => ?_⟩
  ·try simp at g2
   simp (disch:=omega)[ga3,ga8];and_intros<;>(try omega);apply Z;refine bZ (t := true) (by simp) (fun _ => ?_) (fun h => by cases h);apply aG;apply bG;simp [aQ];first | (intros; omega) | (rw [if_neg (by omega)]; done) | skip
  ·try simp at g2
   simp (disch:=omega)[ga3,ga8];and_intros<;>(try omega);apply Z;refine zi ?_;refine ⟨fun c3=>?_,fun c3=>?_⟩
   ·try simp at c3
    apply aG;apply bG;simp [aQ];first | (intros; omega) | (rw [if_neg (by omega)]; done) | skip
   ·try simp at c3
    apply aF;apply aB;refine zk [0,2,4] ?_;refine bP fun _ _ Z=>?_;simp (disch:=omega);and_intros<;>(try omega);apply Z;apply aH;refine zk [0,2,4,23,24] ?_;refine gP (fun (k : Nat) => [(24, .d (.v (.int .i64 (k : Int)))), (6, .d (.any))]) (fun (k : Nat) => [[D.int q.x, D.int q.y, D.int q.w, D.int q.h]]) (fun (k : Nat) => kD base w H q s σ k) [6, 24, 25, 26, 27, 28, 29, 30, 31, 32, 33, 34, 35, 36, 37, 38] (fun (k : Nat) => k ≤ s.size) (fun (k : Nat) => s.size - k) (0) (by simp <;> rfl) ?_ (by simp) rfl ?_ ?_
    ·simp [kD]
    ·simp
    rintro k hk;simp only [List.cons_append, List.nil_append];refine bP fun _ _ Z=>?_;simp (disch:=omega);and_intros<;>(try omega);apply Z;apply aE;refine zi ?_;refine ⟨fun c4=>?_,fun c4=>?_⟩
    ·try simp at c4
     apply aF;apply aB;apply aE;apply aH;refine bP fun _ _ Z=>?_;simp (disch:=omega);and_intros<;>(try omega);apply Z;refine ze ⟨[],[],[],[],[]⟩ [.op {},.op {},.op {rL:=true},.op {},.pure,.op {},.op {rL:=true},.op {},.op {},.op {},.det] fun all hall _ Z=>?_;refine bJ 4 (by simp) fun _ Y=>?_;simp (disch:=omega);and_intros<;>(try omega);apply Y;simp only [List.drop];refine cL fun _ Y=>?_;simp (disch:=omega);refine An (fun _ => (xT q.x k _)) ?_;apply Y;refine bJ 5 (by simp) fun _ Y=>?_;simp (disch:=omega);and_intros<;>(try omega);apply Y;simp only [List.drop];refine cL fun _ Y=>?_;simp (disch:=omega);refine zdd (yH base w H (kZ q.x k) q.y (iP s k) _ (vH s k) hH hw (lR hr q s k)) ?_;apply Y;simp only [nS];apply Z;apply aN;apply aB;refine zk [0,2,4,6,23,24] ?_;refine mW fun _ _ Z=>?_;simp (disch:=omega);and_intros<;>(try omega);apply Z;refine bL (k + 1) ?_ ?_ (aW rfl ?_ (by simp) (by simp [kD, iP]))
     ·omega
     ·try dsimp only
      omega
     ·simp (disch:=omega)
    ·try simp at c4
     obtain rfl : k = s.size := by omega
     apply bB;apply bC;apply bA;apply aS;simp [aQ];first | (intros; omega) | (rw [if_neg (by omega)]; done) | skip
end Go.Proofs.YtighdhfgcdjmeaaGreatDoor
namespace Go.Proofs.YtighdhfgcdjmeaaGreatDoor
open Go Go.Vm
set_option maxRecDepth 20000
set_option linter.all false
set_option maxHeartbeats 8000000
def bE (l : List EN) (c : Int) : RC := if SI.fnd nE l c = true then ((l[SI.posL nE l c]?).map EN.rect).getD ⟨0, 0, 0, 0⟩ else ⟨0, 0, 0, 0⟩
theorem yP (l : List EN) (c : Int) (σ : List (List D)) (hl : l.length ≤ 999999) (hs : SI.Sorted nE l) : Ct Tryz.prog 32 [.sl false (l.map cH), D.int c] σ (fun r σ' => r = .tup [xS (bE l c), .bool (SI.fnd nE l c)] ∧ σ' = σ) := by
 cases hf : SI.fnd nE l c with
 | true =>
  have hlt := SI.fnd_lt nE hf;have hr : bE l c = (l[SI.posL nE l c]).rect := by unfold bE; rw [if_pos hf, List.getElem?_eq_getElem hlt]; rfl
  have h := Nt l c (l[SI.posL nE l c]) σ hl hs (List.getElem?_eq_getElem hlt) hf;rw [hr];exact h
 | false =>
  have hr : bE l c = ⟨0, 0, 0, 0⟩ := by unfold bE; rw [if_neg (by rw [hf]; decide)]
  rw [hr];refine (yT l c σ hl hs).trim fun r σ' ⟨_, hr2, J, hs'⟩ => ?_;have hr3 := hr2 hf;have hsc : Sc σ.length r := by
   rw [hr3];exact Sc.tup fun d hd => by
    simp at hd;rcases hd with rfl | rfl
    ·exact Sc.agg fun e he => by simp at he; rw [he]; exact Sc.v _
    ·exact Sc.v _
  exact ⟨σ, J, hs', rfl, hsc, fun n cs h => .inl h, hr3, rfl⟩
abbrev oN : ByteArray := ⟨#[116, 45, 119, 97, 105, 116]⟩
abbrev oH : ByteArray := ⟨#[105, 110, 107]⟩
def cU (t : TN) : Bool := decide (¬ t.kind = 1) && rC oN t.classes
def fJ (t : TN) : Int := lK t.styles oH
def fY (base w H : Nat) (t : TN) (l : List EN) (σ : List (List D)) : List (List D) :=
 if cU t = true then σ else if SI.fnd nE l t.ID = false then σ else
 if t.kind = 1 then (if (bE l t.ID).x > 200 ∨ (bE l t.ID).y < 0 ∨ (H : Int) ≤ (bE l t.ID).y then σ else kD base w H (bE l t.ID) t.text σ t.text.size)
 else if 33 ≤ fJ t ∧ fJ t ≤ 126 then kO base w H (bE l t.ID) (fJ t).toNat σ H else σ
theorem Hl (base w H : Nat) (t : TN) (l : List EN) (σ : List (List D)) (h : SO t) (hc : t.classes.length ≤ 1000000) (htx : t.text.size ≤ 1000000) (hl : l.length ≤ 999999) (hs : SI.Sorted nE l) (hH : H ≤ 100) (hw : w ≤ 200) (hr : fH σ base w H) : Ct Tryz.prog 27 [.sl false (sD base w H), iT t, .sl false (l.map cH)] σ (fun r σ' => r = .bool (!cU t) ∧ σ' = fY base w H t l σ) := by
 refine zf (rs:=[.tmp 6]) Tryz.func27 Tryz.ntmps27 Tryz.results27 ?_;simp only [aU];refine bP fun _ _ Z=>?_;simp (disch:=omega);and_intros<;>(try omega);apply Z;apply aE;refine oA ⟨[],[],[],[],[]⟩ fun all hall _ Z=>?_;have ga3 : aL all 3 = some 13 := hall 3;refine aA 4 fun _ Y=>?_;simp (disch:=omega)[ga3];and_intros<;>(try omega);apply Y;simp only [List.drop];refine aX 13 (by simp <;> rfl) ?_;refine ⟨fun g1 => ?_, fun g1 => ?_⟩
 ·try simp at g1
  refine aA 2 fun _ Y=>?_;simp (disch:=omega)[ga3];and_intros<;>(try omega);apply Y;simp only [List.drop];refine zg ga3 fun _ Y=>?_;simp (disch:=omega)[ga3];refine dO (On t.classes oN _ (by omega)) ?_;apply Y;simp (disch:=omega)[ga3];and_intros<;>(try omega);apply Z;refine zi ?_;refine ⟨fun c2=>?_,fun c2=>?_⟩
  ·try simp at c2
   refine bP fun _ _ Z=>?_;simp (disch:=omega);and_intros<;>(try omega);apply Z;apply aG;apply bG;simp [aQ, cU, fY, fJ, *];try (first | (intro hh; exact absurd (hh (by omega)) (by omega)) | (intros; omega) | exact (if_neg (fun hh => by omega)).symm | exact if_neg (fun hh => by omega))
  ·try simp at c2
   apply aF;apply aB;refine bP fun _ _ Z=>?_;refine aA 3 fun _ Y=>?_;simp (disch:=omega);and_intros<;>(try omega);apply Y;simp only [List.drop];refine aI fun _ Y=>?_;simp (disch:=omega);refine dO (yP l t.ID _ hl hs) ?_;apply Y;simp (disch:=omega);and_intros<;>(try omega);apply Z;apply aE;refine zk [0,4,6,7,8] ?_;refine bP fun _ _ Z=>?_;refine aA 1 fun _ Y=>?_;simp (disch:=omega);and_intros<;>(try omega);apply Y;simp only [List.drop];refine aI fun _ Y=>?_;simp (disch:=omega);refine dO (Ea t oH _ h) ?_;apply Y;simp (disch:=omega);and_intros<;>(try omega);apply Z;apply aH;refine bP fun _ _ Z=>?_;simp (disch:=omega);and_intros<;>(try omega);apply Z;refine zi ?_;refine ⟨fun c3=>?_,fun c3=>?_⟩
   ·try simp at c3
    apply aF;apply aN;apply aB;refine bP fun _ _ Z=>?_;simp (disch:=omega);and_intros<;>(try omega);apply Z;apply aG;simp [aQ, cU, fY, fJ, *];try (first | (intro hh; exact absurd (hh (by omega)) (by omega)) | (intros; omega) | exact (if_neg (fun hh => by omega)).symm | exact if_neg (fun hh => by omega))
   ·try simp at c3
    refine bP fun _ _ Z=>?_;simp (disch:=omega);and_intros<;>(try omega);apply Z;refine zi ?_;refine ⟨fun c4=>?_,fun c4=>?_⟩
    ·try simp at c4
     exact absurd c4 g1
    ·try simp at c4
     refine zk [0,6,7,9] ?_;refine oA ⟨[],[],[],[],[]⟩ fun all hall _ Z=>?_;have ga2 : aL all 2 = some 42 := hall 2;refine aA 3 fun _ Y=>?_;simp (disch:=omega)[ga2];and_intros<;>(try omega);apply Y;simp only [List.drop];refine aX 42 (by simp <;> rfl) ?_;refine ⟨fun g5 => ?_, fun g5 => ?_⟩
     ·try simp at g5
      simp (disch:=omega)[ga2];and_intros<;>(try omega);apply Z;refine zi ?_;refine ⟨fun c6=>?_,fun c6=>?_⟩
      ·try simp at c6
       refine mW fun _ _ Z=>?_;refine aA 4 fun _ Y=>?_;simp (disch:=omega);and_intros<;>(try omega);apply Y;simp only [List.drop];refine aI fun _ Y=>?_;simp (disch:=omega);obtain ⟨b, hb⟩ := Int.eq_ofNat_of_zero_le (show 0 ≤ lK t.styles oH by omega);rw [hb];refine dO (Es base w H (bE l t.ID) b _ (by omega) hH hw hr) ?_;apply Y;simp only [jY];apply Z;apply aN;apply aB;refine zk [6] ?_;refine bP fun _ _ Z=>?_;simp (disch:=omega);and_intros<;>(try omega);apply Z;apply aG;simp [aQ, cU, fY, fJ, *];try (first | (intro hh; exact absurd (hh (by omega)) (by omega)) | (intros; omega) | exact (if_neg (fun hh => by omega)).symm | exact if_neg (fun hh => by omega))
      ·try simp at c6
       apply aF;apply aN;apply aB;refine bP fun _ _ Z=>?_;simp (disch:=omega);and_intros<;>(try omega);apply Z;apply aG;simp [aQ, cU, fY, fJ, *];try (first | (intro hh; exact absurd (hh (by omega)) (by omega)) | (intros; omega) | exact (if_neg (fun hh => by omega)).symm | exact if_neg (fun hh => by omega))
     ·try simp at g5
      simp (disch:=omega)[ga2];and_intros<;>(try omega);apply Z;refine bZ (t := false) (by simp) (fun h => by cases h) (fun _ => ?_);apply aF;apply aN;apply aB;refine bP fun _ _ Z=>?_;simp (disch:=omega);and_intros<;>(try omega);apply Z;apply aG;simp [aQ, cU, fY, fJ, *];try (first | (intro hh; exact absurd (hh (by omega)) (by omega)) | (intros; omega) | exact (if_neg (fun hh => by omega)).symm | exact if_neg (fun hh => by omega))
 ·try simp at g1
  simp (disch:=omega)[ga3];and_intros<;>(try omega);apply Z;refine bZ (t := false) (by simp) (fun h => by cases h) (fun _ => ?_);apply aF;apply aB;refine bP fun _ _ Z=>?_;refine aA 3 fun _ Y=>?_;simp (disch:=omega);and_intros<;>(try omega);apply Y;simp only [List.drop];refine aI fun _ Y=>?_;simp (disch:=omega);refine dO (yP l t.ID _ hl hs) ?_;apply Y;simp (disch:=omega);and_intros<;>(try omega);apply Z;apply aE;refine zk [0,4,6,7,8] ?_;refine bP fun _ _ Z=>?_;refine aA 1 fun _ Y=>?_;simp (disch:=omega);and_intros<;>(try omega);apply Y;simp only [List.drop];refine aI fun _ Y=>?_;simp (disch:=omega);refine dO (Ea t oH _ h) ?_;apply Y;simp (disch:=omega);and_intros<;>(try omega);apply Z;apply aH;refine bP fun _ _ Z=>?_;simp (disch:=omega);and_intros<;>(try omega);apply Z;refine zi ?_;refine ⟨fun c7=>?_,fun c7=>?_⟩
  ·try simp at c7
   apply aF;apply aN;apply aB;refine bP fun _ _ Z=>?_;simp (disch:=omega);and_intros<;>(try omega);apply Z;apply aG;simp [aQ, cU, fY, fJ, *];try (first | (intro hh; exact absurd (hh (by omega)) (by omega)) | (intros; omega) | exact (if_neg (fun hh => by omega)).symm | exact if_neg (fun hh => by omega))
  ·try simp at c7
   refine bP fun _ _ Z=>?_;simp (disch:=omega);and_intros<;>(try omega);apply Z;refine zi ?_;refine ⟨fun c8=>?_,fun c8=>?_⟩
   ·try simp at c8
    refine zk [0,4,6,7] ?_;refine mW fun _ _ Z=>?_;refine aA 4 fun _ Y=>?_;simp (disch:=omega);and_intros<;>(try omega);apply Y;simp only [List.drop];refine aI fun _ Y=>?_;simp (disch:=omega);refine dO (Aw base w H (bE l t.ID) t.text _ htx hH hw hr) ?_;apply Y;simp only [jY];apply Z;apply aN;apply aB;refine bP fun _ _ Z=>?_;simp (disch:=omega);and_intros<;>(try omega);apply Z;apply aG;simp [aQ, cU, fY, fJ, *];try (first | (intro hh; exact absurd (hh (by omega)) (by omega)) | (intros; omega) | exact (if_neg (fun hh => by omega)).symm | exact if_neg (fun hh => by omega))
   ·try simp at c8
    exact absurd g1 c8
end Go.Proofs.YtighdhfgcdjmeaaGreatDoor
namespace Go.Proofs.YtighdhfgcdjmeaaGreatDoor
open Go Go.Vm
set_option maxRecDepth 20000
set_option linter.all false
set_option maxHeartbeats 8000000
theorem Im (m base w H : Nat) (t : TN) (l : List EN) (σ : List (List D)) (h : SO t) (hc : t.classes.length ≤ 1000000) (htx : t.text.size ≤ 1000000) (hl : l.length ≤ 999999) (hs : SI.Sorted nE l) (hH : H ≤ 100) (hw : w ≤ 200) (hr : fH σ base w H) (hq : σ[m]? = some [.sl true (sD base w H)]) : Ct Tryz.prog 26 [iT t, .sl false (l.map cH), .ref m 0] σ (fun r σ' => r = .tup [.sl false (l.map cH), .bool (!cU t)] ∧ σ' = fY base w H t l σ) := by
 refine zf (rs:=[.tmp 5,.tmp 6]) Tryz.func26 Tryz.ntmps26 Tryz.results26 ?_;simp only [aU];refine bP fun _ _ Z=>?_;simp[hq];and_intros<;>(try omega);apply Z;refine bP fun _ _ Z=>?_;refine aA 4 fun _ Y=>?_;simp[hq];and_intros<;>(try omega);apply Y;simp only [List.drop];refine aI fun _ Y=>?_;simp[hq];refine dO (Hl base w H t l _ h hc htx hl hs hH hw hr) ?_;apply Y;simp[hq];and_intros<;>(try omega);apply Z;apply aG;simp [aQ]
theorem Jo {σ : List (List D)} {base : Nat} (w H : Nat) (x y : Int) (b m : Nat) (hm : m < base ∨ base + H ≤ m) : (oJ σ base w H x y b)[m]? = σ[m]? := by
 unfold oJ; split
 ·rename_i hc; exact List.getElem?_set_ne (by omega)
 ·rfl
theorem zF {base m : Nat} (w H : Nat) (q : RC) (s : ByteArray) (σ : List (List D)) (hm : m < base ∨ base + H ≤ m) : ∀ k, (kD base w H q s σ k)[m]? = σ[m]?
 | 0 => rfl
 | k + 1 => (Jo w H _ _ _ m hm).trans (zF w H q s σ hm k)
theorem xB {base m : Nat} (w H : Nat) (q : RC) (b y : Nat) (σ : List (List D)) (hm : m < base ∨ base + H ≤ m) : ∀ k, (jM base w H q b y σ k)[m]? = σ[m]?
 | 0 => rfl
 | k + 1 => by
  simp only [jM];split
  ·exact (Jo w H _ _ _ m hm).trans (xB w H q b y σ hm k)
  ·exact xB w H q b y σ hm k
theorem Ee {base m : Nat} (w H : Nat) (q : RC) (b : Nat) (σ : List (List D)) (hm : m < base ∨ base + H ≤ m) : ∀ k, (kO base w H q b σ k)[m]? = σ[m]?
 | 0 => rfl
 | k + 1 => (xB w H q b k _ hm w).trans (Ee w H q b σ hm k)
theorem xE {base m : Nat} (w H : Nat) (t : TN) (l : List EN) (σ : List (List D)) (hm : m < base ∨ base + H ≤ m) : (fY base w H t l σ)[m]? = σ[m]? := by
 unfold fY
 repeat' split
 all_goals first | rfl | exact zF w H _ _ _ hm _ | exact Ee w H _ _ _ hm _
theorem nO {base w H : Nat} {σ : List (List D)} (h : fH σ base w H) (t : TN) (l : List EN) : fH (fY base w H t l σ) base w H := by
 unfold fY
 repeat' split
 all_goals first | exact h | exact lR h _ _ _ | exact lL h _ _ _
def gI (base w H : Nat) (l : List EN) : Nat → TN → List (List D) → List (List D)
 | 0, _ => fun σ => σ
 | n + 1, t => fun σ => if cU t = true then fY base w H t l σ else t.kids.foldl (fun τ k => gI base w H l n k τ) (fY base w H t l σ)
theorem rK {base m : Nat} (w H : Nat) (l : List EN) (hm : m < base ∨ base + H ≤ m) : ∀ (n : Nat) (t : TN) (σ : List (List D)), (gI base w H l n t σ)[m]? = σ[m]?
 | 0, _, _ => rfl
 | n + 1, t, σ => by
  simp only [gI];split
  ·exact xE w H t l σ hm
  ·have hf : ∀ (ks : List TN) (τ : List (List D)), (ks.foldl (fun τ k => gI base w H l n k τ) τ)[m]? = τ[m]? := fun ks => by
    induction ks with
    | nil => exact fun _ => rfl
    | cons k ks ih => exact fun τ => (ih _).trans (rK w H l hm n k τ)
   exact (hf t.kids _).trans (xE w H t l σ hm)
theorem nQ {base w H : Nat} (l : List EN) : ∀ (n : Nat) (t : TN) {σ : List (List D)}, fH σ base w H → fH (gI base w H l n t σ) base w H
 | 0, _, _, h => h
 | n + 1, t, σ, h => by
  simp only [gI];split
  ·exact nO h t l
  ·have hf : ∀ (ks : List TN) (τ : List (List D)), fH τ base w H → fH (ks.foldl (fun τ k => gI base w H l n k τ) τ) base w H := fun ks => by
    induction ks with
    | nil => exact fun _ h => h
    | cons k ks ih => exact fun τ h => ih _ (nQ l n k h)
   exact hf t.kids _ (nO h t l)
def Pe (base w H : Nat) (l : List EN) (n : Nat) (t : TN) (σ : List (List D)) (k : Nat) : List (List D) := (t.kids.take k).foldl (fun τ k => gI base w H l n k τ) (fY base w H t l σ)
theorem Uq (base w H : Nat) (l : List EN) (n : Nat) (t : TN) (σ : List (List D)) : Pe base w H l n t σ 0 = fY base w H t l σ := rfl
theorem zK (base w H : Nat) (l : List EN) (n : Nat) (t : TN) (σ : List (List D)) (k : Nat) (h : k < t.kids.length) : Pe base w H l n t σ (k + 1) = gI base w H l n t.kids[k] (Pe base w H l n t σ k) := by
 unfold Pe; rw [cG _ _ h, List.foldl_append]; rfl
theorem Qa (base w H : Nat) (l : List EN) (n : Nat) (t : TN) (σ : List (List D)) (h : cU t = false) : Pe base w H l n t σ t.kids.length = gI base w H l (n + 1) t σ := by
 unfold Pe; rw [List.take_length]; simp only [gI, h]; rfl
theorem Dt {base w H m : Nat} {σ : List (List D)} (l : List EN) (n : Nat) (t : TN) (hm : m < base ∨ base + H ≤ m) (hr : fH σ base w H) : ∀ k, k ≤ t.kids.length → fH (Pe base w H l n t σ k) base w H ∧ (Pe base w H l n t σ k)[m]? = σ[m]?
 | 0, _ => ⟨nO hr t l, xE w H t l σ hm⟩
 | k + 1, h => by
  obtain ⟨h1, h2⟩ := Dt l n t hm hr k (by omega);rw [zK _ _ _ _ _ _ _ _ (by omega)];exact ⟨nQ l n _ h1, (rK w H l hm n _ _).trans h2⟩
abbrev Qh (m base w H : Nat) (l : List EN) (n : Nat) (t : TN) : Prop := ∀ τ : List (List D), fH τ base w H → τ[m]? = some [.sl true (sD base w H)] → Ct Tryz.prog 25 [iT t, .sl false (l.map cH), .clo (.func 26) [] [.ref m 0]] τ (fun r τ' => r = .tup [] ∧ τ' = gI base w H l n t τ)
theorem Na (n m base w H : Nat) (t : TN) (l : List EN) (σ : List (List D)) (h : SO t) (hc : t.classes.length ≤ 1000000) (htx : t.text.size ≤ 1000000) (hl : l.length ≤ 999999) (hs : SI.Sorted nE l) (hH : H ≤ 100) (hw : w ≤ 200) (hr : fH σ base w H) (hk1 : t.kids.length ≤ 1000) (hm : m < base ∨ base + H ≤ m) (hq : σ[m]? = some [.sl true (sD base w H)]) (ih : ∀ k ∈ t.kids, Qh m base w H l n k) : Ct Tryz.prog 25 [iT t, .sl false (l.map cH), .clo (.func 26) [] [.ref m 0]] σ (fun r σ' => r = .tup [] ∧ σ' = gI base w H l (n + 1) t σ) := by
 refine zf (rs:=[]) Tryz.func25 Tryz.ntmps25 Tryz.results25 ?_;simp only [aU];refine bP fun _ _ Z=>?_;simp (disch:=omega);and_intros<;>(try omega);apply Z;refine bP fun _ _ Z=>?_;refine aA 3 fun _ Y=>?_;simp (disch:=omega);and_intros<;>(try omega);apply Y;simp only [List.drop];refine aI fun _ Y=>?_;simp (disch:=omega);refine dO (Im m base w H t l _ h hc htx hl hs hH hw hr hq) ?_;apply Y;simp (disch:=omega);and_intros<;>(try omega);apply Z;apply aE;refine bP fun _ _ Z=>?_;simp (disch:=omega);and_intros<;>(try omega);apply Z;refine zi ?_;refine ⟨fun c1=>?_,fun c1=>?_⟩
 ·try simp at c1
  apply aG;apply bG;simp [aQ, gI, *]
 ·try simp at c1
  apply aF;apply aB;refine zk [2,3,6] ?_;refine bP fun _ _ Z=>?_;simp (disch:=omega);and_intros<;>(try omega);apply Z;apply aH;refine zk [2,6,20,21,22] ?_;refine gP (fun (k : Nat) => [(22, .d (.v (.int .i64 (k : Int)))), (9, .d (.any))]) (fun (k : Nat) => [[D.int t.ID, D.int t.kind, D.str t.tag, D.str t.text, .sl false (t.classes.map D.str), .sl false (t.attrs.map bW), .sl false (t.styles.map bR), .sl false (t.kids.map iX)]]) (fun (k : Nat) => Pe base w H l n t σ k) [9, 22, 23, 24, 25, 26, 27, 28, 29, 30] (fun (k : Nat) => k ≤ t.kids.length) (fun (k : Nat) => t.kids.length - k) (0) (by simp <;> rfl) ?_ (by simp) rfl ?_ ?_
  ·simp [Uq]
  ·simp
  rintro k hk;simp only [List.cons_append, List.nil_append];have hkm := Dt l n t hm hr k hk;refine bP fun _ _ Z=>?_;simp (disch:=omega);and_intros<;>(try omega);apply Z;apply aE;refine zi ?_;refine ⟨fun c2=>?_,fun c2=>?_⟩
  ·try simp at c2
   apply aF;apply aB;apply aE;apply aH;refine bP fun _ _ Z=>?_;simp (disch:=omega);and_intros<;>(try omega);apply Z;refine mW fun _ _ Z=>?_;refine aA 3 fun _ Y=>?_;simp (disch:=omega);and_intros<;>(try omega);apply Y;simp only [List.drop];refine aI fun _ Y=>?_;simp (disch:=omega);refine dO (ih t.kids[k] (List.getElem_mem _) _ hkm.1 (hkm.2.trans hq)) ?_;apply Y;simp only [jY];apply Z;apply aN;apply aB;refine zk [2,6,9,20,21,22] ?_;refine mW fun _ _ Z=>?_;simp (disch:=omega);and_intros<;>(try omega);apply Z;refine bL (k + 1) ?_ ?_ (aW rfl ?_ (by simp) (by simp [zK, *]))
   ·omega
   ·try dsimp only
    omega
   ·simp (disch:=omega)
  ·try simp at c2
   obtain rfl : k = t.kids.length := by omega
   apply bB;apply bC;apply bA;apply aS;simp [aQ];exact Qa base w H l n t σ (by simpa using c1)
theorem Ed (m base w H : Nat) (l : List EN) (hl : l.length ≤ 999999) (hs : SI.Sorted nE l) (hH : H ≤ 100) (hw : w ≤ 200) (hm : m < base ∨ base + H ≤ m) : ∀ (n : Nat) (t : TN), n ≤ 1000 → TG t → iM t ≤ n → Qh m base w H l n t
 | 0, t, _, _, h => absurd (fK t) (by omega)
 | n + 1, t, hn, hg, h => fun σ hr hq => by
  cases hg with
  | mk _ hf hk =>
   have hc := fK t;have hkl : ∀ ks : List TN, ks.length ≤ (ks.map iM).sum := fun ks => by
    induction ks with
    | nil => exact Nat.le_refl _
    | cons a ks ih => have := fK a; simp only [List.map_cons, List.sum_cons, List.length_cons]; omega
   have hkm : ∀ (ks : List TN) (k : TN), k ∈ ks → iM k ≤ (ks.map iM).sum := fun ks => by
    induction ks with
    | nil => intro k hk; cases hk
    | cons a ks ih =>
     intro k hk;rcases List.mem_cons.1 hk with rfl | hk
     ·simp
     ·have := ih k hk; simp only [List.map_cons, List.sum_cons]; omega
   have hl2 := hkl t.kids;exact Na n m base w H t l σ ⟨by have := hf.1.1; omega, hf.1.2⟩ (by have := hf.2.2.2; omega) (by have := hf.2.2.1; omega) hl hs hH hw hr (by omega) hm hq fun k hk' => Ed m base w H l hl hs hH hw hm n k (by omega) (hk k hk') (by have := hkm t.kids k hk'; omega)
end Go.Proofs.YtighdhfgcdjmeaaGreatDoor

