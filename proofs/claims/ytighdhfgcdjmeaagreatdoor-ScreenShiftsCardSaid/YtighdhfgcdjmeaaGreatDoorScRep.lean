import Derived.Deep.LoopGhost
import Derived.Deep.Draws
import Derived.Deep.RegionLaw
import Derived.WalkKit
import Derived.Laws.Rows
import Derived.Laws.Externs
import Derived.Lib.SlBuf
import Derived.Lib.SlParts
import Derived.Lib.MakeNoZero
import Derived.Test.YtighdhfgcdjmeaaGreatDoorScLay
import Derived.Test.YtighdhfgcdjmeaaGreatDoorVmS3
import Derived.Test.YtighdhfgcdjmeaaGreatDoorVmX6
namespace Go.Proofs.YtighdhfgcdjmeaaGreatDoor
open Go Go.Vm Go.Proofs Go.RowKit Go.Shelf
set_option linter.all false
set_option maxRecDepth 100000
set_option maxHeartbeats 4000000
structure Fill (w0 wr : World) (N i : Nat) : Prop where
 below : Below w0.heap.size w0 wr
 row : ∃ cur, wr.heap[w0.heap.size]? = some (.cells cur 5 (0, 0)) ∧ N ≤ cur.size ∧ (∀ (j : Nat) v, cur[j]? = some v → v.oneCell' = true) ∧ ∀ j, j < i → cur[j]? = some (.int .u8 32)
theorem oD (b : Nat) : ∀ (vs : List Value) (o : Nat) (w : World) (cur : Array Value) (E : TypeId), w.heap[b]? = some (.cells cur E (0, 0)) → (∀ v ∈ vs, v.oneCell' = true) → (∀ (j : Nat) v, cur[j]? = some v → v.oneCell' = true) →
  ∃ cur', (w.setCells b o vs).heap[b]? = some (.cells cur' E (0, 0)) ∧ cur'.size = cur.size ∧ (∀ (j : Nat) v, cur'[j]? = some v → v.oneCell' = true) ∧ (∀ j, j < o → cur'[j]? = cur[j]?) ∧ ∀ j v, vs[j]? = some v → o + j < cur.size → cur'[o + j]? = some v
 | [], o, w, cur, E, h, _, h1 => ⟨cur, h, rfl, h1, fun _ _ => rfl, fun j v hv => by simp at hv⟩
 | x :: r, o, w, cur, E, h, hv, h1 => by
  have hs := heap_setCell_same w b o cur E x h;obtain ⟨cur', a1, a2, a3, a4, a5⟩ := oD b r (o + 1) (w.setCell ⟨b, o, none⟩ x) (cur.setIfInBounds o x) E hs (fun v hm => hv v (List.mem_cons_of_mem _ hm)) (fun j v hj => by
   rw [Array.getElem?_setIfInBounds] at hj;split at hj
   ·split at hj
    ·obtain rfl := Option.some.inj hj; exact hv _ (List.mem_cons_self)
    ·cases hj
   ·exact h1 j v hj)
  refine ⟨cur', a1, by rw [a2]; simp, a3, fun j hj => ?_, fun j v hj hlt => ?_⟩
  ·rw [a4 j (by omega), Array.getElem?_setIfInBounds, if_neg (by omega)]
  ·cases j with
   | zero =>
    simp at hj; subst hj;rw [Nat.add_zero, a4 o (by omega), Array.getElem?_setIfInBounds];simp at hlt;simp [hlt]
   | succ j =>
    have := a5 j v (by simpa using hj) (by simp; omega);rw [show o + (j + 1) = o + 1 + j by omega];exact this
theorem Fill.copy {w0 wr : World} {N i : Nat} (h : Fill w0 wr N i) (k : Nat) (hk : i + k ≤ N) : Fill w0 (wr.setCells w0.heap.size i (List.replicate k (.int .u8 32))) N (i + k) := by
 obtain ⟨cur, h1, h2, h3, h4⟩ := h.row;obtain ⟨cur', a1, a2, a3, a4, a5⟩ := oD w0.heap.size (List.replicate k (.int .u8 32)) i wr cur 5 h1 (fun v hv => by rw [List.eq_of_mem_replicate hv]; rfl) h3;refine ⟨Lib.below_setCells w0.heap.size (Nat.le_refl _) _ _ h.below, cur', a1, by omega, a3, fun j hj => ?_⟩;by_cases hji : j < i
 ·rw [a4 j hji]; exact h4 j hji
 ·obtain ⟨d, rfl⟩ : ∃ d, j = i + d := ⟨j - i, by omega⟩;exact a5 d _ (by rw [List.getElem?_replicate, if_pos (by omega)]) (by omega)
theorem Fill.cell {w0 wr : World} {N i : Nat} (h : Fill w0 wr N i) (j : Nat) (hj : j < N) : (wr.cell? ⟨w0.heap.size, j, none⟩).isSome = true ∧ wr.frozen? ⟨w0.heap.size, j, none⟩ = false ∧ (j < i → wr.cell? ⟨w0.heap.size, j, none⟩ = some (.int .u8 32)) := by
 obtain ⟨cur, h1, h2, h3, h4⟩ := h.row;have hc := Lib.cell_of_heap h1 j;refine ⟨?_, Lib.frozen_of_heap h1 j, fun hji => ?_⟩
 ·rw [hc, Array.getElem?_eq_getElem (by omega)]; rfl
 ·rw [hc]; exact h4 j hji
theorem Fill.run {w0 wr : World} {N i : Nat} (h : Fill w0 wr N i) (hi : i < N) (ty : TypeId) :
  (Builtin.copy_ #[84, 84] ty #[.slice (some ⟨w0.heap.size, i, none⟩) (N - i) (N - i), .slice (some ⟨w0.heap.size, 0, none⟩) i N]).run Tryz.prog wr = .ok (.int .i64 ((min i (N - i) : Nat) : Int)) (wr.setCells w0.heap.size i (List.replicate (min i (N - i)) (.int .u8 32))) := by
 have hr := run_copy_cells (P := Tryz.prog) wr 84 84 ty 5 w0.heap.size i (N - i) (N - i) ⟨w0.heap.size, 0, none⟩ i N (List.replicate (min i (N - i)) (.int .u8 32)) Tryz.underlying84 (by kernel_rfl) (by rw [List.length_replicate])
  (fun j v hj => by
   rw [List.getElem?_replicate] at hj;split at hj
   ·obtain rfl := Option.some.inj hj;have := (h.cell j (by omega)).2.2 (by omega);have e : (⟨w0.heap.size, 0, none⟩ : Addr).add j = ⟨w0.heap.size, j, none⟩ := by unfold Addr.add; split <;> simp_all
    rw [e]; exact this
   ·cases hj)
  (fun j hj => by rw [List.length_replicate] at hj; exact (h.cell (i + j) (by omega)).1) (fun j hj => by rw [List.length_replicate] at hj; exact (h.cell (i + j) (by omega)).2.1)
  (fun v hv => by rw [List.eq_of_mem_replicate hv]; rfl)
 rw [List.length_replicate] at hr;exact hr
theorem Fill.run0 {w0 wr : World} {N : Nat} (h : Fill w0 wr N 0) (hi : 0 < N) (ty : TypeId) (a : Addr) (c : Nat) (ha : wr.cell? a = some (.int .u8 32)) :
  (Builtin.copy_ #[84, 84] ty #[.slice (some ⟨w0.heap.size, 0, none⟩) N N, .slice (some a) 1 c]).run Tryz.prog wr = .ok (.int .i64 1) (wr.setCells w0.heap.size 0 (List.replicate 1 (.int .u8 32))) := by
 have hr := run_copy_cells (P := Tryz.prog) wr 84 84 ty 5 w0.heap.size 0 N N a 1 c (List.replicate 1 (.int .u8 32)) Tryz.underlying84 (by kernel_rfl) (by rw [List.length_replicate]; exact (Nat.min_eq_left hi).symm)
  (fun j v hj => by
   rw [List.getElem?_replicate] at hj;split at hj
   ·obtain rfl := Option.some.inj hj;obtain rfl : j = 0 := by omega
    simpa [Addr.add] using ha
   ·cases hj)
  (fun j hj => by rw [List.length_replicate] at hj; exact (h.cell (0 + j) (by omega)).1) (fun j hj => by rw [List.length_replicate] at hj; exact (h.cell (0 + j) (by omega)).2.1)
  (fun v hv => by rw [List.eq_of_mem_replicate hv]; rfl)
 exact hr
theorem Fill.drewN {w0 wr : World} {N i : Nat} (h : Fill w0 wr N i) (k : Nat) : Fill w0 (wr.drewN k) N i :=
 ⟨⟨h.below.os, h.below.tape, h.below.output, h.below.size, h.below.block⟩, h.row⟩
theorem Fill.drew {w0 wr : World} {N i : Nat} (h : Fill w0 wr N i) : Fill w0 wr.drew N i :=
 ⟨⟨h.below.os, h.below.tape, h.below.output, h.below.size, h.below.block⟩, h.row⟩
theorem uK {P : Program} {ops : Array Oper} {o : Oper} {a : Act} {w : World} {K : Act → World → Prop} {Q : Exit → Act → World → Prop} {E : Prop} (hg : o.guard = none) (d s : Operand) (t t' : TypeId)
  (ho : o.op = .call { callee := .builtin .copy, args := #[d, s], argTypes := #[t, t'] }) (v u : Value) (hd : a.eval d = v) (hs : a.eval s = u) {v' : Value} {w' : World}
  (hr : (Builtin.copy_ #[t, t'] o.type #[v, u]).run P w = .ok v' w') (hK : K (a.put o.dst v') w') : if Region.wanted o (yielded ops a.tmps) = true then Oper.wp P o a w K Q else E := by
 rw [if_pos (by simp [Region.wanted, hg])];exact Lib.wp_copy_run w d s t t' ho v u hd hs hr hK
theorem tL : ∀ (n t : Nat) (acc : Array Value), (∀ v ∈ acc.toList, v.oneCell' = true) → ∀ v ∈ (Extern.BytealgMakeNoZero.digits n t acc).toList, v.oneCell' = true
 | 0, _, _, h => h
 | n + 1, t, acc, h => by
  rw [Extern.BytealgMakeNoZero.digits];refine tL n _ _ fun v hv => ?_;rw [Array.toList_push] at hv;rcases List.mem_append.1 hv with hv | hv
  ·exact h v hv
  ·simp at hv; rw [hv]; rfl
theorem Rj (w : World) (n : Nat) (hn : n ≤ 200) : ∃ cs : Array Value, (callFunc 49 #[.int .i64 n]).run Tryz.prog w = .ok (.value (.slice (some ⟨w.heap.size, 0, none⟩) n cs.size)) ((w.alloc (.cells cs 5)).drewN 2) ∧ n ≤ cs.size ∧ cs.size ≤ maxLen ∧ ∀ v ∈ cs.toList, v.oneCell' = true := by
 have hdef : Extern.BytealgMakeNoZero.makeNoZero #[3] #[84] #[.int .i64 n] =
   (do
    let .slice elem ← underlying 84 | stuck "bytealg.MakeNoZero: slice type expected"
    if (n : Int) < 0 || (n : Int) > 2 ^ 48 then runtimePanic (.error "makeslice: len out of range")
    let cap ← choose (.appendCap (n : Int).toNat 0 elem)
    askRoom cap
    let bytes ← choose (.extern "internal/bytealg.MakeNoZero.bytes" 0)
    let a ← newRow elem (Extern.BytealgMakeNoZero.digits cap bytes #[])
    pure (.slice (some a) (n : Int).toNat cap)) := rfl
 refine ⟨Extern.BytealgMakeNoZero.digits (grownCap w n 0 5) ((Question.extern "internal/bytealg.MakeNoZero.bytes" 0).cut (w.tape (w.drawn + 1) (.extern "internal/bytealg.MakeNoZero.bytes" 0))) #[], ?_, ?_, ?_, tL _ _ _ (by simp)⟩
 ·rw [run_callFunc_extern Tryz.func49 (by kernel_rfl) (by kernel_rfl) (by kernel_rfl) (e := Extern.BytealgMakeNoZero.makeNoZero #[3] #[84]) (by kernel_rfl), hdef];have h1 : ¬ (n : Int) < 0 := by omega
  have h2 : ¬ (281474976710656 : Int) < (n : Int) := by omega
  simp [run_underlying Tryz.underlying84, h1, h2, Question.forced, newRow, Lib.size_digits, grownCap];rfl
 ·rw [Lib.size_digits];simpa using grownCap_ge w n 0 5
 ·rw [Lib.size_digits];simpa using grownCap_le_maxLen w n 0 5 (by unfold maxLen; omega)
theorem xJ (b o c n : Nat) (w : World) (h0 : 0 < n) (hn : n ≤ 200) (hc : w.cell? ⟨b, o, none⟩ = some (.int .u8 32)) :
  Calls Tryz.prog 24 #[.slice (some ⟨b, o, none⟩) 1 c, .int .i64 n] w fun e w' => e = .returned (.slice (some ⟨w.heap.size, 0, none⟩) n n) ∧ Fill w w' n n := by
 have hMul := Tryz.bits_Mul 1 n (by omega) (by omega) w;rw [Nat.one_mul, Nat.div_eq_of_lt (by omega : n < 18446744073709551616), Nat.mod_eq_of_lt (by omega : n < 18446744073709551616)] at hMul;obtain ⟨cs, hcall, hle, hcm, hcs⟩ := Rj w n hn;have F0 : Fill w ((w.alloc (.cells cs 5)).drewN 2) n 0 := by
  refine ⟨(Lib.Buf.start w cs 5 n 2 hle).below, cs, ?_, hle, fun j v hj => hcs v (by
   have := (Array.getElem?_eq_some_iff.1 hj);obtain ⟨h1, h2⟩ := this;rw [← h2]; simp), fun j hj => absurd hj (Nat.not_lt_zero _)⟩
  exact heap_alloc_new w _
 have hb : b < w.heap.size := World.block_lt_of_cell? _ _ hc;have hc1 : ((w.alloc (.cells cs 5)).drewN 2).cell? ⟨b, o, none⟩ = some (.int .u8 32) := Lib.Below.cellOf F0.below hc (Nat.le_refl _);have hr0 := fun ty => F0.run0 h0 ty ⟨b, o, none⟩ c hc1;have F1 := F0.copy 1 (by omega);generalize hW1 : ((w.alloc (.cells cs 5)).drewN 2).setCells w.heap.size 0 (List.replicate 1 (.int .u8 32)) = W1 at hr0 F1
 go_enter Tryz.func24, Tryz.ntmps24
 go_wp2_with (first
  | (go_at_call 48; refine hMul.mono ?_; rintro e w' ⟨rfl, hw⟩; rw [hw])
  | (at_builtin; refine Lib.wpList_copy_run _ rfl _ _ 84 84 rfl _ _ rfl rfl (hr0 _) ?_))
 rw [show (0 : Nat) + 1 = 1 from rfl] at F1;clear hr0 hW1 hcall F0 hc1
 go_loopg [10] (n - 1) (fun g s10 wr => ∃ i : Nat, 1 ≤ i ∧ i ≤ n ∧ n - i ≤ g ∧ s10 = .int .i64 i ∧ Fill w wr n i)
 case atStart => exact ⟨1, Nat.le_refl _, by omega, Nat.le_refl _, rfl, F1⟩
 case round =>
  obtain ⟨i, hi1, hin, hg, rfl, F⟩ := hrel;by_cases hlt : i < n
  ·have hr := fun ty => F.run hlt ty;have F' := F.drew.copy (min i (n - i)) (by omega);have hmin : ∀ (ts : Array TypeId) (t : TypeId) (W : World), (Builtin.min_ ts t #[.int .i64 (i : Int), .int .i64 (n : Int)]).run Tryz.prog W = .ok (.int .i64 (i : Int)) W := fun ts t W => by
    rw [run_min_int2];congr 2;omega
   go_wp2
   have hne : ¬ (n = i) := by omega
   have hne2 : ¬ (i = n) := by omega
   have hi0 : ¬ (i = 0) := by omega
   go_region_law (refine uK rfl (.tmp 70) (.tmp 73) 84 84 rfl _ _ (by simp [Act.eval, Act.put]) (by simp [Act.eval, Act.put]) (F.drew.run hlt _) ?_)
   go_wp2
   go_roundg (n - (i + min i (n - i)))
   case measure => omega
   case rel => exact ⟨i + min i (n - i), by omega, by omega, Nat.le_refl _, (by have hm1 : i + min i (n - i) ≤ n := (by omega); generalize min i (n - i) = m at hm1 ⊢; rw [gY (show rK IntKind.i64 ((i : Int) + (m : Int)) from (by unfold rK; simp [IntKind.min, IntKind.max, IntKind.bits, IntKind.signed]; omega)), Int.natCast_add]), F'⟩
  ·obtain rfl : i = n := by omega
   go_wp2
   go_ret
   exact ⟨rfl, F⟩
theorem uM (b o c : Nat) (w : World) : Calls Tryz.prog 24 #[.slice (some ⟨b, o, none⟩) 1 c, .int .i64 0] w fun e w' => (∃ x, e = .returned (.slice x 0 0)) ∧ Below w.heap.size w w' := by
 go_enter Tryz.func24, Tryz.ntmps24
 go_wp2
 go_ret
 exact ⟨⟨_, rfl⟩, (Below.refl _ w).alloc (Nat.le_refl _) _⟩
abbrev iM : D := .v (.int .u8 32)
theorem Gx (n : Nat) (σ : List (List D)) (hn : n ≤ 200) : Ct Tryz.prog 24 [.sl false [iM], D.int n] σ (fun r σ' => r = .slo σ.length 0 n n ∧ ∃ row, σ' = σ ++ [List.replicate n iM ++ row]) := by
 refine ⟨by kernel_rfl, fun w g vs hvs hb ho => ?_⟩;have s0 := (ho.slot 0).1;have s1 := (ho.slot 1).1;change R g.M g.bs (.sl false [iM]) (aU vs 0) at s0;change R g.M g.bs (D.int n) (aU vs 1) at s1;have h1 : vs = #[aU vs 0, aU vs 1] := by
  have hvs2 : vs.size = 2 := hvs;apply Array.ext
  ·exact hvs
  ·intro i h1 h2;have hi : i < 2 := by simpa using h2
   have hg : ∀ k (hk : k < vs.size), vs[k] = aU vs k := fun k hk => by
    show vs[k] = vs.getD k undef
    rw [Array.getD_eq_getD_getElem?, Array.getElem?_eq_getElem hk]; rfl
   match i, hi with
   | 0, _ => exact hg 0 _
   | 1, _ => exact hg 1 _
 rw [h1];generalize aU vs 0 = x0 at s0;generalize aU vs 1 = x1 at s1;cases s1;obtain ⟨b, off, cap, rfl, _, _, hcl⟩ := R.cellsOf s0 (by simp) (by intro d hd; simp at hd; rw [hd]; rfl);obtain ⟨x, hx1, hx2, hx3⟩ := hcl 0 iM rfl;cases hx1;have hc : w.cell? ⟨b, off, none⟩ = some (.int .u8 32) := ho.mem _ _ _ (by have h := hx3 (.int .u8 32) rfl; rwa [Nat.add_zero] at h);rcases Nat.eq_zero_or_pos n with h0 | h0
 ·subst h0;refine (uM b off cap w).mono ?_;rintro e w' ⟨⟨x, rfl⟩, hbel⟩;obtain ⟨g', e1, e2, e3⟩ := ho.objRes0 hb hbel x;exact ⟨_, _, _, g', rfl, ⟨rfl, [], rfl⟩, e1, e2, e3⟩
 ·refine (xJ b off cap n w h0 hn hc).mono ?_;rintro e w' ⟨rfl, hF⟩;obtain ⟨cur, c1, c2, c3, c4⟩ := hF.row;obtain ⟨g', e1, e2, e3⟩ := ho.objRes hb hF.below w.heap.size n cur 5 (List.replicate n iM ++ List.replicate (cur.size - n) .any) (Nat.le_refl _) c1 (by simp; omega) (by simp) (by unfold maxLen; omega) (by
   intro M bs i d x h1 h2;by_cases hi : i < n
   ·rw [List.getElem?_append_left (by simpa using hi), List.getElem?_replicate, if_pos hi] at h1;obtain rfl := Option.some.inj h1;rw [c4 i hi] at h2;obtain rfl := Option.some.inj h2;exact ⟨.v _ rfl, rfl, rfl⟩
   ·rw [List.getElem?_append_right (by simpa using (by omega : n ≤ i)), List.getElem?_replicate] at h1;split at h1
    ·obtain rfl := Option.some.inj h1;exact ⟨.any _, rfl, c3 i x h2⟩
    ·cases h1)
  exact ⟨_, _, _, g', rfl, ⟨rfl, _, rfl⟩, e1, e2, e3⟩
end Go.Proofs.YtighdhfgcdjmeaaGreatDoor

