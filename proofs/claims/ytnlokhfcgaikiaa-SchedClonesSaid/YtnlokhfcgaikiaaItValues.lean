import Derived.RangeFuncNested
import Derived.RangeFuncBound
import Derived.RangeFuncCalls
import Derived.RangeFuncLeaves
import Derived.Shelf.Abstract
import Derived.Shelf.RegionOpen
import Derived.WalkKit
import Derived.OwnWalkIn
import Derived.TacticsInMore
import Derived.LoopNIn
import Derived.LoopIn
import Derived.Maps.AppendAt
import Derived.Test.YtnlokhfcgaikiaaWkWheel
namespace Go.Proofs.Ytnlokhfcgaikiaa
open Go Go.Proofs Go.RowKit Go.Shelf
attribute [local go_sem] Oper.semAt_some
set_option maxRecDepth 100000
set_option maxHeartbeats 4000000
def etm (x : Tm) : List Value := [.int .i64 x.token, .int .i64 x.deadline, .int .i64 x.job.kind, .int .i64 x.job.node]
def utm (zs : List Tm) (k : Nat) : Tm := zs[k]?.getD ⟨0, 0, ⟨0, 0⟩⟩
theorem zs_take_succ (zs : List Tm) {k : Nat} (hk : k < zs.length) : zs.take (k + 1) = zs.take k ++ [utm zs k] := by
 rw [List.take_succ_eq_append_getElem hk]
 simp [utm, hk]
theorem values1_in (F : Fence) (n : Nat) (h7 : F.fn 72) (hro : F.round = none) (hn : 1 ≤ n) (l Bs o n₀ b off cap : Nat) (zs : List Tm) (hb : b < n₀) (hBs0 : Bs < n₀) (J Jx : List Tm → World → Prop)
  (W : World) (hn₀ : n₀ ≤ W.heap.size) (hJ : AbidesFrom W.heap.size J)
  (hY : ∀ pre x W, J pre W → pre.length < zs.length → YieldAt F (n - 1) Try.prog l #[.agg (etm x).toArray] W fun e W' =>
   (e = .returned (.bool true) ∧ J (pre ++ [x]) W' ∧ Below n₀ W W') ∨ (e = .returned (.bool false) ∧ Jx (pre ++ [x]) W'))
  (hBs : W.cell? ⟨Bs, o, none⟩ = some (.slice (some ⟨b, off, none⟩) zs.length cap)) (hlen : zs.length < 1000000)
  (hc0 : ∀ j, j < zs.length → W.cell? ⟨b, off + j * 4, none⟩ = some (.int .i64 (utm zs j).token))
  (hc1 : ∀ j, j < zs.length → W.cell? ⟨b, off + j * 4 + 1, none⟩ = some (.int .i64 (utm zs j).deadline))
  (hc2 : ∀ j, j < zs.length → W.cell? ⟨b, off + j * 4 + 2, none⟩ = some (.int .i64 (utm zs j).job.kind))
  (hc3 : ∀ j, j < zs.length → W.cell? ⟨b, off + j * 4 + 3, none⟩ = some (.int .i64 (utm zs j).job.node)) (h0 : J [] W) :
  CallsIn F n Try.prog 72 #[.func (.yield l) #[] #[], .pointer (some ⟨Bs, o, none⟩)] W fun e W' => (∃ v, e = .returned v) ∧
   ((∃ ys, ys = zs ∧ J ys W') ∨ (∃ pre, pre <+: zs ∧ Jx pre W')) := by
 refine callsIn_of_wp Try.func72 rfl h7 ?_ hro
 simp only [Try.ntmps72, List.size_toArray, List.length_cons, List.length_nil, Nat.reduceAdd, Nat.reduceSub, Array.replicate_succ, Array.replicate_zero, List.push_toArray, List.append_toArray, List.nil_append, List.cons_append]
 gi_wp2
 gi_loopw [7] (fun i wr => ∃ k : Nat, k ≤ zs.length ∧ i = .int .i64 k ∧ J (zs.take k) wr ∧ Below n₀ W wr)
  (fun i _ => zs.length - (intOf i).toNat)
 case atStart => exact ⟨0, Nat.zero_le _, rfl, by simpa using h0, Below.refl _ _⟩
 case round =>
  obtain ⟨k, hk, rfl, hJs, hnx⟩ := hrel
  by_cases hlt : k < zs.length
  ·have e0 := (hnx.cell (p := ⟨b, off + k * 4, none⟩) hb).trans (hc0 k hlt)
   have e1 := (hnx.cell (p := ⟨b, off + k * 4 + 1, none⟩) hb).trans (hc1 k hlt)
   have e2 := (hnx.cell (p := ⟨b, off + k * 4 + 2, none⟩) hb).trans (hc2 k hlt)
   have e3 := (hnx.cell (p := ⟨b, off + k * 4 + 3, none⟩) hb).trans (hc3 k hlt)
   have hsz : n₀ ≤ wr.heap.size := Nat.le_trans hn₀ hnx.size
   have hJ2 : J (zs.take k) (wr.alloc (.cells (etm (utm zs k)).toArray 36)) := hJ _ wr _ none hJs (World.grownBy_alloc _ _ _) (fun r e => by cases e)
   obtain ⟨fn, tmps, assign, body, hy, hR⟩ := hY _ (utm zs k) _ hJ2 (by rw [List.length_take]; omega)
   simp only [etm] at hy hR
   gi_wp2
   refine hR.mono ?_
   rintro e W3 (⟨rfl, hJ3, hk3⟩ | ⟨rfl, hJx3⟩)
   ·gi_wp2
    go_roundw
    case rel => exact ⟨k + 1, by omega, by simp, by rw [zs_take_succ zs hlt]; exact hJ3, (hnx.trans ((Below.refl _ _).alloc hsz _)).trans hk3⟩
    case measure => simp [intOf]; omega
   ·gi_wp2
    refine bodyPost_ret (results_none rfl _ _ _) rfl ?_
    exact ⟨⟨_, rfl⟩, .inr ⟨_, by rw [← zs_take_succ zs hlt]; exact List.take_prefix _ _, hJx3⟩⟩
  ·obtain rfl : k = zs.length := by omega
   gi_wp2
   go_end0
   exact ⟨⟨_, rfl⟩, .inl ⟨_, by simp, hJs⟩⟩
theorem values1_none_in (F : Fence) (n : Nat) (h7 : F.fn 72) (hro : F.round = none) (l Bs o cap : Nat) (a : Option Addr) (J : List Tm → World → Prop) (W : World) (hBs : W.cell? ⟨Bs, o, none⟩ = some (.slice a 0 cap)) (h0 : J [] W) :
  CallsIn F n Try.prog 72 #[.func (.yield l) #[] #[], .pointer (some ⟨Bs, o, none⟩)] W fun e W' => (∃ v, e = .returned v) ∧ J [] W' := by
 refine callsIn_of_wp Try.func72 rfl h7 ?_ hro
 simp only [Try.ntmps72, List.size_toArray, List.length_cons, List.length_nil, Nat.reduceAdd, Nat.reduceSub, Array.replicate_succ, Array.replicate_zero, List.push_toArray, List.append_toArray, List.nil_append, List.cons_append]
 gi_wp2
 gi_loopw [7] (fun i wr => i = .int .i64 0 ∧ J [] wr) (fun _ _ => 0)
 case atStart => exact ⟨rfl, h0⟩
 case round =>
  obtain ⟨rfl, hJs⟩ := hrel
  gi_wp2
  go_end0
  exact ⟨⟨_, rfl⟩, hJs⟩
def TmsAt (n₀ : Nat) (W : World) (sv : Value) (zs : List Tm) : Prop :=
 (∃ a cap, sv = .slice a 0 cap ∧ zs = []) ∨ ∃ b off cap, sv = .slice (some ⟨b, off, none⟩) zs.length cap ∧ b < n₀ ∧ (∀ j, j < zs.length → W.cell? ⟨b, off + j * 4, none⟩ = some (.int .i64 (utm zs j).token)) ∧
  (∀ j, j < zs.length → W.cell? ⟨b, off + j * 4 + 1, none⟩ = some (.int .i64 (utm zs j).deadline)) ∧ (∀ j, j < zs.length → W.cell? ⟨b, off + j * 4 + 2, none⟩ = some (.int .i64 (utm zs j).job.kind)) ∧
  (∀ j, j < zs.length → W.cell? ⟨b, off + j * 4 + 3, none⟩ = some (.int .i64 (utm zs j).job.node))
theorem TmsAt.below {n₀ : Nat} {A B : World} (h : Below n₀ A B) {sv : Value} {zs : List Tm} : TmsAt n₀ A sv zs → TmsAt n₀ B sv zs
 | .inl e => .inl e
 | .inr ⟨b, off, cap, e, hb, h0, h1, h2, h3⟩ => .inr ⟨b, off, cap, e, hb, fun j hj => (h.cell (p := ⟨b, off + j * 4, none⟩) hb).trans (h0 j hj), fun j hj => (h.cell (p := ⟨b, off + j * 4 + 1, none⟩) hb).trans (h1 j hj),
  fun j hj => (h.cell (p := ⟨b, off + j * 4 + 2, none⟩) hb).trans (h2 j hj), fun j hj => (h.cell (p := ⟨b, off + j * 4 + 3, none⟩) hb).trans (h3 j hj)⟩
theorem values_stops (F : Fence) (n : Nat) (h7 : F.fn 72) (hro : F.round = none) (hn : 1 ≤ n) (Bs o n₀ : Nat) (sv : Value) (zs : List Tm) (hlen : zs.length < 1000000) (w : World) (hBs : Bs < n₀) (hn₀ : n₀ ≤ w.heap.size)
  (hc : w.cell? ⟨Bs, o, none⟩ = some sv) (hI : TmsAt n₀ w sv zs) :
  SeqStopsK F n Try.prog 72 #[.pointer (some ⟨Bs, o, none⟩)] (fun x : Tm => #[Value.agg (etm x).toArray]) (Below n₀) (fun ys => ys = zs) (fun pre => pre <+: zs) zs.length w := fun l J Jx W hW hJ _ hY h0 => by
 have hc' := (hW.cell (p := ⟨Bs, o, none⟩) (Nat.lt_of_lt_of_le hBs hn₀)).trans hc
 rcases hI.below (hW.mono hn₀) with ⟨a, cap, rfl, rfl⟩ | ⟨b, off, cap, rfl, hb, c0, c1, c2, c3⟩
 ·exact (values1_none_in F n h7 hro l Bs o cap a J W hc' h0).mono fun e W' ⟨he, hj⟩ => ⟨he, .inl ⟨_, rfl, hj⟩⟩
 ·exact values1_in F n h7 hro hn l Bs o n₀ b off cap zs hb hBs J Jx W (Nat.le_trans hn₀ hW.size) hJ hY hc' hlen c0 c1 c2 c3 h0
theorem info36 : (Try.prog.info? 36).map (fun i => (i.zero, i.size, i.bytes)) = some (some (.agg #[.int .i64 0, .int .i64 0, .int .i64 0, .int .i64 0]), 4, 32) := by kernel_rfl
def Box4 (W : World) (B : Nat) (x : Tm) : Prop := W.heap[B]? = some (.cells (etm x).toArray 36 (0, 0))
theorem Box4.lt {W : World} {B : Nat} {x : Tm} (h : Box4 W B x) : B < W.heap.size := (Array.getElem?_eq_some_iff.1 h).1
theorem box4_own {β : Type} (B : Nat) (x : Tm) : Own (fun (_ : β) W => Box4 W B x) := fun s X Y row hs hg hrow =>
 (hg.block B hs.lt (fun e' => by obtain ⟨o, ho, hc⟩ := hrow B e'.symm; rw [show X.heap[B]? = _ from hs] at ho; cases ho; cases hc)).trans hs
theorem Box4.cell {W : World} {B : Nat} {x : Tm} (h : Box4 W B x) (j : Nat) : W.cell? ⟨B, j, none⟩ = (etm x)[j]? := by simp [World.cell?, show W.heap[B]? = _ from h]
theorem cell4_new (w : World) (x : Tm) (t : TypeId) : ∀ j u, (etm x)[j]? = some u → (w.alloc (.cells #[.int .i64 x.token, .int .i64 x.deadline, .int .i64 x.job.kind, .int .i64 x.job.node] t)).cell? ((⟨w.heap.size, 0, none⟩ : Addr).add j) = some u := by
 intro j u hj
 match j, hj with
 | 0, hj | 1, hj | 2, hj | 3, hj =>
  simp [etm] at hj
  subst hj
  simp [Addr.add]
 | j + 4, hj => simp [etm] at hj
theorem apSeq_in (F : Fence) (n : Nat) (h79 : F.fn 79) (h72 : F.fn 72) (hro : F.round = none) (hn : 3 ≤ n) (Bs o : Nat) (sv : Value) (zs : List Tm) (hlen : zs.length < 1000000) (w : World) (hBs : Bs < w.heap.size)
  (hc : w.cell? ⟨Bs, o, none⟩ = some sv) (hI : TmsAt w.heap.size w sv zs) :
  CallsIn F n Try.prog 79 #[.slice none 0 0, .func (.func 72) #[] #[.pointer (some ⟨Bs, o, none⟩)]] w fun e W' => ∃ v, e = .returned v ∧ W'.ownsRow w.heap.size 36 4 v zs.length (zs.flatMap etm) ∧ (v = .slice none 0 0 ↔ zs = []) ∧ Below w.heap.size w W' := by
 have h1 : 1 ≤ n := by omega
 obtain ⟨i0, hi, hz0, hz1, hz2⟩ := info_parts info36
 refine callsIn_of_wp_marks Try.func79 rfl h79 ?_ hro
 simp only [Try.ntmps79, List.size_toArray, List.length_cons, List.length_nil, Nat.reduceAdd, Nat.reduceSub, Array.replicate_succ, Array.replicate_zero, List.push_toArray, List.append_toArray, List.nil_append, List.cons_append]
 gi_wp2
 have bO := Boxed.new w 66 (.slice none 0 0)
 have hB0 : Below w.heap.size w (w.alloc (.cells #[.slice none 0 0] 66)) := (Below.refl _ w).alloc (Nat.le_refl _) _
 have hc2 : (w.alloc (.cells #[.slice none 0 0] 66)).cell? ⟨Bs, o, none⟩ = some sv := (hB0.cell (p := ⟨Bs, o, none⟩) hBs).trans hc
 refine wpIn_rangeFunc_ownH hro h1 (gf := 72) (lb := #[.pointer (some ⟨Bs, o, none⟩)]) rfl h72 (enters_of Try.func72 (by kernel_rfl) rfl)
  (values_stops F (n - 1) h72 hro (by omega) Bs o w.heap.size sv zs hlen _ hBs (by simp) hc2 (hI.below hB0)) belowK_t (belowK_b (by simp)) (Below.refl _ _) (fun _ => rfl)
  (fun pre W => (∃ v, Boxed W w.heap.size 66 v ∧ W.ownsRow w.heap.size 36 4 v pre.length (pre.flatMap etm) ∧ (v = .slice none 0 0 ↔ pre = [])) ∧ Below w.heap.size w W)
  (fun _ _ _ => False)
  (OwnFrom.and (Own.from (holdsRow_own w.heap.size w.heap.size 66 36 4 (fun pre : List Tm => pre.length) (fun pre => pre.flatMap etm) (fun pre v => v = .slice none 0 0 ↔ pre = [])) _) (ownFrom_below (Nat.le_refl _) (by simp)))
  (fun _ _ _ _ _ hs _ _ => hs)
  ⟨⟨_, bO, World.ownsRow_nil _ _ _ _, by simp⟩, hB0⟩
  (fun x a' W => ∃ Bx, w.heap.size < Bx ∧ Box4 W Bx x ∧ a' = { tmps := #[.slice none 0 0, .func (.func 72) #[] #[.pointer (some ⟨Bs, o, none⟩)], .pointer (some ⟨w.heap.size, 0, none⟩), undef, .slice none 0 0, .pointer (some ⟨Bx, 0, none⟩), .func (.func 72) #[] #[.pointer (some ⟨Bs, o, none⟩)], .agg (etm x).toArray, undef, undef, undef, undef, undef], defers := [] })
  (fun x a' _ X Y row hs hg hr => by obtain ⟨Bx, h1, h2, h3⟩ := hs; exact ⟨Bx, h1, box4_own Bx x () X Y row h2 hg (fun r e => (hr r e).2), h3⟩)
  ?assign ?body ?done ?stop
 case assign =>
  rintro l pre x W K ⟨⟨v, hv, hrow, hnil⟩, hB⟩ hK
  simp only [etm] at hK ⊢
  gi_wp2
  exact hK _ _ ((KeepsOthers.alloc _ _).from _) ((Below.refl _ W).alloc hB.size _) ⟨⟨v, hv.alloc _, hrow.alloc _, hnil⟩, hB.alloc hB.size _⟩ ⟨W.heap.size, hv.lt, World.alloc_heap_new W _, rfl⟩
 case body =>
  rintro l pre x a' W hl ⟨r, hr⟩ ⟨⟨v, hv, hrow, hnil⟩, hB⟩ ⟨Bx, hBx, bX, rfl⟩ hlt
  have hcv := hv.cell
  have x0 := bX.cell 0
  have x1 := bX.cell 1
  have x2 := bX.cell 2
  have x3 := bX.cell 3
  simp only [etm, List.getElem?_cons_zero, List.getElem?_cons_succ] at x0 x1 x2 x3 ⊢
  gi_wp2_with (gi_at_builtin; refine wpListIn_append_own _ rfl _ _ 66 rfl w.heap.size 36 i0 (.agg #[.int .i64 0, .int .i64 0, .int .i64 0, .int .i64 0]) 4 32 Try.underlying66 hi hz0 hz1 hz2 rfl (by decide) _ _ _ rfl (hrow.alloc _) ⟨W.heap.size, 0, none⟩ 1 1 (etm x) rfl rfl (cell4_new _ _ _) (by simp [Value.oneCell', etm]) (by simp [maxLen]; omega) (by omega) (by have := hB.size; simp; omega) ?_; intro v' w1 hown' hgrow _; obtain ⟨g', cap', rfl⟩ := ownsRow_succ hown'; obtain ⟨hv1, hv2, hr2, hk2, hb2⟩ := hv.appended (by decide) hrow hB.size (Nat.le_refl _) hown' hgrow; have hc1 := hv1.cell; have hf1 := hv1.frozen)
  exact ⟨hk2.from _, hb2, ⟨_, hv2, by simpa using hr2, by simp⟩, hB.trans hb2⟩
 case done =>
  rintro D ys W hD rfl ⟨⟨v, hv, hrow, hnil⟩, hB⟩ hK
  have hcv := hv.cell
  gi_wp2
  refine ⟨by simp, .inl ⟨_, _, rfl, run_takeDeferred hK, ?_⟩⟩
  exact ⟨_, results_tmp rfl _ _ _, v, rfl, ownsRow_putObj hrow _ hK rfl, hnil, hB.trans (belowK_b (w := w) (Nat.le_refl _) W D _ _ (by simp at hD; omega) hK rfl rfl)⟩
 case stop =>
  rintro D c pre W _ _ h _
  exact h.elim
theorem collect_in (F : Fence) (n : Nat) (h70 : F.fn 70) (h79 : F.fn 79) (h72 : F.fn 72) (hro : F.round = none) (hn : 4 ≤ n) (Bs o : Nat) (sv : Value) (zs : List Tm) (hlen : zs.length < 1000000) (w : World) (hBs : Bs < w.heap.size)
  (hc : w.cell? ⟨Bs, o, none⟩ = some sv) (hI : TmsAt w.heap.size w sv zs) :
  CallsIn F n Try.prog 70 #[.func (.func 72) #[] #[.pointer (some ⟨Bs, o, none⟩)]] w fun e W' => ∃ v, e = .returned v ∧ W'.ownsRow w.heap.size 36 4 v zs.length (zs.flatMap etm) ∧ (v = .slice none 0 0 ↔ zs = []) ∧ Below w.heap.size w W' := by
 have h1 : 1 ≤ n := by omega
 refine callsIn_of_wp Try.func70 rfl h70 ?_ hro
 simp only [Try.ntmps70, List.size_toArray, List.length_cons, List.length_nil, Nat.reduceAdd, Nat.reduceSub, Array.replicate_succ, Array.replicate_zero, List.push_toArray, List.append_toArray, List.nil_append, List.cons_append]
 gi_wp2_with (gi_at_call 79; refine (apSeq_in F (n - 1) h79 h72 hro (by omega) Bs o sv zs hlen w hBs hc hI).mono ?_; rintro e w' ⟨v, rfl, hrow, hnil, hb⟩)
 go_ret
 exact ⟨v, rfl, hrow, hnil, hb⟩
theorem collect_calls (Bs o : Nat) (sv : Value) (zs : List Tm) (hlen : zs.length < 1000000) (w : World) (hBs : Bs < w.heap.size) (hc : w.cell? ⟨Bs, o, none⟩ = some sv) (hI : TmsAt w.heap.size w sv zs) :
  Calls Try.prog 70 #[.func (.func 72) #[] #[.pointer (some ⟨Bs, o, none⟩)]] w fun e W' => ∃ v, e = .returned v ∧ W'.ownsRow w.heap.size 36 4 v zs.length (zs.flatMap etm) ∧ (v = .slice none 0 0 ↔ zs = []) ∧ Below w.heap.size w W' :=
 (callsIn_wide (n := 4)).1 (collect_in Fence.wide 4 trivial trivial trivial rfl (by omega) Bs o sv zs hlen w hBs hc hI)
end Go.Proofs.Ytnlokhfcgaikiaa
