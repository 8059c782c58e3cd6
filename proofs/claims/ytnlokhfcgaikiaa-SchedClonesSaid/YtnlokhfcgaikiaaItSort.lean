import Derived.Shelf.SlLaysF0
import Derived.Shelf.SlGeneric
import Derived.Shelf.Small.Bits
import Derived.StillTailTactics
import Derived.Test.YtnlokhfcgaikiaaVmS2
import Derived.Test.YtnlokhfcgaikiaaItValues
namespace Go.Proofs.Ytnlokhfcgaikiaa
open Go Go.Vm Go.Proofs Go.RowKit Go.Shelf Go.Sort
set_option linter.all false
set_option maxRecDepth 100000
set_option maxHeartbeats 4000000
def sortT_ren : Go.Shelf.Ren := ⟨fun | 6 => 71 | 15 => 81 | 14 => 80 | 28 => 93 | 29 => 94 | 20 => 85 | 21 => 86 | 22 => 87 | 23 => 88 | 24 => 89 | 25 => 90 | 26 => 91 | 27 => 92 | 46 => 96 | 47 => 97 | 48 => 98 | 49 => 99 | 50 => 100 | 57 => 101 | n => n, fun | 22 => 66 | 24 => 36 | 25 => 123 | 3 => 3 | 39 => 166 | 0 => 0 | 53 => 178 | 55 => 180 | 4 => 4 | 46 => 172 | 45 => 171 | 50 => 82 | 5 => 5 | 9 => 9 | 66 => 182 | 70 => 186 | 76 => 188 | 77 => 189 | n => n, fun | n => n⟩
theorem sortT : Go.Proofs.SlLaysF0.n6 Try.prog sortT_ren := {
 mixed := by kernel_rfl
 f6 := ⟨Try.f71.name, by decide, Try.func71.trans (congrArg some (by kernel_rfl))⟩
 f14 := ⟨Try.f80.name, by decide, Try.func80.trans (congrArg some (by kernel_rfl))⟩
 f15 := Try.func81.trans (congrArg some (by kernel_rfl))
 f20 := ⟨Try.f85.name, by decide, Try.func85.trans (congrArg some (by kernel_rfl))⟩
 f21 := ⟨Try.f86.name, by decide, Try.func86.trans (congrArg some (by kernel_rfl))⟩
 f22 := ⟨Try.f87.name, by decide, Try.func87.trans (congrArg some (by kernel_rfl))⟩
 f23 := ⟨Try.f88.name, by decide, Try.func88.trans (congrArg some (by kernel_rfl))⟩
 f24 := ⟨Try.f89.name, by decide, Try.func89.trans (congrArg some (by kernel_rfl))⟩
 f25 := ⟨Try.f90.name, by decide, Try.func90.trans (congrArg some (by kernel_rfl))⟩
 f26 := ⟨Try.f91.name, by decide, Try.func91.trans (congrArg some (by kernel_rfl))⟩
 f27 := ⟨Try.f92.name, by decide, Try.func92.trans (congrArg some (by kernel_rfl))⟩
 f28 := Try.func93.trans (congrArg some (by kernel_rfl))
 f29 := Try.func94.trans (congrArg some (by kernel_rfl))
 f46 := ⟨Try.f96.name, by decide, Try.func96.trans (congrArg some (by kernel_rfl))⟩
 f47 := Try.func97.trans (congrArg some (by kernel_rfl))
 f48 := Try.func98.trans (congrArg some (by kernel_rfl))
 f49 := ⟨Try.f99.name, by decide, Try.func99.trans (congrArg some (by kernel_rfl))⟩
 f50 := ⟨Try.f100.name, by decide, Try.func100.trans (congrArg some (by kernel_rfl))⟩
 f57 := ⟨Try.f101.name, by decide, Try.func101.trans (congrArg some (by kernel_rfl))⟩
 t0 := Try.underlying0
 a0 := Try.isAgg0
 z0 := Try.sizeOf0
 v0 := Try.zeroValue0
 t3 := Try.underlying3
 a3 := Try.isAgg3
 z3 := Try.sizeOf3
 v3 := Try.zeroValue3
 t4 := Try.underlying4
 a4 := Try.isAgg4
 z4 := Try.sizeOf4
 v4 := Try.zeroValue4
 t5 := Try.underlying5
 a5 := Try.isAgg5
 z5 := Try.sizeOf5
 v5 := Try.zeroValue5
 t9 := Try.underlying9
 a9 := Try.isAgg9
 z9 := Try.sizeOf9
 v9 := Try.zeroValue9
 t22 := Try.underlying66
 a22 := Try.isAgg66
 z22 := Try.sizeOf66
 v22 := Try.zeroValue66
 t25 := Try.underlying123
 a25 := Try.isAgg123
 z25 := Try.sizeOf123
 v25 := Try.zeroValue123
 t39 := Try.underlying166
 a39 := Try.isAgg166
 z39 := Try.sizeOf166
 v39 := Try.zeroValue166
 t45 := Try.underlying171
 a45 := Try.isAgg171
 z45 := Try.sizeOf171
 v45 := Try.zeroValue171
 t46 := Try.underlying172
 a46 := Try.isAgg172
 z46 := Try.sizeOf172
 v46 := Try.zeroValue172
 t50 := Try.underlying82
 a50 := Try.isAgg82
 z50 := Try.sizeOf82
 v50 := Try.zeroValue82
 t53 := Try.underlying178
 a53 := Try.isAgg178
 z53 := Try.sizeOf178
 v53 := Try.zeroValue178
 t55 := Try.underlying180
 a55 := Try.isAgg180
 z55 := Try.sizeOf180
 v55 := Try.zeroValue180
 t66 := Try.underlying182
 a66 := Try.isAgg182
 z66 := Try.sizeOf182
 v66 := Try.zeroValue182
 t70 := Try.underlying186
 a70 := Try.isAgg186
 z70 := Try.sizeOf186
 v70 := Try.zeroValue186
 t76 := Try.underlying188
 a76 := Try.isAgg188
 z76 := Try.sizeOf188
 v76 := Try.zeroValue188
 t77 := Try.underlying189
 a77 := Try.isAgg189
 z77 := Try.sizeOf189
 v77 := Try.zeroValue189 }
instance : Inhabited Tm := ⟨tm0⟩
def tcf (x y : Tm) : Int := if ccmp x.deadline y.deadline ≠ 0 then ccmp x.deadline y.deadline else ccmp x.token y.token
theorem tcf_fn (x y : Tm) (σ : List (List D)) : Ct Try.prog 53 [d_Tm x, d_Tm y] σ (fun r σ' => r = .int (tcf x y) ∧ σ' = σ) := tcmp0_fn x y σ
theorem tcf_iff (x y : Tm) : ltOf tcf x y = decide (tlt x y) := tcmp_lt x y
theorem tcf_swo : SWO (ltOf tcf) where
 irrefl x := by rw [tcf_iff]; simp [tlt]
 trans x y z h1 h2 := by rw [tcf_iff, decide_eq_true_eq] at *; unfold tlt at *; omega
 ntrans x y z h1 h2 := by rw [tcf_iff, decide_eq_false_iff_not] at *; unfold tlt at *; omega
theorem nan_calls (x : Int) (W : World) : Calls Try.prog 82 #[.int .i64 x] W fun e w' => e = .returned (.bool false) ∧ w' = W := by
 go_enter Try.func82, Try.ntmps82
 go_wp2
 go_ret
 exact ⟨by simp, rfl⟩
theorem cc_calls (x y : Int) (W : World) : Calls Try.prog 74 #[.int .i64 x, .int .i64 y] W fun e w' => e = .returned (.int .i64 (if x < y then -1 else if y < x then 1 else 0)) ∧ w' = W := by
 have hc := fun x => nan_calls x
 by_cases h1 : x < y
 ·rw [if_pos h1]
  go_enter Try.func74, Try.ntmps74
  go_wp2_with (go_at_call 82; refine (hc _ _).mono ?_; rintro e w' ⟨rfl, rfl⟩)
  go_ret
  exact ⟨by simp, rfl⟩
 ·rw [if_neg h1]
  by_cases h2 : y < x
  ·rw [if_pos h2]
   go_enter Try.func74, Try.ntmps74
   go_wp2_with (go_at_call 82; refine (hc _ _).mono ?_; rintro e w' ⟨rfl, rfl⟩)
   go_ret
   exact ⟨by simp, rfl⟩
  ·rw [if_neg h2]
   go_enter Try.func74, Try.ntmps74
   go_wp2_with (go_at_call 82; refine (hc _ _).mono ?_; rintro e w' ⟨rfl, rfl⟩)
   go_ret
   exact ⟨by simp, rfl⟩
theorem or_x (x y : Int) (hx : x ≠ 0) (b : Nat) (W : World) (h0 : W.cell? ⟨b, 0, none⟩ = some (.int .i64 x)) : Calls Try.prog 73 #[.slice (some ⟨b, 0, none⟩) 2 2] W fun e w' => e = .returned (.int .i64 x) ∧ w' = W := by
 go_enter Try.func73, Try.ntmps73
 go_wp2
 go_loopw [8] (fun i wr => i = .int .i64 0 ∧ wr = W) (fun i _ => 0)
 case atStart => exact ⟨rfl, rfl⟩
 case round =>
  obtain ⟨rfl, rfl⟩ := hrel
  go_wp2
  refine bodyPost_ret (results_tmp rfl _ _ _) rfl ?_
  exact ⟨rfl, rfl⟩
theorem or_y (y : Int) (b : Nat) (W : World) (h0 : W.cell? ⟨b, 0, none⟩ = some (.int .i64 0)) (h1 : W.cell? ⟨b, 1, none⟩ = some (.int .i64 y)) : Calls Try.prog 73 #[.slice (some ⟨b, 0, none⟩) 2 2] W fun e w' => e = .returned (.int .i64 y) ∧ w' = W := by
 go_enter Try.func73, Try.ntmps73
 go_wp2
 go_loopw [8] (fun i wr => ∃ k : Nat, i = .int .i64 k ∧ k ≤ 2 ∧ (2 ≤ k → y = 0) ∧ wr = W) (fun i _ => 2 - (intOf i).toNat)
 case atStart => exact ⟨0, rfl, by omega, by omega, rfl⟩
 case round =>
  obtain ⟨k, rfl, hk, hy, rfl⟩ := hrel
  match k, hk, hy with
  | 0, hk, hy =>
   go_wp2
   go_roundw
   case rel => exact ⟨1, by simp, by omega, by omega, trivial⟩
   case measure => simp [intOf]
  | 1, hk, hy =>
   by_cases hy0 : y = 0
   ·subst hy0
    go_wp2
    go_roundw
    case rel => exact ⟨2, by simp, by omega, by simp, trivial⟩
    case measure => simp [intOf]
   ·go_wp2
    refine bodyPost_ret (results_tmp rfl _ _ _) rfl ?_
    exact ⟨rfl, rfl⟩
  | 2, hk, hy =>
   obtain rfl : y = 0 := hy (by omega)
   go_wp2
   go_ret
   exact ⟨rfl, rfl⟩
theorem cmp_calls (x y : Tm) (W : World) : Calls Try.prog 53 #[.agg #[.int .i64 x.token, .int .i64 x.deadline, .int .i64 x.job.kind, .int .i64 x.job.node], .agg #[.int .i64 y.token, .int .i64 y.deadline, .int .i64 y.job.kind, .int .i64 y.job.node]] W fun e w' => e = .returned (.int .i64 (if ccmp x.deadline y.deadline ≠ 0 then ccmp x.deadline y.deadline else ccmp x.token y.token)) ∧ ∃ q os', w' = grow (W.drewN q) os' := by
 have hcc : ∀ a b W, Calls Try.prog 74 #[.int .i64 a, .int .i64 b] W fun e w' => e = .returned (.int .i64 (ccmp a b)) ∧ w' = W := fun a b W => by rw [ccmp_eq]; exact cc_calls a b W
 have hd := fun W => hcc x.deadline y.deadline W
 have ht := fun W => hcc x.token y.token W
 clear hcc
 generalize ccmp x.deadline y.deadline = c1 at hd ⊢
 generalize ccmp x.token y.token = c2 at ht ⊢
 by_cases h0 : c1 = 0
 ·subst h0
  simp only [ne_eq, not_true_eq_false, if_false]
  go_enter Try.func53, Try.ntmps53
  go_wp2
  obtain ⟨W0, hW0⟩ : ∃ W0, ((W.alloc (.cells #[.int .i64 x.token, .int .i64 x.deadline, .int .i64 x.job.kind, .int .i64 x.job.node] 36)).alloc (.cells #[.int .i64 y.token, .int .i64 y.deadline, .int .i64 y.job.kind, .int .i64 y.job.node] 36)) = W0 := ⟨_, rfl⟩
  rw [hW0]
  have hy : W0.heap[W.heap.size + 1]? = some (.cells #[.int .i64 y.token, .int .i64 y.deadline, .int .i64 y.job.kind, .int .i64 y.job.node] 36 (0, 0)) := by
   rw [← hW0]; have := World.alloc_heap_new (W.alloc (.cells #[.int .i64 x.token, .int .i64 x.deadline, .int .i64 x.job.kind, .int .i64 x.job.node] 36)) (.cells #[.int .i64 y.token, .int .i64 y.deadline, .int .i64 y.job.kind, .int .i64 y.job.node] 36); rwa [World.size_alloc] at this
  have hx : W0.heap[W.heap.size]? = some (.cells #[.int .i64 x.token, .int .i64 x.deadline, .int .i64 x.job.kind, .int .i64 x.job.node] 36 (0, 0)) := by
   rw [← hW0]; exact (RowKit.Below.heap_alloc _ _ _ (by simp)).trans (World.alloc_heap_new W _)
  refine wp_region_still_tail 10 (by kernel_rfl) (by kernel_rfl) ?_
  obtain ⟨W1, hW1⟩ : ∃ W1, ({ heap := W0.heap, tape := W0.tape, drawn := W0.drawn + 1, os := W0.os, output := W0.output } : World) = W1 := ⟨_, rfl⟩
  rw [hW1]
  have x0 : W1.cell? ⟨W.heap.size, 0, none⟩ = some (.int .i64 x.token) := by rw [← hW1]; simp [World.cell?, hx]
  have x1 : W1.cell? ⟨W.heap.size, 1, none⟩ = some (.int .i64 x.deadline) := by rw [← hW1]; simp [World.cell?, hx]
  have y0 : W1.cell? ⟨W.heap.size + 1, 0, none⟩ = some (.int .i64 y.token) := by rw [← hW1]; simp [World.cell?, hy]
  have y1 : W1.cell? ⟨W.heap.size + 1, 1, none⟩ = some (.int .i64 y.deadline) := by rw [← hW1]; simp [World.cell?, hy]
  have eW : ∀ q os', grow (W1.drewN q) os' = grow (W.drewN (q + 1)) (#[.cells #[.int .i64 x.token, .int .i64 x.deadline, .int .i64 x.job.kind, .int .i64 x.job.node] 36, .cells #[.int .i64 y.token, .int .i64 y.deadline, .int .i64 y.job.kind, .int .i64 y.job.node] 36] ++ os') := by
   intro q os'
   rw [← hW1, ← hW0]
   simp only [World.drew, World.drewN, World.alloc, grow]
   congr 1
   ·apply Array.ext'; simp
   ·omega
  have hs1 : W1.heap.size = W.heap.size + 2 := by rw [← hW1, ← hW0]; simp
  clear hW1 hx hy hW0
  simp only [List.take_succ_cons, List.take_zero, List.drop_succ_cons, List.drop_zero]
  repeat still_step
  still_call (hd _)
  repeat still_step
  still_call (ht _)
  try refine wpStill_nil ?_
  change wpList _ _ _ _ _ _
  go_wp2_with (go_at_call 73; refine (or_y c2 (W.heap.size + 2) _ (by rw [← hs1]; simp) (by rw [← hs1]; simp)).mono ?_; rintro e w' ⟨rfl, rfl⟩)
  go_ret
  exact ⟨rfl, _, _, by rw [alloc_eq_grow]; exact eW 0 _⟩
 ·simp only [ne_eq, h0, not_false_eq_true, if_true]
  go_enter Try.func53, Try.ntmps53
  go_wp2
  obtain ⟨W0, hW0⟩ : ∃ W0, ((W.alloc (.cells #[.int .i64 x.token, .int .i64 x.deadline, .int .i64 x.job.kind, .int .i64 x.job.node] 36)).alloc (.cells #[.int .i64 y.token, .int .i64 y.deadline, .int .i64 y.job.kind, .int .i64 y.job.node] 36)) = W0 := ⟨_, rfl⟩
  rw [hW0]
  have hy : W0.heap[W.heap.size + 1]? = some (.cells #[.int .i64 y.token, .int .i64 y.deadline, .int .i64 y.job.kind, .int .i64 y.job.node] 36 (0, 0)) := by
   rw [← hW0]; have := World.alloc_heap_new (W.alloc (.cells #[.int .i64 x.token, .int .i64 x.deadline, .int .i64 x.job.kind, .int .i64 x.job.node] 36)) (.cells #[.int .i64 y.token, .int .i64 y.deadline, .int .i64 y.job.kind, .int .i64 y.job.node] 36); rwa [World.size_alloc] at this
  have hx : W0.heap[W.heap.size]? = some (.cells #[.int .i64 x.token, .int .i64 x.deadline, .int .i64 x.job.kind, .int .i64 x.job.node] 36 (0, 0)) := by
   rw [← hW0]; exact (RowKit.Below.heap_alloc _ _ _ (by simp)).trans (World.alloc_heap_new W _)
  refine wp_region_still_tail 10 (by kernel_rfl) (by kernel_rfl) ?_
  obtain ⟨W1, hW1⟩ : ∃ W1, ({ heap := W0.heap, tape := W0.tape, drawn := W0.drawn + 1, os := W0.os, output := W0.output } : World) = W1 := ⟨_, rfl⟩
  rw [hW1]
  have x0 : W1.cell? ⟨W.heap.size, 0, none⟩ = some (.int .i64 x.token) := by rw [← hW1]; simp [World.cell?, hx]
  have x1 : W1.cell? ⟨W.heap.size, 1, none⟩ = some (.int .i64 x.deadline) := by rw [← hW1]; simp [World.cell?, hx]
  have y0 : W1.cell? ⟨W.heap.size + 1, 0, none⟩ = some (.int .i64 y.token) := by rw [← hW1]; simp [World.cell?, hy]
  have y1 : W1.cell? ⟨W.heap.size + 1, 1, none⟩ = some (.int .i64 y.deadline) := by rw [← hW1]; simp [World.cell?, hy]
  have eW : ∀ q os', grow (W1.drewN q) os' = grow (W.drewN (q + 1)) (#[.cells #[.int .i64 x.token, .int .i64 x.deadline, .int .i64 x.job.kind, .int .i64 x.job.node] 36, .cells #[.int .i64 y.token, .int .i64 y.deadline, .int .i64 y.job.kind, .int .i64 y.job.node] 36] ++ os') := by
   intro q os'
   rw [← hW1, ← hW0]
   simp only [World.drew, World.drewN, World.alloc, grow]
   congr 1
   ·apply Array.ext'; simp
   ·omega
  have hs1 : W1.heap.size = W.heap.size + 2 := by rw [← hW1, ← hW0]; simp
  clear hW1 hx hy hW0
  simp only [List.take_succ_cons, List.take_zero, List.drop_succ_cons, List.drop_zero]
  repeat still_step
  still_call (hd _)
  repeat still_step
  still_call (ht _)
  try refine wpStill_nil ?_
  change wpList _ _ _ _ _ _
  go_wp2_with (go_at_call 73; refine (or_x c1 c2 h0 (W.heap.size + 2) _ (by rw [← hs1]; simp)).mono ?_; rintro e w' ⟨rfl, rfl⟩)
  go_ret
  exact ⟨rfl, _, _, by rw [alloc_eq_grow]; exact eW 0 _⟩
theorem tcf_calls (x y : Tm) (W : World) : Calls Try.prog 53 #[.agg (etm x).toArray, .agg (etm y).toArray] W fun e w' => e = .returned (.int .i64 (tcf x y)) ∧ ∃ q os', w' = grow (W.drewN q) os' :=
 cmp_calls x y W
theorem ins0 (w : World) : Calls Try.prog 85 #[.slice none 0 0, .int .i64 0, .int .i64 0, .func (.func 53) #[] #[]] w fun e w' => e = .returned (.tuple #[]) ∧ w' = w := by
 go_enter Try.func85, Try.ntmps85
 go_wp2
 go_loopw [8] (fun i wr => i = .int .i64 1 ∧ wr = w) (fun _ _ => 0)
 case atStart => exact ⟨rfl, rfl⟩
 case round =>
  obtain ⟨rfl, rfl⟩ := hrel
  go_wp2
  go_end0
  exact ⟨rfl, rfl⟩
theorem pdq0 (w : World) (k : Nat) : Calls Try.prog 80 #[.slice none 0 0, .int .i64 0, .int .i64 0, .int .i64 k, .func (.func 53) #[] #[]] w fun e w' => e = .returned (.tuple #[]) ∧ w' = w := by
 have hc := ins0 w
 go_enter Try.func80, Try.ntmps80
 go_wp2
 go_loopw [1, 2, 3, 10, 11] (fun s1 s2 s3 s8 s9 wr => s1 = .int .i64 0 ∧ s2 = .int .i64 0 ∧ s3 = .int .i64 k ∧ s8 = .bool true ∧ s9 = .bool true ∧ wr = w) (fun _ _ _ _ _ _ => 0)
 case atStart => exact ⟨rfl, rfl, rfl, rfl, rfl, rfl⟩
 case round =>
  obtain ⟨rfl, rfl, rfl, rfl, rfl, rfl⟩ := hrel
  go_wp2_with (go_at_call 85; refine hc.mono ?_; rintro e w1 ⟨rfl, rfl⟩)
  (try simp only [Exit.inBlock, Exit.then]); refine bodyPost_ret (results_none rfl _ _ _) rfl ?_
  exact ⟨rfl, rfl⟩
theorem sort0 (w : World) : Calls Try.prog 71 #[.slice none 0 0, .func (.func 53) #[] #[]] w fun e w' => e = .returned (.tuple #[]) ∧ w' = w := by
 have hl : Calls Try.prog 81 #[.int .u64 0] w fun e w' => e = .returned (.int .i64 (Lib.bitLen 0 : Nat)) ∧ w' = w :=
  Any.bits_Len (SlLaysF0.n15.bits (P := Try.prog) (ρ := sortT_ren) { sortT with }) 0 w (by omega) (by omega)
 have hp := pdq0 w
 generalize Lib.bitLen 0 = k at hl
 go_enter Try.func71, Try.ntmps71
 go_wp2_with (first | (go_at_call 81; refine hl.mono ?_; rintro e w' ⟨rfl, rfl⟩) | (go_at_call 80; refine (hp _).mono ?_; rintro e w' ⟨rfl, rfl⟩))
 go_end0
 exact ⟨rfl, rfl⟩
theorem sort_calls (base : Nat) (v : Value) (zs : List Tm) (hlen : zs.length < 1000000) (w : World) (hrow : w.ownsRow base 36 4 v zs.length (zs.flatMap etm)) :
  Calls Try.prog 71 #[v, .func (.func 53) #[] #[]] w fun e w' => e = .returned (.tuple #[]) ∧ ∃ zs' : List Tm, zs'.Perm zs ∧ zs'.Pairwise (fun a b => ¬ tlt b a) ∧ w'.ownsRow base 36 4 v zs'.length (zs'.flatMap etm) ∧ RowKit.Below base w w' := by
 rcases hrow.2 with ⟨rfl, h0⟩ | ⟨g, cap, cur, rfl, _⟩
 ·obtain rfl : zs = [] := List.eq_nil_of_length_eq_zero h0
  refine (sort0 w).mono ?_
  rintro e w' ⟨rfl, rfl⟩
  exact ⟨rfl, [], .refl _, .nil, hrow, Below.refl _ _⟩
 ·refine (sortRow (α := Tm) sortT 4 (by omega) Try.isAgg36 Try.sizeOf36 etm (fun _ => rfl) (fun x v hv => by simp [etm] at hv; rcases hv with rfl | rfl | rfl | rfl <;> rfl) tcf tcf_swo 53 (enters_of Try.func53 (by kernel_rfl) rfl)
   tcf_calls 71 rfl base 36 g cap zs.length zs.toArray w hrow (by simp) (by omega)).mono ?_
  rintro e w' ⟨rfl, d', hs, hp, hso, hr, hb⟩
  refine ⟨rfl, d'.toList, by simpa using hp, ?_, by rw [show d'.toList.length = zs.length by simp [hs]]; exact hr, hb⟩
  rw [List.pairwise_iff_getElem]
  intro i j hi hj hij
  have h1 : i < d'.size := by simpa using hi
  have h2 : j < d'.size := by simpa using hj
  have := hso i j (Nat.zero_le _) hij (by omega)
  rw [tcf_iff, getElem!_pos d' i h1, getElem!_pos d' j h2, decide_eq_false_iff_not] at this
  simpa using this
theorem sorted_calls (Bs o : Nat) (sv : Value) (zs : List Tm) (hlen : zs.length < 1000000) (w : World) (hBs : Bs < w.heap.size) (hc : w.cell? ⟨Bs, o, none⟩ = some sv) (hI : TmsAt w.heap.size w sv zs) :
  Calls Try.prog 51 #[.func (.func 72) #[] #[.pointer (some ⟨Bs, o, none⟩)], .func (.func 53) #[] #[]] w fun e w' => ∃ v, ∃ zs' : List Tm, e = .returned v ∧ (zs' = [] → v = .slice none 0 0) ∧ zs'.Perm zs ∧ zs'.Pairwise (fun a b => ¬ tlt b a) ∧ w'.ownsRow w.heap.size 36 4 v zs'.length (zs'.flatMap etm) ∧ RowKit.Below w.heap.size w w' := by
 have h70 := collect_calls Bs o sv zs hlen w hBs hc hI
 go_enter Try.func51, Try.ntmps51
 go_wp2_with (first | (go_at_call 70; refine h70.mono ?_; rintro e w1 ⟨v, rfl, hrow, hnil, hb⟩; have h71 := sort_calls w.heap.size v zs hlen w1 hrow) | (go_at_call 71; refine h71.mono ?_; rintro e w2 ⟨rfl, zs', hp, hso, hr, hb2⟩))
 go_ret
 exact ⟨v, zs', rfl, fun h => hnil.2 (by subst h; exact (List.nil_perm.1 hp)), hp, hso, hr, hb.trans hb2⟩
end Go.Proofs.Ytnlokhfcgaikiaa
