/- Walks: contracts of functions. Written by a program of ours out of annotations. -/
import Derived.Test.YtnlokhfcgaikiaaWkCl2
import Derived.Test.YtnlokhfcgaikiaaWkPlay4
namespace Go.Proofs.Ytnlokhfcgaikiaa
open Go Go.Vm
set_option maxRecDepth 20000
set_option linter.all false
set_option maxHeartbeats 8000000

@[simp] abbrev wcl (s : WS) : WS := ⟨s.most, s.last, hclone s.h⟩
theorem wcl_ok {s : WS} (h : WOk s) : WOk (wcl s) := ⟨hclone_ok h.hk, h.hm, h.hl, h.hc, h.tk⟩
theorem PI.clone {k : Int} {s : WS} {x : RW} (h : PI k s x) : PI k (wcl s) x := ⟨⟨wcl_ok h.i.ok, h.i.hp, h.i.dl⟩, h.most, h.last, h.lk, h.hp, h.so⟩

-- scrim/scrimlaw16.WheelClones
theorem wheelClones_fn (acts more : List WAct) (σ : List (List D)) (hl : acts.length ≤ 9223372036854775807) (hl2 : more.length ≤ 9223372036854775807) : Ct Try.prog 6 [.sl false (acts.map d_WAct), .sl false (more.map d_WAct)] σ (fun r σ' => r = .bool true) := by
  refine fn_start (rs := [.tmp 4]) Try.func6 rfl rfl Try.ntmps6 Try.results6 (by simp) ?_
  simp only [argEnv]
  refine awp_seq ?_
  refine awp_regionA (c := ⟨[], [], [], [], []⟩) (by simp only [lite_cons, lite_nil] <;> rfl) fun all hall K hK => ?_
  clear hall
  simp (maxSteps := 1000000) (disch := first | omega | assumption) [og_at, og_put, og_at0, og_put0]
  repeat' refine And.intro ?_ ?_
  all_goals first | omega | exact rfl | skip
  refine hK _ ?_
  clear hK K
  clear all
  refine q_then_n ?_
  refine awp_seq ?_
  refine awp_seq ?_
  refine awp_regionA (c := ⟨[], [], [], [], []⟩) (by simp only [lite_cons, lite_nil] <;> rfl) fun all hall K hK => ?_
  clear hall
  refine vcL_step fun K' hK' => ?_
  simp (maxSteps := 1000000) (disch := first | omega | assumption) [og_at, og_put, og_at0, og_put0]
  refine Ct.mono (Ct.of_le (wawake_fn _) (by first | exact leArgs_of rfl | (refine leArgs_of ?_; simp; done) | (refine leArgs_of ?_; simp; rfl) | (simp [leArgs, leArg]; done)) rfl) ?_
  rintro _ _ ⟨hr9, hs9⟩
  subst hr9
  replace hs9 := hs9.symm
  subst hs9
  refine hK' _ ?_
  clear hK' K'
  simp (maxSteps := 1000000) (disch := first | omega | assumption) [og_at, og_put, og_at0, og_put0]
  repeat' refine And.intro ?_ ?_
  all_goals first | omega | exact rfl | skip
  refine hK _ ?_
  clear hK K
  clear all
  refine q_then_n ?_
  refine awp_ifB (by simp <;> rfl) ?_
  refine ⟨fun c1 => ?_, fun c1 => ?_⟩
  · simp at c1
  · try simp at c1
    refine awp_skip ?_
    refine q_then_n ?_
    refine awp_seq ?_
    refine awp_regionA (c := ⟨[], [], [], [], []⟩) (by simp only [lite_cons, lite_nil] <;> rfl) fun all hall K hK => ?_
    clear hall
    refine vcL_step fun K' hK' => ?_
    simp (maxSteps := 1000000) (disch := first | omega | assumption) [og_at, og_put, og_at0, og_put0]
    refine Ct.mono (Ct.of_le (wnew0_fn 50 _) (by first | exact leArgs_of rfl | (refine leArgs_of ?_; simp; done) | (refine leArgs_of ?_; simp; rfl) | (simp [leArgs, leArg]; done)) rfl) ?_
    rintro _ _ ⟨hr9, hs9⟩
    subst hr9
    replace hs9 := hs9.symm
    subst hs9
    refine hK' _ ?_
    clear hK' K'
    refine vcL_step fun K' hK' => ?_
    simp (maxSteps := 1000000) (disch := first | omega | assumption) [og_at, og_put, og_at0, og_put0]
    refine Ct.mono (Ct.of_le (rnew_fn 50 _) (by first | exact leArgs_of rfl | (refine leArgs_of ?_; simp; done) | (refine leArgs_of ?_; simp; rfl) | (simp [leArgs, leArg]; done)) rfl) ?_
    rintro _ _ ⟨hr9, hs9⟩
    subst hr9
    replace hs9 := hs9.symm
    subst hs9
    refine hK' _ ?_
    clear hK' K'
    simp (maxSteps := 1000000) (disch := first | omega | assumption) [og_at, og_put, og_at0, og_put0]
    repeat' refine And.intro ?_ ?_
    all_goals first | omega | exact rfl | skip
    refine hK _ ?_
    clear hK K
    clear all
    refine q_then_n ?_
    refine awp_seq ?_
    refine awp_seq ?_
    refine awp_regionA (c := ⟨[], [], [], [], []⟩) (by simp only [lite_cons, lite_nil] <;> rfl) fun all hall K hK => ?_
    clear hall
    simp (maxSteps := 1000000) (disch := first | omega | assumption) [og_at, og_put, og_at0, og_put0]
    repeat' refine And.intro ?_ ?_
    all_goals first | omega | exact rfl | skip
    refine hK _ ?_
    clear hK K
    clear all
    refine q_then_n ?_
    refine awp_ifB (by simp <;> rfl) ?_
    refine ⟨fun c2 => ?_, fun c2 => ?_⟩
    · simp at c2
    · try simp at c2
      refine awp_skip ?_
      refine q_then_n ?_
      refine awp_seq ?_
      refine awp_regionA (c := ⟨[], [], [], [], []⟩) (by simp only [lite_cons, lite_nil] <;> rfl) fun all hall K hK => ?_
      clear hall
      simp (maxSteps := 1000000) (disch := first | omega | assumption) [og_at, og_put, og_at0, og_put0]
      repeat' refine And.intro ?_ ?_
      all_goals first | omega | exact rfl | skip
      refine hK _ ?_
      clear hK K
      clear all
      refine q_then_n ?_
      refine awp_seq ?_
      refine awp_seq ?_
      refine awp_regionA (c := ⟨[], [], [], [], []⟩) (by simp only [lite_cons, lite_nil] <;> rfl) fun all hall K hK => ?_
      clear hall
      simp (maxSteps := 1000000) (disch := first | omega | assumption) [og_at, og_put, og_at0, og_put0]
      repeat' refine And.intro ?_ ?_
      all_goals first | omega | exact rfl | skip
      refine hK _ ?_
      clear hK K
      clear all
      refine q_then_n ?_
      refine awp_block ?_
      refine awp_keep [0, 1, 4, 5, 6, 7, 8] (by simp only [keepL_nil, keepL_cons, envOf_sel, envOf_nil, sel_t, sel_f, Nat.reduceBEq] <;> rfl) ?_
      refine awp_loopM (fun (s : PSt) => [(8, .d (.int s.k)), (7, .d (.any))]) (fun (s : PSt) => [(0, [D.int s.x.most, D.int s.x.last, .sl false (s.x.l.map d_Tm)])]) (fun (s : PSt) => [(σ.length + 1, dhp σ.length s.s.h), (σ.length + 2, dwh (σ.length + 1) s.s)]) [4, 7, 8, 18, 19, 20, 21, 22, 23, 24, 25, 26, 27, 28, 29, 30, 31, 32, 33, 34, 35, 36, 37, 38, 39] (fun (s : PSt) => s.k ≤ acts.length ∧ s.k ≤ 30 ∧ PI s.k s.s s.x) (fun (s : PSt) => acts.length - s.k) (⟨0, ⟨clip 50 1 65536, 0, hp0⟩, ⟨max 1 (min 50 65536), 0, []⟩⟩) (by simp <;> rfl) ?_ (by simp) (by simp [og_at, og_put, og_at0, og_put0]) ?_ ?_
      · simp
      · exact ⟨by simp, by simp, PI.new 50⟩
      rintro ⟨k, s, x⟩ ⟨hk, hk80, hi⟩
      simp only [List.cons_append, List.nil_append, setL_nil, setL_cons, List.set_cons_zero, List.set_cons_succ]
      dsimp only at hk hk80 hi
      have hok := hi.i.ok
      have hxl := hi.xl
      have hxn := hi.xn (by omega)
      have hlk := hi.lk
      refine awp_seq ?_
      refine awp_seq ?_
      refine awp_regionA (c := ⟨[], [], [], [], []⟩) (by simp only [lite_cons, lite_nil] <;> rfl) fun all hall K hK => ?_
      have ga4 : guardOf all 4 = some 22 := hall 4
      clear hall
      refine vcL_split 5 fun K' hK' => ?_
      simp (maxSteps := 1000000) (disch := first | omega | assumption) [og_at, og_put, og_at0, og_put0, ga4]
      repeat' refine And.intro ?_ ?_
      all_goals first | omega | exact rfl | skip
      refine hK' _ ?_
      clear hK' K'
      simp only [List.drop_succ_cons, List.drop_zero]
      refine vcL_bool 22 (by simp <;> rfl) ?_
      refine ⟨fun g3 => ?_, fun g3 => ?_⟩
      · try simp at g3
        simp (maxSteps := 1000000) (disch := first | omega | assumption) [og_at, og_put, og_at0, og_put0, ga4]
        repeat' refine And.intro ?_ ?_
        all_goals first | omega | exact rfl | skip
        refine hK _ ?_
        clear hK K
        clear ga4
        clear all
        refine q_then_n ?_
        refine awp_ifB (by simp <;> rfl) ?_
        refine ⟨fun c4 => ?_, fun c4 => ?_⟩
        · try simp at c4
          refine awp_skip ?_
          refine q_then_n ?_
          refine awp_seq ?_
          refine awp_block ?_
          refine awp_seq ?_
          refine awp_keep [0, 1, 5, 6, 7, 8] (by simp only [keepL_nil, keepL_cons, envOf_sel, envOf_nil, sel_t, sel_f, Nat.reduceBEq] <;> rfl) ?_
          refine awp_drawA (c := ⟨[], [], [], [], []⟩) [.op ⟨false, false, false, false⟩, .op ⟨true, false, false, false⟩, .op ⟨false, false, false, false⟩, .op ⟨false, false, false, false⟩, .op ⟨false, false, false, false⟩, .op ⟨false, false, false, false⟩, .det, .op ⟨false, false, false, false⟩, .op ⟨false, false, false, false⟩, .op ⟨false, false, false, false⟩, .op ⟨true, true, false, false⟩, .op ⟨false, false, false, false⟩] (by kernel_rfl) (by kernel_rfl) (by simp only [lite_cons, lite_nil] <;> rfl) fun all hall K hK => ?_
          clear hall
          refine vcDL_split 6 (by simp) fun K' hK' => ?_
          simp (maxSteps := 1000000) (disch := first | omega | assumption) [og_at, og_put, og_at0, og_put0]
          repeat' refine And.intro ?_ ?_
          all_goals first | omega | exact rfl | skip
          refine hK' _ ?_
          clear hK' K'
          simp only [List.drop_succ_cons, List.drop_zero]
          refine vcDL_step fun K' hK' => ?_
          simp (maxSteps := 1000000) (disch := first | omega | assumption) [og_at, og_put, og_at0, og_put0]
          refine ⟨_, _, Ct.of_le (do_fn (σ.length + 2) (σ.length + 1) σ.length s x acts[k] _ (by simp [og_at, og_put, og_at0, og_put0]) (by simp [og_at, og_put, og_at0, og_put0]) hok (by omega) (by simp) (by omega) hxl hxn) (by first | exact leArgs_of rfl | (refine leArgs_of ?_; simp; done) | (refine leArgs_of ?_; simp; rfl) | (simp [leArgs, leArg]; done)) rfl, ?_⟩
          refine hK' _ ?_
          clear hK' K'
          simp (maxSteps := 1000000) (disch := first | omega | assumption) [og_at, og_put, og_at0, og_put0]
          repeat' refine And.intro ?_ ?_
          all_goals first | omega | exact rfl | skip
          refine hK _ ?_
          clear hK K
          clear all
          refine q_then_n ?_
          refine awp_seq ?_
          refine awp_keep [0, 1, 5, 6, 7, 8] (by simp only [keepL_nil, keepL_cons, envOf_sel, envOf_nil, sel_t, sel_f, Nat.reduceBEq] <;> rfl) ?_
          refine awp_regionA (c := ⟨[], [], [], [], []⟩) (by simp only [lite_cons, lite_nil] <;> rfl) fun all hall K hK => ?_
          clear hall
          simp (maxSteps := 1000000) (disch := first | omega | assumption) [og_at, og_put, og_at0, og_put0]
          repeat' refine And.intro ?_ ?_
          all_goals first | omega | exact rfl | skip
          refine hK _ ?_
          clear hK K
          clear all
          refine q_then_n ?_
          refine awp_ifB (by simp <;> rfl) ?_
          refine ⟨fun c5 => ?_, fun c5 => ?_⟩
          · try simp at c5
            exact absurd (hi.step acts[k]).2 c5
          · try simp at c5
            refine awp_skip ?_
            refine q_block_n ?_
            refine q_then_n ?_
            refine awp_regionA (c := ⟨[], [], [], [], []⟩) (by simp only [lite_cons, lite_nil] <;> rfl) fun all hall K hK => ?_
            clear hall
            simp (maxSteps := 1000000) (disch := first | omega | assumption) [og_at, og_put, og_at0, og_put0]
            repeat' refine And.intro ?_ ?_
            all_goals first | omega | exact rfl | skip
            refine hK _ ?_
            clear hK K
            clear all
            refine q_round (⟨k + 1, wdo s acts[k], rdo x acts[k]⟩) ?_ ?_ (weak_mkA rfl ?_ (by simp) (by simp))
            · exact ⟨by simp at *; omega, by simp at *; omega, by simpa using (hi.step _).1⟩
            · try dsimp only
              omega
            · simp (maxSteps := 1000000) (disch := first | omega | assumption) [og_at, og_put, og_at0, og_put0]
        · try simp at c4
          refine awp_exit ?_
          refine q_then_e ?_
          refine q_loop_e ?_
          refine q_block_e ?_
          refine q_then_n ?_
          refine awp_seq ?_
          have hi30 : PI (30 + (0 : Nat)) (wcl s) x := (hi.mono (show (k : Int) ≤ 30 + (0 : Nat) by omega)).clone
          refine awp_freezeBox 6 0 (by simp <;> rfl) (by simp <;> rfl) (by simp) ?_
          simp only [List.map_cons, List.map_nil, s1_v, s1_sl]
          refine awp_keep [1, 5, 6, 7] (by simp only [keepL_nil, keepL_cons, envOf_sel, envOf_nil, sel_t, sel_f, Nat.reduceBEq] <;> rfl) ?_
          refine awp_drawA (c := ⟨[], [], [], [], []⟩) [.op ⟨false, false, false, false⟩, .det, .op ⟨false, false, false, false⟩, .op ⟨true, true, false, false⟩, .op ⟨false, false, false, false⟩, .op ⟨true, true, false, false⟩] (by kernel_rfl) (by kernel_rfl) (by simp only [lite_cons, lite_nil] <;> rfl) fun all hall K hK => ?_
          clear hall
          refine vcDL_split 1 (by simp) fun K' hK' => ?_
          simp (maxSteps := 1000000) (disch := first | omega | assumption) [og_at, og_put, og_at0, og_put0]
          repeat' refine And.intro ?_ ?_
          all_goals first | omega | exact rfl | skip
          refine hK' _ ?_
          clear hK' K'
          simp only [List.drop_succ_cons, List.drop_zero]
          refine vcDL_step fun K' hK' => ?_
          simp (maxSteps := 1000000) (disch := first | omega | assumption) [og_at, og_put, og_at0, og_put0]
          refine ⟨_, _, Ct.of_le (wclone_fn (σ.length + 2) (σ.length + 1) σ.length s _ (by simp [og_at, og_put, og_at0, og_put0]) (by simp [og_at, og_put, og_at0, og_put0]) hok) (by first | exact leArgs_of rfl | (refine leArgs_of ?_; simp; done) | (refine leArgs_of ?_; simp; rfl) | (simp [leArgs, leArg]; done)) rfl, ?_⟩
          refine hK' _ ?_
          clear hK' K'
          simp (maxSteps := 1000000) (disch := first | omega | assumption) [og_at, og_put, og_at0, og_put0]
          repeat' refine And.intro ?_ ?_
          all_goals first | omega | exact rfl | skip
          refine hK _ ?_
          clear hK K
          clear all
          refine q_then_n ?_
          refine awp_seq ?_
          refine awp_seq ?_
          refine awp_regionA (c := ⟨[], [], [], [], []⟩) (by simp only [lite_cons, lite_nil] <;> rfl) fun all hall K hK => ?_
          clear hall
          simp (maxSteps := 1000000) (disch := first | omega | assumption) [og_at, og_put, og_at0, og_put0]
          repeat' refine And.intro ?_ ?_
          all_goals first | omega | exact rfl | skip
          refine hK _ ?_
          clear hK K
          clear all
          refine q_then_n ?_
          refine awp_ifB (by simp <;> rfl) ?_
          refine ⟨fun c6 => ?_, fun c6 => ?_⟩
          · simp at c6
          · try simp at c6
            refine awp_skip ?_
            refine q_then_n ?_
            refine awp_seq ?_
            refine awp_seq ?_
            refine awp_regionA (c := ⟨[], [], [], [], []⟩) (by simp only [lite_cons, lite_nil] <;> rfl) fun all hall K hK => ?_
            clear hall
            simp (maxSteps := 1000000) (disch := first | omega | assumption) [og_at, og_put, og_at0, og_put0]
            repeat' refine And.intro ?_ ?_
            all_goals first | omega | exact rfl | skip
            refine hK _ ?_
            clear hK K
            clear all
            refine q_then_n ?_
            refine awp_block ?_
            refine awp_keep [1, 5, 6, 7, 9, 10, 11] (by simp only [keepL_nil, keepL_cons, envOf_sel, envOf_nil, sel_t, sel_f, Nat.reduceBEq] <;> rfl) ?_
            refine awp_loopM (fun (s : PSt) => [(11, .d (.int s.k)), (7, .d (.any))]) (fun (s : PSt) => [(1, [D.int s.x.most, D.int s.x.last, .sl false (s.x.l.map d_Tm)])]) (fun (s : PSt) => [(σ.length + 4, dhp (σ.length + 3) s.s.h), (σ.length + 5, dwh (σ.length + 4) s.s)]) [4, 7, 11, 45, 46, 47, 48, 49, 50, 51, 52, 53, 54, 55, 56, 57, 58, 59, 60, 61, 62, 63, 64, 65, 66] (fun (s : PSt) => s.k ≤ more.length ∧ s.k ≤ 30 ∧ PI (30 + s.k) s.s s.x) (fun (s : PSt) => more.length - s.k) (⟨0, wcl s, x⟩) (by simp <;> rfl) ?_ (by simp) (by simp [og_at, og_put, og_at0, og_put0]) ?_ ?_
            · simp
            · exact ⟨by simp, by simp, hi30⟩
            rintro ⟨k2, s2, x2⟩ ⟨hk2, hk280, hi2⟩
            simp only [List.cons_append, List.nil_append, setL_nil, setL_cons, List.set_cons_zero, List.set_cons_succ]
            dsimp only at hk2 hk280 hi2
            have hok2 := hi2.i.ok
            have hxl2 := hi2.xl
            have hxn2 := hi2.xn (by omega)
            have hlk2 := hi2.lk
            refine awp_seq ?_
            refine awp_seq ?_
            refine awp_regionA (c := ⟨[], [], [], [], []⟩) (by simp only [lite_cons, lite_nil] <;> rfl) fun all hall K hK => ?_
            have ga4 : guardOf all 4 = some 49 := hall 4
            clear hall
            refine vcL_split 5 fun K' hK' => ?_
            simp (maxSteps := 1000000) (disch := first | omega | assumption) [og_at, og_put, og_at0, og_put0, ga4]
            repeat' refine And.intro ?_ ?_
            all_goals first | omega | exact rfl | skip
            refine hK' _ ?_
            clear hK' K'
            simp only [List.drop_succ_cons, List.drop_zero]
            refine vcL_bool 49 (by simp <;> rfl) ?_
            refine ⟨fun g7 => ?_, fun g7 => ?_⟩
            · try simp at g7
              simp (maxSteps := 1000000) (disch := first | omega | assumption) [og_at, og_put, og_at0, og_put0, ga4]
              repeat' refine And.intro ?_ ?_
              all_goals first | omega | exact rfl | skip
              refine hK _ ?_
              clear hK K
              clear ga4
              clear all
              refine q_then_n ?_
              refine awp_ifB (by simp <;> rfl) ?_
              refine ⟨fun c8 => ?_, fun c8 => ?_⟩
              · try simp at c8
                refine awp_skip ?_
                refine q_then_n ?_
                refine awp_seq ?_
                refine awp_block ?_
                refine awp_seq ?_
                refine awp_keep [1, 5, 6, 7, 9, 10, 11] (by simp only [keepL_nil, keepL_cons, envOf_sel, envOf_nil, sel_t, sel_f, Nat.reduceBEq] <;> rfl) ?_
                refine awp_drawA (c := ⟨[], [], [], [], []⟩) [.op ⟨false, false, false, false⟩, .op ⟨true, false, false, false⟩, .op ⟨false, false, false, false⟩, .op ⟨false, false, false, false⟩, .op ⟨false, false, false, false⟩, .op ⟨false, false, false, false⟩, .det, .op ⟨false, false, false, false⟩, .op ⟨false, false, false, false⟩, .op ⟨false, false, false, false⟩, .op ⟨true, true, false, false⟩, .op ⟨false, false, false, false⟩] (by kernel_rfl) (by kernel_rfl) (by simp only [lite_cons, lite_nil] <;> rfl) fun all hall K hK => ?_
                clear hall
                refine vcDL_split 6 (by simp) fun K' hK' => ?_
                simp (maxSteps := 1000000) (disch := first | omega | assumption) [og_at, og_put, og_at0, og_put0]
                repeat' refine And.intro ?_ ?_
                all_goals first | omega | exact rfl | skip
                refine hK' _ ?_
                clear hK' K'
                simp only [List.drop_succ_cons, List.drop_zero]
                refine vcDL_step fun K' hK' => ?_
                simp (maxSteps := 1000000) (disch := first | omega | assumption) [og_at, og_put, og_at0, og_put0]
                refine ⟨_, _, Ct.of_le (do_fn (σ.length + 5) (σ.length + 4) (σ.length + 3) s2 x2 more[k2] _ (by simp [og_at, og_put, og_at0, og_put0]) (by simp [og_at, og_put, og_at0, og_put0]) hok2 (by omega) (by simp) (by omega) hxl2 hxn2) (by first | exact leArgs_of rfl | (refine leArgs_of ?_; simp; done) | (refine leArgs_of ?_; simp; rfl) | (simp [leArgs, leArg]; done)) rfl, ?_⟩
                refine hK' _ ?_
                clear hK' K'
                simp (maxSteps := 1000000) (disch := first | omega | assumption) [og_at, og_put, og_at0, og_put0]
                repeat' refine And.intro ?_ ?_
                all_goals first | omega | exact rfl | skip
                refine hK _ ?_
                clear hK K
                clear all
                refine q_then_n ?_
                refine awp_seq ?_
                refine awp_keep [1, 5, 6, 7, 9, 10, 11] (by simp only [keepL_nil, keepL_cons, envOf_sel, envOf_nil, sel_t, sel_f, Nat.reduceBEq] <;> rfl) ?_
                refine awp_regionA (c := ⟨[], [], [], [], []⟩) (by simp only [lite_cons, lite_nil] <;> rfl) fun all hall K hK => ?_
                clear hall
                simp (maxSteps := 1000000) (disch := first | omega | assumption) [og_at, og_put, og_at0, og_put0]
                repeat' refine And.intro ?_ ?_
                all_goals first | omega | exact rfl | skip
                refine hK _ ?_
                clear hK K
                clear all
                refine q_then_n ?_
                refine awp_ifB (by simp <;> rfl) ?_
                refine ⟨fun c9 => ?_, fun c9 => ?_⟩
                · try simp at c9
                  exact absurd (hi2.step more[k2]).2 c9
                · try simp at c9
                  refine awp_skip ?_
                  refine q_block_n ?_
                  refine q_then_n ?_
                  refine awp_regionA (c := ⟨[], [], [], [], []⟩) (by simp only [lite_cons, lite_nil] <;> rfl) fun all hall K hK => ?_
                  clear hall
                  simp (maxSteps := 1000000) (disch := first | omega | assumption) [og_at, og_put, og_at0, og_put0]
                  repeat' refine And.intro ?_ ?_
                  all_goals first | omega | exact rfl | skip
                  refine hK _ ?_
                  clear hK K
                  clear all
                  refine q_round (⟨k2 + 1, wdo s2 more[k2], rdo x2 more[k2]⟩) ?_ ?_ (weak_mkA rfl ?_ (by simp) (by simp))
                  · exact ⟨by simp at *; omega, by simp at *; omega, by have h9 := (hi2.step more[k2]).1; rw [Int.add_assoc] at h9; simpa using h9⟩
                  · try dsimp only
                    omega
                  · simp (maxSteps := 1000000) (disch := first | omega | assumption) [og_at, og_put, og_at0, og_put0]
              · try simp at c8
                refine awp_exit ?_
                refine q_then_e ?_
                refine q_loop_e ?_
                refine q_block_e ?_
                refine q_then_n ?_
                refine awp_seq ?_
                refine awp_keep [5, 6, 9, 10] (by simp only [keepL_nil, keepL_cons, envOf_sel, envOf_nil, sel_t, sel_f, Nat.reduceBEq] <;> rfl) ?_
                refine awp_drawA (c := ⟨[], [], [], [], []⟩) [.op ⟨false, false, false, false⟩, .read, .op ⟨false, false, false, false⟩, .op ⟨false, false, false, false⟩, .pure, .op ⟨false, false, false, false⟩, .op ⟨false, false, false, false⟩, .read, .op ⟨false, false, false, false⟩, .op ⟨true, false, false, false⟩, .pure, .op ⟨false, false, false, false⟩, .op ⟨false, false, false, false⟩] (by kernel_rfl) (by kernel_rfl) (by simp only [lite_cons, lite_nil] <;> rfl) fun all hall K hK => ?_
                have ga5 : guardOf all 5 = some 72 := hall 5
                clear hall
                refine vcDL_split 1 (by simp) fun K' hK' => ?_
                simp (maxSteps := 1000000) (disch := first | omega | assumption) [og_at, og_put, og_at0, og_put0, ga5]
                repeat' refine And.intro ?_ ?_
                all_goals first | omega | exact rfl | skip
                refine hK' _ ?_
                clear hK' K'
                simp only [List.drop_succ_cons, List.drop_zero]
                refine vcDL_step fun K' hK' => ?_
                simp (maxSteps := 1000000) (disch := first | omega | assumption) [og_at, og_put, og_at0, og_put0, ga5]
                refine ⟨_, Ct.of_le (wlist_fn (σ.length + 2) (σ.length + 1) σ.length s x.l _ (by simp [og_at, og_put, og_at0, og_put0]) (by simp [og_at, og_put, og_at0, og_put0]) hok (by omega) (by simp) hi.hp hi.so) (by first | exact leArgs_of rfl | (refine leArgs_of ?_; simp; done) | (refine leArgs_of ?_; simp; rfl) | (simp [leArgs, leArg]; done)) rfl, ?_⟩
                refine hK' _ ?_
                clear hK' K'
                refine vcDL_split 2 (by simp) fun K' hK' => ?_
                simp (maxSteps := 1000000) (disch := first | omega | assumption) [og_at, og_put, og_at0, og_put0, ga5]
                repeat' refine And.intro ?_ ?_
                all_goals first | omega | exact rfl | skip
                refine hK' _ ?_
                clear hK' K'
                simp only [List.drop_succ_cons, List.drop_zero]
                refine vcDL_step fun K' hK' => ?_
                simp (maxSteps := 1000000) (disch := first | omega | assumption) [og_at, og_put, og_at0, og_put0, ga5]
                refine ⟨_, fun σ => Ct.of_le (same_fn x.l x.l _ (by omega) (by omega)) (by first | exact leArgs_of rfl | (refine leArgs_of ?_; simp; done) | (refine leArgs_of ?_; simp; rfl) | (simp [leArgs, leArg]; done)) rfl, ?_⟩
                refine hK' _ ?_
                clear hK' K'
                refine vcDL_split 1 (by simp) fun K' hK' => ?_
                simp (maxSteps := 1000000) (disch := first | omega | assumption) [og_at, og_put, og_at0, og_put0, ga5]
                repeat' refine And.intro ?_ ?_
                all_goals first | omega | exact rfl | skip
                refine hK' _ ?_
                clear hK' K'
                simp only [List.drop_succ_cons, List.drop_zero]
                refine vcDL_bool 72 (by simp <;> rfl) ?_
                refine ⟨fun g10 => ?_, fun g10 => ?_⟩
                · try simp at g10
                  refine vcDL_split 1 (by simp) fun K' hK' => ?_
                  simp (maxSteps := 1000000) (disch := first | omega | assumption) [og_at, og_put, og_at0, og_put0, ga5]
                  repeat' refine And.intro ?_ ?_
                  all_goals first | omega | exact rfl | skip
                  refine hK' _ ?_
                  clear hK' K'
                  simp only [List.drop_succ_cons, List.drop_zero]
                  refine vcDL_gt ga5 (by simp <;> rfl) rfl fun K' hK' => ?_
                  simp (maxSteps := 1000000) (disch := first | omega | assumption) [og_at, og_put, og_at0, og_put0, ga5]
                  refine ⟨_, Ct.of_le (wlist_fn (σ.length + 5) (σ.length + 4) (σ.length + 3) s2 x2.l _ (by simp [og_at, og_put, og_at0, og_put0]) (by simp [og_at, og_put, og_at0, og_put0]) hok2 (by omega) (by simp) hi2.hp hi2.so) (by first | exact leArgs_of rfl | (refine leArgs_of ?_; simp; done) | (refine leArgs_of ?_; simp; rfl) | (simp [leArgs, leArg]; done)) rfl, ?_⟩
                  refine hK' _ ?_
                  clear hK' K'
                  refine vcDL_split 2 (by simp) fun K' hK' => ?_
                  simp (maxSteps := 1000000) (disch := first | omega | assumption) [og_at, og_put, og_at0, og_put0, ga5]
                  repeat' refine And.intro ?_ ?_
                  all_goals first | omega | exact rfl | skip
                  refine hK' _ ?_
                  clear hK' K'
                  simp only [List.drop_succ_cons, List.drop_zero]
                  refine vcDL_gt ga5 (by simp <;> rfl) rfl fun K' hK' => ?_
                  simp (maxSteps := 1000000) (disch := first | omega | assumption) [og_at, og_put, og_at0, og_put0, ga5]
                  refine ⟨_, fun σ => Ct.of_le (same_fn x2.l x2.l _ (by omega) (by omega)) (by first | exact leArgs_of rfl | (refine leArgs_of ?_; simp; done) | (refine leArgs_of ?_; simp; rfl) | (simp [leArgs, leArg]; done)) rfl, ?_⟩
                  refine hK' _ ?_
                  clear hK' K'
                  simp (maxSteps := 1000000) (disch := first | omega | assumption) [og_at, og_put, og_at0, og_put0, ga5]
                  repeat' refine And.intro ?_ ?_
                  all_goals first | omega | exact rfl | skip
                  refine hK _ ?_
                  clear hK K
                  clear ga5
                  clear all
                  refine q_then_n ?_
                  refine awp_ret ?_
                  simp [endQ]
                · simp at g10
            · try simp at g7
              simp (maxSteps := 1000000) (disch := first | omega | assumption) [og_at, og_put, og_at0, og_put0, ga4]
              repeat' refine And.intro ?_ ?_
              all_goals first | omega | exact rfl | skip
              refine hK _ ?_
              clear hK K
              clear ga4
              clear all
              refine q_then_n ?_
              refine awp_cond (t := false) (by simp) (fun h => by cases h) (fun _ => ?_)
              refine awp_exit ?_
              refine q_then_e ?_
              refine q_loop_e ?_
              refine q_block_e ?_
              refine q_then_n ?_
              refine awp_seq ?_
              refine awp_keep [5, 6, 9, 10] (by simp only [keepL_nil, keepL_cons, envOf_sel, envOf_nil, sel_t, sel_f, Nat.reduceBEq] <;> rfl) ?_
              refine awp_drawA (c := ⟨[], [], [], [], []⟩) [.op ⟨false, false, false, false⟩, .read, .op ⟨false, false, false, false⟩, .op ⟨false, false, false, false⟩, .pure, .op ⟨false, false, false, false⟩, .op ⟨false, false, false, false⟩, .read, .op ⟨false, false, false, false⟩, .op ⟨true, false, false, false⟩, .pure, .op ⟨false, false, false, false⟩, .op ⟨false, false, false, false⟩] (by kernel_rfl) (by kernel_rfl) (by simp only [lite_cons, lite_nil] <;> rfl) fun all hall K hK => ?_
              have ga5 : guardOf all 5 = some 72 := hall 5
              clear hall
              refine vcDL_split 1 (by simp) fun K' hK' => ?_
              simp (maxSteps := 1000000) (disch := first | omega | assumption) [og_at, og_put, og_at0, og_put0, ga5]
              repeat' refine And.intro ?_ ?_
              all_goals first | omega | exact rfl | skip
              refine hK' _ ?_
              clear hK' K'
              simp only [List.drop_succ_cons, List.drop_zero]
              refine vcDL_step fun K' hK' => ?_
              simp (maxSteps := 1000000) (disch := first | omega | assumption) [og_at, og_put, og_at0, og_put0, ga5]
              refine ⟨_, Ct.of_le (wlist_fn (σ.length + 2) (σ.length + 1) σ.length s x.l _ (by simp [og_at, og_put, og_at0, og_put0]) (by simp [og_at, og_put, og_at0, og_put0]) hok (by omega) (by simp) hi.hp hi.so) (by first | exact leArgs_of rfl | (refine leArgs_of ?_; simp; done) | (refine leArgs_of ?_; simp; rfl) | (simp [leArgs, leArg]; done)) rfl, ?_⟩
              refine hK' _ ?_
              clear hK' K'
              refine vcDL_split 2 (by simp) fun K' hK' => ?_
              simp (maxSteps := 1000000) (disch := first | omega | assumption) [og_at, og_put, og_at0, og_put0, ga5]
              repeat' refine And.intro ?_ ?_
              all_goals first | omega | exact rfl | skip
              refine hK' _ ?_
              clear hK' K'
              simp only [List.drop_succ_cons, List.drop_zero]
              refine vcDL_step fun K' hK' => ?_
              simp (maxSteps := 1000000) (disch := first | omega | assumption) [og_at, og_put, og_at0, og_put0, ga5]
              refine ⟨_, fun σ => Ct.of_le (same_fn x.l x.l _ (by omega) (by omega)) (by first | exact leArgs_of rfl | (refine leArgs_of ?_; simp; done) | (refine leArgs_of ?_; simp; rfl) | (simp [leArgs, leArg]; done)) rfl, ?_⟩
              refine hK' _ ?_
              clear hK' K'
              refine vcDL_split 1 (by simp) fun K' hK' => ?_
              simp (maxSteps := 1000000) (disch := first | omega | assumption) [og_at, og_put, og_at0, og_put0, ga5]
              repeat' refine And.intro ?_ ?_
              all_goals first | omega | exact rfl | skip
              refine hK' _ ?_
              clear hK' K'
              simp only [List.drop_succ_cons, List.drop_zero]
              refine vcDL_bool 72 (by simp <;> rfl) ?_
              refine ⟨fun g11 => ?_, fun g11 => ?_⟩
              · try simp at g11
                refine vcDL_split 1 (by simp) fun K' hK' => ?_
                simp (maxSteps := 1000000) (disch := first | omega | assumption) [og_at, og_put, og_at0, og_put0, ga5]
                repeat' refine And.intro ?_ ?_
                all_goals first | omega | exact rfl | skip
                refine hK' _ ?_
                clear hK' K'
                simp only [List.drop_succ_cons, List.drop_zero]
                refine vcDL_gt ga5 (by simp <;> rfl) rfl fun K' hK' => ?_
                simp (maxSteps := 1000000) (disch := first | omega | assumption) [og_at, og_put, og_at0, og_put0, ga5]
                refine ⟨_, Ct.of_le (wlist_fn (σ.length + 5) (σ.length + 4) (σ.length + 3) s2 x2.l _ (by simp [og_at, og_put, og_at0, og_put0]) (by simp [og_at, og_put, og_at0, og_put0]) hok2 (by omega) (by simp) hi2.hp hi2.so) (by first | exact leArgs_of rfl | (refine leArgs_of ?_; simp; done) | (refine leArgs_of ?_; simp; rfl) | (simp [leArgs, leArg]; done)) rfl, ?_⟩
                refine hK' _ ?_
                clear hK' K'
                refine vcDL_split 2 (by simp) fun K' hK' => ?_
                simp (maxSteps := 1000000) (disch := first | omega | assumption) [og_at, og_put, og_at0, og_put0, ga5]
                repeat' refine And.intro ?_ ?_
                all_goals first | omega | exact rfl | skip
                refine hK' _ ?_
                clear hK' K'
                simp only [List.drop_succ_cons, List.drop_zero]
                refine vcDL_gt ga5 (by simp <;> rfl) rfl fun K' hK' => ?_
                simp (maxSteps := 1000000) (disch := first | omega | assumption) [og_at, og_put, og_at0, og_put0, ga5]
                refine ⟨_, fun σ => Ct.of_le (same_fn x2.l x2.l _ (by omega) (by omega)) (by first | exact leArgs_of rfl | (refine leArgs_of ?_; simp; done) | (refine leArgs_of ?_; simp; rfl) | (simp [leArgs, leArg]; done)) rfl, ?_⟩
                refine hK' _ ?_
                clear hK' K'
                simp (maxSteps := 1000000) (disch := first | omega | assumption) [og_at, og_put, og_at0, og_put0, ga5]
                repeat' refine And.intro ?_ ?_
                all_goals first | omega | exact rfl | skip
                refine hK _ ?_
                clear hK K
                clear ga5
                clear all
                refine q_then_n ?_
                refine awp_ret ?_
                simp [endQ]
              · simp at g11
      · try simp at g3
        simp (maxSteps := 1000000) (disch := first | omega | assumption) [og_at, og_put, og_at0, og_put0, ga4]
        repeat' refine And.intro ?_ ?_
        all_goals first | omega | exact rfl | skip
        refine hK _ ?_
        clear hK K
        clear ga4
        clear all
        refine q_then_n ?_
        refine awp_cond (t := false) (by simp) (fun h => by cases h) (fun _ => ?_)
        refine awp_exit ?_
        refine q_then_e ?_
        refine q_loop_e ?_
        refine q_block_e ?_
        refine q_then_n ?_
        refine awp_seq ?_
        have hi30 : PI (30 + (0 : Nat)) (wcl s) x := (hi.mono (show (k : Int) ≤ 30 + (0 : Nat) by omega)).clone
        refine awp_freezeBox 6 0 (by simp <;> rfl) (by simp <;> rfl) (by simp) ?_
        simp only [List.map_cons, List.map_nil, s1_v, s1_sl]
        refine awp_keep [1, 5, 6, 7] (by simp only [keepL_nil, keepL_cons, envOf_sel, envOf_nil, sel_t, sel_f, Nat.reduceBEq] <;> rfl) ?_
        refine awp_drawA (c := ⟨[], [], [], [], []⟩) [.op ⟨false, false, false, false⟩, .det, .op ⟨false, false, false, false⟩, .op ⟨true, true, false, false⟩, .op ⟨false, false, false, false⟩, .op ⟨true, true, false, false⟩] (by kernel_rfl) (by kernel_rfl) (by simp only [lite_cons, lite_nil] <;> rfl) fun all hall K hK => ?_
        clear hall
        refine vcDL_split 1 (by simp) fun K' hK' => ?_
        simp (maxSteps := 1000000) (disch := first | omega | assumption) [og_at, og_put, og_at0, og_put0]
        repeat' refine And.intro ?_ ?_
        all_goals first | omega | exact rfl | skip
        refine hK' _ ?_
        clear hK' K'
        simp only [List.drop_succ_cons, List.drop_zero]
        refine vcDL_step fun K' hK' => ?_
        simp (maxSteps := 1000000) (disch := first | omega | assumption) [og_at, og_put, og_at0, og_put0]
        refine ⟨_, _, Ct.of_le (wclone_fn (σ.length + 2) (σ.length + 1) σ.length s _ (by simp [og_at, og_put, og_at0, og_put0]) (by simp [og_at, og_put, og_at0, og_put0]) hok) (by first | exact leArgs_of rfl | (refine leArgs_of ?_; simp; done) | (refine leArgs_of ?_; simp; rfl) | (simp [leArgs, leArg]; done)) rfl, ?_⟩
        refine hK' _ ?_
        clear hK' K'
        simp (maxSteps := 1000000) (disch := first | omega | assumption) [og_at, og_put, og_at0, og_put0]
        repeat' refine And.intro ?_ ?_
        all_goals first | omega | exact rfl | skip
        refine hK _ ?_
        clear hK K
        clear all
        refine q_then_n ?_
        refine awp_seq ?_
        refine awp_seq ?_
        refine awp_regionA (c := ⟨[], [], [], [], []⟩) (by simp only [lite_cons, lite_nil] <;> rfl) fun all hall K hK => ?_
        clear hall
        simp (maxSteps := 1000000) (disch := first | omega | assumption) [og_at, og_put, og_at0, og_put0]
        repeat' refine And.intro ?_ ?_
        all_goals first | omega | exact rfl | skip
        refine hK _ ?_
        clear hK K
        clear all
        refine q_then_n ?_
        refine awp_ifB (by simp <;> rfl) ?_
        refine ⟨fun c12 => ?_, fun c12 => ?_⟩
        · simp at c12
        · try simp at c12
          refine awp_skip ?_
          refine q_then_n ?_
          refine awp_seq ?_
          refine awp_seq ?_
          refine awp_regionA (c := ⟨[], [], [], [], []⟩) (by simp only [lite_cons, lite_nil] <;> rfl) fun all hall K hK => ?_
          clear hall
          simp (maxSteps := 1000000) (disch := first | omega | assumption) [og_at, og_put, og_at0, og_put0]
          repeat' refine And.intro ?_ ?_
          all_goals first | omega | exact rfl | skip
          refine hK _ ?_
          clear hK K
          clear all
          refine q_then_n ?_
          refine awp_block ?_
          refine awp_keep [1, 5, 6, 7, 9, 10, 11] (by simp only [keepL_nil, keepL_cons, envOf_sel, envOf_nil, sel_t, sel_f, Nat.reduceBEq] <;> rfl) ?_
          refine awp_loopM (fun (s : PSt) => [(11, .d (.int s.k)), (7, .d (.any))]) (fun (s : PSt) => [(1, [D.int s.x.most, D.int s.x.last, .sl false (s.x.l.map d_Tm)])]) (fun (s : PSt) => [(σ.length + 4, dhp (σ.length + 3) s.s.h), (σ.length + 5, dwh (σ.length + 4) s.s)]) [4, 7, 11, 45, 46, 47, 48, 49, 50, 51, 52, 53, 54, 55, 56, 57, 58, 59, 60, 61, 62, 63, 64, 65, 66] (fun (s : PSt) => s.k ≤ more.length ∧ s.k ≤ 30 ∧ PI (30 + s.k) s.s s.x) (fun (s : PSt) => more.length - s.k) (⟨0, wcl s, x⟩) (by simp <;> rfl) ?_ (by simp) (by simp [og_at, og_put, og_at0, og_put0]) ?_ ?_
          · simp
          · exact ⟨by simp, by simp, hi30⟩
          rintro ⟨k2, s2, x2⟩ ⟨hk2, hk280, hi2⟩
          simp only [List.cons_append, List.nil_append, setL_nil, setL_cons, List.set_cons_zero, List.set_cons_succ]
          dsimp only at hk2 hk280 hi2
          have hok2 := hi2.i.ok
          have hxl2 := hi2.xl
          have hxn2 := hi2.xn (by omega)
          have hlk2 := hi2.lk
          refine awp_seq ?_
          refine awp_seq ?_
          refine awp_regionA (c := ⟨[], [], [], [], []⟩) (by simp only [lite_cons, lite_nil] <;> rfl) fun all hall K hK => ?_
          have ga4 : guardOf all 4 = some 49 := hall 4
          clear hall
          refine vcL_split 5 fun K' hK' => ?_
          simp (maxSteps := 1000000) (disch := first | omega | assumption) [og_at, og_put, og_at0, og_put0, ga4]
          repeat' refine And.intro ?_ ?_
          all_goals first | omega | exact rfl | skip
          refine hK' _ ?_
          clear hK' K'
          simp only [List.drop_succ_cons, List.drop_zero]
          refine vcL_bool 49 (by simp <;> rfl) ?_
          refine ⟨fun g13 => ?_, fun g13 => ?_⟩
          · try simp at g13
            simp (maxSteps := 1000000) (disch := first | omega | assumption) [og_at, og_put, og_at0, og_put0, ga4]
            repeat' refine And.intro ?_ ?_
            all_goals first | omega | exact rfl | skip
            refine hK _ ?_
            clear hK K
            clear ga4
            clear all
            refine q_then_n ?_
            refine awp_ifB (by simp <;> rfl) ?_
            refine ⟨fun c14 => ?_, fun c14 => ?_⟩
            · try simp at c14
              refine awp_skip ?_
              refine q_then_n ?_
              refine awp_seq ?_
              refine awp_block ?_
              refine awp_seq ?_
              refine awp_keep [1, 5, 6, 7, 9, 10, 11] (by simp only [keepL_nil, keepL_cons, envOf_sel, envOf_nil, sel_t, sel_f, Nat.reduceBEq] <;> rfl) ?_
              refine awp_drawA (c := ⟨[], [], [], [], []⟩) [.op ⟨false, false, false, false⟩, .op ⟨true, false, false, false⟩, .op ⟨false, false, false, false⟩, .op ⟨false, false, false, false⟩, .op ⟨false, false, false, false⟩, .op ⟨false, false, false, false⟩, .det, .op ⟨false, false, false, false⟩, .op ⟨false, false, false, false⟩, .op ⟨false, false, false, false⟩, .op ⟨true, true, false, false⟩, .op ⟨false, false, false, false⟩] (by kernel_rfl) (by kernel_rfl) (by simp only [lite_cons, lite_nil] <;> rfl) fun all hall K hK => ?_
              clear hall
              refine vcDL_split 6 (by simp) fun K' hK' => ?_
              simp (maxSteps := 1000000) (disch := first | omega | assumption) [og_at, og_put, og_at0, og_put0]
              repeat' refine And.intro ?_ ?_
              all_goals first | omega | exact rfl | skip
              refine hK' _ ?_
              clear hK' K'
              simp only [List.drop_succ_cons, List.drop_zero]
              refine vcDL_step fun K' hK' => ?_
              simp (maxSteps := 1000000) (disch := first | omega | assumption) [og_at, og_put, og_at0, og_put0]
              refine ⟨_, _, Ct.of_le (do_fn (σ.length + 5) (σ.length + 4) (σ.length + 3) s2 x2 more[k2] _ (by simp [og_at, og_put, og_at0, og_put0]) (by simp [og_at, og_put, og_at0, og_put0]) hok2 (by omega) (by simp) (by omega) hxl2 hxn2) (by first | exact leArgs_of rfl | (refine leArgs_of ?_; simp; done) | (refine leArgs_of ?_; simp; rfl) | (simp [leArgs, leArg]; done)) rfl, ?_⟩
              refine hK' _ ?_
              clear hK' K'
              simp (maxSteps := 1000000) (disch := first | omega | assumption) [og_at, og_put, og_at0, og_put0]
              repeat' refine And.intro ?_ ?_
              all_goals first | omega | exact rfl | skip
              refine hK _ ?_
              clear hK K
              clear all
              refine q_then_n ?_
              refine awp_seq ?_
              refine awp_keep [1, 5, 6, 7, 9, 10, 11] (by simp only [keepL_nil, keepL_cons, envOf_sel, envOf_nil, sel_t, sel_f, Nat.reduceBEq] <;> rfl) ?_
              refine awp_regionA (c := ⟨[], [], [], [], []⟩) (by simp only [lite_cons, lite_nil] <;> rfl) fun all hall K hK => ?_
              clear hall
              simp (maxSteps := 1000000) (disch := first | omega | assumption) [og_at, og_put, og_at0, og_put0]
              repeat' refine And.intro ?_ ?_
              all_goals first | omega | exact rfl | skip
              refine hK _ ?_
              clear hK K
              clear all
              refine q_then_n ?_
              refine awp_ifB (by simp <;> rfl) ?_
              refine ⟨fun c15 => ?_, fun c15 => ?_⟩
              · try simp at c15
                exact absurd (hi2.step more[k2]).2 c15
              · try simp at c15
                refine awp_skip ?_
                refine q_block_n ?_
                refine q_then_n ?_
                refine awp_regionA (c := ⟨[], [], [], [], []⟩) (by simp only [lite_cons, lite_nil] <;> rfl) fun all hall K hK => ?_
                clear hall
                simp (maxSteps := 1000000) (disch := first | omega | assumption) [og_at, og_put, og_at0, og_put0]
                repeat' refine And.intro ?_ ?_
                all_goals first | omega | exact rfl | skip
                refine hK _ ?_
                clear hK K
                clear all
                refine q_round (⟨k2 + 1, wdo s2 more[k2], rdo x2 more[k2]⟩) ?_ ?_ (weak_mkA rfl ?_ (by simp) (by simp))
                · exact ⟨by simp at *; omega, by simp at *; omega, by have h9 := (hi2.step more[k2]).1; rw [Int.add_assoc] at h9; simpa using h9⟩
                · try dsimp only
                  omega
                · simp (maxSteps := 1000000) (disch := first | omega | assumption) [og_at, og_put, og_at0, og_put0]
            · try simp at c14
              refine awp_exit ?_
              refine q_then_e ?_
              refine q_loop_e ?_
              refine q_block_e ?_
              refine q_then_n ?_
              refine awp_seq ?_
              refine awp_keep [5, 6, 9, 10] (by simp only [keepL_nil, keepL_cons, envOf_sel, envOf_nil, sel_t, sel_f, Nat.reduceBEq] <;> rfl) ?_
              refine awp_drawA (c := ⟨[], [], [], [], []⟩) [.op ⟨false, false, false, false⟩, .read, .op ⟨false, false, false, false⟩, .op ⟨false, false, false, false⟩, .pure, .op ⟨false, false, false, false⟩, .op ⟨false, false, false, false⟩, .read, .op ⟨false, false, false, false⟩, .op ⟨true, false, false, false⟩, .pure, .op ⟨false, false, false, false⟩, .op ⟨false, false, false, false⟩] (by kernel_rfl) (by kernel_rfl) (by simp only [lite_cons, lite_nil] <;> rfl) fun all hall K hK => ?_
              have ga5 : guardOf all 5 = some 72 := hall 5
              clear hall
              refine vcDL_split 1 (by simp) fun K' hK' => ?_
              simp (maxSteps := 1000000) (disch := first | omega | assumption) [og_at, og_put, og_at0, og_put0, ga5]
              repeat' refine And.intro ?_ ?_
              all_goals first | omega | exact rfl | skip
              refine hK' _ ?_
              clear hK' K'
              simp only [List.drop_succ_cons, List.drop_zero]
              refine vcDL_step fun K' hK' => ?_
              simp (maxSteps := 1000000) (disch := first | omega | assumption) [og_at, og_put, og_at0, og_put0, ga5]
              refine ⟨_, Ct.of_le (wlist_fn (σ.length + 2) (σ.length + 1) σ.length s x.l _ (by simp [og_at, og_put, og_at0, og_put0]) (by simp [og_at, og_put, og_at0, og_put0]) hok (by omega) (by simp) hi.hp hi.so) (by first | exact leArgs_of rfl | (refine leArgs_of ?_; simp; done) | (refine leArgs_of ?_; simp; rfl) | (simp [leArgs, leArg]; done)) rfl, ?_⟩
              refine hK' _ ?_
              clear hK' K'
              refine vcDL_split 2 (by simp) fun K' hK' => ?_
              simp (maxSteps := 1000000) (disch := first | omega | assumption) [og_at, og_put, og_at0, og_put0, ga5]
              repeat' refine And.intro ?_ ?_
              all_goals first | omega | exact rfl | skip
              refine hK' _ ?_
              clear hK' K'
              simp only [List.drop_succ_cons, List.drop_zero]
              refine vcDL_step fun K' hK' => ?_
              simp (maxSteps := 1000000) (disch := first | omega | assumption) [og_at, og_put, og_at0, og_put0, ga5]
              refine ⟨_, fun σ => Ct.of_le (same_fn x.l x.l _ (by omega) (by omega)) (by first | exact leArgs_of rfl | (refine leArgs_of ?_; simp; done) | (refine leArgs_of ?_; simp; rfl) | (simp [leArgs, leArg]; done)) rfl, ?_⟩
              refine hK' _ ?_
              clear hK' K'
              refine vcDL_split 1 (by simp) fun K' hK' => ?_
              simp (maxSteps := 1000000) (disch := first | omega | assumption) [og_at, og_put, og_at0, og_put0, ga5]
              repeat' refine And.intro ?_ ?_
              all_goals first | omega | exact rfl | skip
              refine hK' _ ?_
              clear hK' K'
              simp only [List.drop_succ_cons, List.drop_zero]
              refine vcDL_bool 72 (by simp <;> rfl) ?_
              refine ⟨fun g16 => ?_, fun g16 => ?_⟩
              · try simp at g16
                refine vcDL_split 1 (by simp) fun K' hK' => ?_
                simp (maxSteps := 1000000) (disch := first | omega | assumption) [og_at, og_put, og_at0, og_put0, ga5]
                repeat' refine And.intro ?_ ?_
                all_goals first | omega | exact rfl | skip
                refine hK' _ ?_
                clear hK' K'
                simp only [List.drop_succ_cons, List.drop_zero]
                refine vcDL_gt ga5 (by simp <;> rfl) rfl fun K' hK' => ?_
                simp (maxSteps := 1000000) (disch := first | omega | assumption) [og_at, og_put, og_at0, og_put0, ga5]
                refine ⟨_, Ct.of_le (wlist_fn (σ.length + 5) (σ.length + 4) (σ.length + 3) s2 x2.l _ (by simp [og_at, og_put, og_at0, og_put0]) (by simp [og_at, og_put, og_at0, og_put0]) hok2 (by omega) (by simp) hi2.hp hi2.so) (by first | exact leArgs_of rfl | (refine leArgs_of ?_; simp; done) | (refine leArgs_of ?_; simp; rfl) | (simp [leArgs, leArg]; done)) rfl, ?_⟩
                refine hK' _ ?_
                clear hK' K'
                refine vcDL_split 2 (by simp) fun K' hK' => ?_
                simp (maxSteps := 1000000) (disch := first | omega | assumption) [og_at, og_put, og_at0, og_put0, ga5]
                repeat' refine And.intro ?_ ?_
                all_goals first | omega | exact rfl | skip
                refine hK' _ ?_
                clear hK' K'
                simp only [List.drop_succ_cons, List.drop_zero]
                refine vcDL_gt ga5 (by simp <;> rfl) rfl fun K' hK' => ?_
                simp (maxSteps := 1000000) (disch := first | omega | assumption) [og_at, og_put, og_at0, og_put0, ga5]
                refine ⟨_, fun σ => Ct.of_le (same_fn x2.l x2.l _ (by omega) (by omega)) (by first | exact leArgs_of rfl | (refine leArgs_of ?_; simp; done) | (refine leArgs_of ?_; simp; rfl) | (simp [leArgs, leArg]; done)) rfl, ?_⟩
                refine hK' _ ?_
                clear hK' K'
                simp (maxSteps := 1000000) (disch := first | omega | assumption) [og_at, og_put, og_at0, og_put0, ga5]
                repeat' refine And.intro ?_ ?_
                all_goals first | omega | exact rfl | skip
                refine hK _ ?_
                clear hK K
                clear ga5
                clear all
                refine q_then_n ?_
                refine awp_ret ?_
                simp [endQ]
              · simp at g16
          · try simp at g13
            simp (maxSteps := 1000000) (disch := first | omega | assumption) [og_at, og_put, og_at0, og_put0, ga4]
            repeat' refine And.intro ?_ ?_
            all_goals first | omega | exact rfl | skip
            refine hK _ ?_
            clear hK K
            clear ga4
            clear all
            refine q_then_n ?_
            refine awp_cond (t := false) (by simp) (fun h => by cases h) (fun _ => ?_)
            refine awp_exit ?_
            refine q_then_e ?_
            refine q_loop_e ?_
            refine q_block_e ?_
            refine q_then_n ?_
            refine awp_seq ?_
            refine awp_keep [5, 6, 9, 10] (by simp only [keepL_nil, keepL_cons, envOf_sel, envOf_nil, sel_t, sel_f, Nat.reduceBEq] <;> rfl) ?_
            refine awp_drawA (c := ⟨[], [], [], [], []⟩) [.op ⟨false, false, false, false⟩, .read, .op ⟨false, false, false, false⟩, .op ⟨false, false, false, false⟩, .pure, .op ⟨false, false, false, false⟩, .op ⟨false, false, false, false⟩, .read, .op ⟨false, false, false, false⟩, .op ⟨true, false, false, false⟩, .pure, .op ⟨false, false, false, false⟩, .op ⟨false, false, false, false⟩] (by kernel_rfl) (by kernel_rfl) (by simp only [lite_cons, lite_nil] <;> rfl) fun all hall K hK => ?_
            have ga5 : guardOf all 5 = some 72 := hall 5
            clear hall
            refine vcDL_split 1 (by simp) fun K' hK' => ?_
            simp (maxSteps := 1000000) (disch := first | omega | assumption) [og_at, og_put, og_at0, og_put0, ga5]
            repeat' refine And.intro ?_ ?_
            all_goals first | omega | exact rfl | skip
            refine hK' _ ?_
            clear hK' K'
            simp only [List.drop_succ_cons, List.drop_zero]
            refine vcDL_step fun K' hK' => ?_
            simp (maxSteps := 1000000) (disch := first | omega | assumption) [og_at, og_put, og_at0, og_put0, ga5]
            refine ⟨_, Ct.of_le (wlist_fn (σ.length + 2) (σ.length + 1) σ.length s x.l _ (by simp [og_at, og_put, og_at0, og_put0]) (by simp [og_at, og_put, og_at0, og_put0]) hok (by omega) (by simp) hi.hp hi.so) (by first | exact leArgs_of rfl | (refine leArgs_of ?_; simp; done) | (refine leArgs_of ?_; simp; rfl) | (simp [leArgs, leArg]; done)) rfl, ?_⟩
            refine hK' _ ?_
            clear hK' K'
            refine vcDL_split 2 (by simp) fun K' hK' => ?_
            simp (maxSteps := 1000000) (disch := first | omega | assumption) [og_at, og_put, og_at0, og_put0, ga5]
            repeat' refine And.intro ?_ ?_
            all_goals first | omega | exact rfl | skip
            refine hK' _ ?_
            clear hK' K'
            simp only [List.drop_succ_cons, List.drop_zero]
            refine vcDL_step fun K' hK' => ?_
            simp (maxSteps := 1000000) (disch := first | omega | assumption) [og_at, og_put, og_at0, og_put0, ga5]
            refine ⟨_, fun σ => Ct.of_le (same_fn x.l x.l _ (by omega) (by omega)) (by first | exact leArgs_of rfl | (refine leArgs_of ?_; simp; done) | (refine leArgs_of ?_; simp; rfl) | (simp [leArgs, leArg]; done)) rfl, ?_⟩
            refine hK' _ ?_
            clear hK' K'
            refine vcDL_split 1 (by simp) fun K' hK' => ?_
            simp (maxSteps := 1000000) (disch := first | omega | assumption) [og_at, og_put, og_at0, og_put0, ga5]
            repeat' refine And.intro ?_ ?_
            all_goals first | omega | exact rfl | skip
            refine hK' _ ?_
            clear hK' K'
            simp only [List.drop_succ_cons, List.drop_zero]
            refine vcDL_bool 72 (by simp <;> rfl) ?_
            refine ⟨fun g17 => ?_, fun g17 => ?_⟩
            · try simp at g17
              refine vcDL_split 1 (by simp) fun K' hK' => ?_
              simp (maxSteps := 1000000) (disch := first | omega | assumption) [og_at, og_put, og_at0, og_put0, ga5]
              repeat' refine And.intro ?_ ?_
              all_goals first | omega | exact rfl | skip
              refine hK' _ ?_
              clear hK' K'
              simp only [List.drop_succ_cons, List.drop_zero]
              refine vcDL_gt ga5 (by simp <;> rfl) rfl fun K' hK' => ?_
              simp (maxSteps := 1000000) (disch := first | omega | assumption) [og_at, og_put, og_at0, og_put0, ga5]
              refine ⟨_, Ct.of_le (wlist_fn (σ.length + 5) (σ.length + 4) (σ.length + 3) s2 x2.l _ (by simp [og_at, og_put, og_at0, og_put0]) (by simp [og_at, og_put, og_at0, og_put0]) hok2 (by omega) (by simp) hi2.hp hi2.so) (by first | exact leArgs_of rfl | (refine leArgs_of ?_; simp; done) | (refine leArgs_of ?_; simp; rfl) | (simp [leArgs, leArg]; done)) rfl, ?_⟩
              refine hK' _ ?_
              clear hK' K'
              refine vcDL_split 2 (by simp) fun K' hK' => ?_
              simp (maxSteps := 1000000) (disch := first | omega | assumption) [og_at, og_put, og_at0, og_put0, ga5]
              repeat' refine And.intro ?_ ?_
              all_goals first | omega | exact rfl | skip
              refine hK' _ ?_
              clear hK' K'
              simp only [List.drop_succ_cons, List.drop_zero]
              refine vcDL_gt ga5 (by simp <;> rfl) rfl fun K' hK' => ?_
              simp (maxSteps := 1000000) (disch := first | omega | assumption) [og_at, og_put, og_at0, og_put0, ga5]
              refine ⟨_, fun σ => Ct.of_le (same_fn x2.l x2.l _ (by omega) (by omega)) (by first | exact leArgs_of rfl | (refine leArgs_of ?_; simp; done) | (refine leArgs_of ?_; simp; rfl) | (simp [leArgs, leArg]; done)) rfl, ?_⟩
              refine hK' _ ?_
              clear hK' K'
              simp (maxSteps := 1000000) (disch := first | omega | assumption) [og_at, og_put, og_at0, og_put0, ga5]
              repeat' refine And.intro ?_ ?_
              all_goals first | omega | exact rfl | skip
              refine hK _ ?_
              clear hK K
              clear ga5
              clear all
              refine q_then_n ?_
              refine awp_ret ?_
              simp [endQ]
            · simp at g17

end Go.Proofs.Ytnlokhfcgaikiaa
