/- Walks: contracts of functions. Written by a program of ours out of annotations. -/
import Derived.Test.YtnlokhfcgaikiaaWkPlay2
import Derived.Deep.RegionHeld3
namespace Go.Proofs.Ytnlokhfcgaikiaa
open Go Go.Vm
set_option maxRecDepth 20000
set_option linter.all false
set_option maxHeartbeats 8000000

-- slices.Clone[[]scrim/wheel.Timer,scrim/wheel.Timer]
theorem tmclone0_fn (l : List Tm) (σ : List (List D)) (hl : l.length ≤ 1000000) : Ct Try.prog 54 [.sl false (l.map d_Tm)] σ (fun r σ' => baseX 4 (l.map d_Tm) r ∧ σ' = σ) := by
  refine fn_start (rs := [.tmp 2]) Try.func54 rfl rfl Try.ntmps54 Try.results54 (by simp) ?_
  simp only [argEnv]
  refine awp_seq ?_
  refine awp_regionA (c := ⟨[2, 7], [], [], [], [7]⟩) (by simp only [lite_cons, lite_nil] <;> rfl) fun all hall K hK => ?_
  clear hall
  simp (maxSteps := 1000000) (disch := first | omega | assumption)
  repeat' refine And.intro ?_ ?_
  all_goals first | omega | exact rfl | skip
  refine hK _ ?_
  clear hK K
  clear all
  refine q_then_n ?_
  refine awp_seq ?_
  refine awp_seq ?_
  refine awp_regionA (c := ⟨[2, 7], [], [], [], [7]⟩) (by simp only [lite_cons, lite_nil] <;> rfl) fun all hall K hK => ?_
  clear hall
  refine vcL_split 1 fun K' hK' => ?_
  simp (maxSteps := 1000000) (disch := first | omega | assumption)
  repeat' refine And.intro ?_ ?_
  all_goals first | omega | exact rfl | skip
  refine hK' _ ?_
  clear hK' K'
  simp only [List.drop_succ_cons, List.drop_zero]
  refine vcL_step fun K' hK' => ?_
  simp (maxSteps := 1000000) (disch := first | omega | assumption)
  refine ⟨hK' _ ?_, fun e1 => hK' _ ?_⟩
  · clear hK' K'
    simp only [vcL_nil]
    refine hK _ ?_
    clear hK K
    clear all
    refine q_then_n ?_
    refine awp_cond (t := false) (by simp) (fun h => by cases h) (fun _ => ?_)
    refine awp_skip ?_
    refine q_then_n ?_
    refine awp_seq ?_
    refine awp_regionA (c := ⟨[2, 7], [], [], [], [7]⟩) (by simp only [lite_cons, lite_nil] <;> rfl) fun all hall K hK => ?_
    clear hall
    refine vcL_split 3 fun K' hK' => ?_
    simp (maxSteps := 1000000) (disch := first | omega | assumption)
    refine ⟨l.map d_Tm, ⟨rfl, tm_arr _, rfl⟩, ⟨by simp; omega, by simp; omega⟩, ?_⟩
    repeat' refine And.intro ?_ ?_
    all_goals first | omega | exact rfl | skip
    refine hK' _ ?_
    clear hK' K'
    simp only [List.drop_succ_cons, List.drop_zero]
    simp (maxSteps := 1000000) (disch := first | omega | assumption)
    repeat' refine And.intro ?_ ?_
    all_goals first | omega | exact rfl | skip
    refine hK _ ?_
    clear hK K
    clear all
    refine q_then_n ?_
    refine awp_ret ?_
    simp [endQ, baseX]
  · clear hK' K'
    simp only [vcL_nil]
    refine hK _ ?_
    clear hK K
    clear all
    refine q_then_n ?_
    refine awp_cond (t := true) (by simp) (fun _ => ?_) (fun h => by cases h)
    refine awp_seq ?_
    refine awp_regionA (c := ⟨[2, 7], [], [], [], [7]⟩) (by simp only [lite_cons, lite_nil] <;> rfl) fun all hall K hK => ?_
    clear hall
    simp (maxSteps := 1000000) (disch := first | omega | assumption)
    repeat' refine And.intro ?_ ?_
    all_goals first | omega | exact rfl | skip
    refine hK _ ?_
    clear hK K
    clear all
    refine q_then_n ?_
    refine awp_ret ?_
    refine q_then_r ?_
    simp [endQ, baseX, e1]

theorem tmclone_fn (l : List Tm) (σ : List (List D)) (hl : l.length ≤ 1000000) : Ct Try.prog 54 [.sl false (l.map d_Tm)] σ (fun r σ' => r = .xs 4 (l.map d_Tm) ∧ σ' = σ) := (tmclone0_fn l σ hl).toX fun _ _ h => h

/-- What slices.Clone makes of timers that lie somewhere: a new array, of which all cells are known to be cells. -/
def NewRow (V w' : World) (zs : List Tm) (x : Value) : Prop :=
  ∃ va vc, x = .slice va zs.length vc ∧ RowKit.Below V.heap.size V w' ∧ ((zs = [] ∧ vc = 0) ∨
    ∃ (b : Nat) (cur : Array Value) (E : TypeId), va = some ⟨b, 0, none⟩ ∧ V.heap.size ≤ b ∧ w'.heap[b]? = some (.cells cur E (0, 0)) ∧ cur.size = vc * 4 ∧ zs.length ≤ vc ∧ vc ≤ maxLen ∧ (∀ (o : Nat) (c : Value), cur[o]? = some c → c.oneCell' = true) ∧
      ∀ (i j : Nat) (z : Tm) (c : Value), zs[i]? = some z → (etm z)[j]? = some c → cur[i * 4 + j]? = some c)

theorem etm_cells (z : Tm) : (Value.agg (etm z).toArray).cells = (etm z).toArray := rfl

theorem clone_calls (sv : Value) (zs : List Tm) (hlen : zs.length ≤ 1000000) (V : World) (hI : TmsAt V.heap.size V sv zs) (hm : ∀ a n c, sv = .slice a n c → c ≤ maxLen ∧ n ≤ c ∧ (a = none → c = 0)) :
    Calls Try.prog 54 #[sv] V fun e w' => ∃ x, e = .returned x ∧ NewRow V w' zs x := by
  have fin : ∀ (g : Gh), g.bl = [] → g.bs = [] → (∀ b, g.X b = none) → Vm.Ok V g (St.ofArgs [.sl false (zs.map d_Tm)] []) (vals #[sv]) → Calls Try.prog 54 #[sv] V fun e w' => ∃ x, e = .returned x ∧ NewRow V w' zs x := by
    intro g hbl hbs hX hok
    refine ((tmclone_fn zs [] hlen).2 V g #[sv] rfl hbl hok).mono ?_
    rintro e w' ⟨r, σ', x, g', rfl, ⟨rfl, rfl⟩, _, hf, hk⟩
    refine ⟨x, rfl, ?_⟩
    have hbel : RowKit.Below V.heap.size V w' := ⟨hf.os, hf.tape, hf.output, hf.size, fun b hb => (hf.keep b hb (hX b)).1⟩
    have hs := (hk.slot 0).2
    change Vm.Own w' g'.M g'.bs g'.X (.slot 0) [] (.xs 4 (zs.map d_Tm)) x at hs
    cases hs with
    | flat _ _ _ h => simp [D.flat] at h
    | xs _ _ _ _ ho =>
      rcases ho with ⟨h0, a, rfl⟩ | ⟨b, n, cap, cur, E, rfl, hXb, hh, hk4, hcs, hn, hn2, hmx, hM, h1c, hsz, hr⟩
      · have h0' : zs = [] := by simpa using h0
        subst h0'
        exact ⟨a, 0, rfl, hbel, .inl ⟨rfl, rfl⟩⟩
      · have hn' : n = zs.length := by simpa using hn
        subst hn'
        refine ⟨_, cap, rfl, hbel, .inr ⟨b, cur, E, rfl, ?_, hh, hcs, hn2, hmx, h1c, ?_⟩⟩
        · rcases Nat.lt_or_ge b V.heap.size with h | h
          · have := (hf.keep b h (hX b)).2.1
            rw [this] at hXb; cases hXb
          · exact h
        · intro i j z c hz hc
          have e1 : (zs.map d_Tm)[i]? = some (d_Tm z) := by rw [List.getElem?_map, hz]; rfl
          have e2 : (d_Tm z).cells[j]? = some (.v c) := by
            match j, hc with
            | 0, h | 1, h | 2, h | 3, h => simp [etm] at h; subst h; rfl
            | j + 4, h => simp [etm] at h
          obtain ⟨y, y1, y2⟩ := hr i _ j _ e1 e2
          cases y2 with
          | v _ _ => exact y1
  rcases hI with ⟨a, cap, rfl, rfl⟩ | ⟨b, off, cap, rfl, hb, c0, c1, c2, c3⟩
  · obtain ⟨m1, m2, m3⟩ := hm a 0 cap rfl
    refine fin { M := fun _ _ => none, X := fun _ => none, bl := [], bs := [] } rfl rfl (fun _ => rfl) ⟨fun b o c h => by simp at h, fun b t h => by simp at h, fun t => ?_, rfl, fun n b cs h => by simp at h, rfl, fun n b cs h => by simp at h⟩
    match t with
    | 0 =>
      refine ⟨?_, .flat _ _ _ rfl⟩
      cases a with
      | none => obtain rfl := m3 rfl; exact .nil _
      | some a => exact .emp _ a cap m1
    | t + 1 => exact ⟨.any _, .flat _ _ _ rfl⟩
  · obtain ⟨m1, m2, m3⟩ := hm _ _ cap rfl
    by_cases hz0 : zs = []
    · subst hz0
      refine fin { M := fun _ _ => none, X := fun _ => none, bl := [], bs := [] } rfl rfl (fun _ => rfl) ⟨fun b o c h => by simp at h, fun b t h => by simp at h, fun t => ?_, rfl, fun n b cs h => by simp at h, rfl, fun n b cs h => by simp at h⟩
      match t with
      | 0 => exact ⟨.emp _ _ cap m1, .flat _ _ _ rfl⟩
      | t + 1 => exact ⟨.any _, .flat _ _ _ rfl⟩
    · have get : ∀ i j z c, zs[i]? = some z → (etm z)[j]? = some c → V.cell? ⟨b, off + (i * 4 + j), none⟩ = some c := by
        intro i j z c hz hc
        have hi : i < zs.length := (List.getElem?_eq_some_iff.1 hz).1
        have hu : utm zs i = z := by simp [utm, hz]
        match j, hc with
        | 0, h => simp [etm] at h; subst h; rw [← hu]; simpa using c0 i hi
        | 1, h => simp [etm] at h; subst h; rw [← hu, ← Nat.add_assoc]; exact c1 i hi
        | 2, h => simp [etm] at h; subst h; rw [← hu, ← Nat.add_assoc]; exact c2 i hi
        | 3, h => simp [etm] at h; subst h; rw [← hu, ← Nat.add_assoc]; exact c3 i hi
        | j + 4, h => simp [etm] at h
      refine fin { M := fun b' o => if b' = b ∧ off ≤ o ∧ o < off + zs.length * 4 then V.cell? ⟨b, o, none⟩ else none, X := fun _ => none, bl := [], bs := [] } rfl rfl (fun _ => rfl) ⟨fun b' o c h => ?_, fun b t h => by simp at h, fun t => ?_, rfl, fun n b cs h => by simp at h, rfl, fun n b cs h => by simp at h⟩
      · simp only at h
        split at h
        · rename_i h9; rw [h9.1]; exact h
        · cases h
      · match t with
        | 0 =>
          refine ⟨?_, .flat _ _ _ rfl⟩
          refine .sl false (zs.map d_Tm) b off zs.length cap 4 (zs.map fun z => .agg (etm z).toArray) (by simp) (by simp) (by omega) m2 m1 ?_ ?_ ?_
          · intro i d x hd hx
            rw [List.getElem?_map] at hd hx
            obtain ⟨z, hz, rfl⟩ := Option.map_eq_some_iff.1 hd
            rw [hz] at hx
            obtain rfl := Option.some.inj hx
            refine .agg _ _ rfl ?_ ?_
            · intro i d v h1 h2
              match i, h1, h2 with
              | 0, h1, h2 | 1, h1, h2 | 2, h1, h2 | 3, h1, h2 => simp [etm] at h1 h2; subst h1 h2; exact .v _ rfl
              | i + 4, h1, h2 => simp at h1
            · intro i v h
              match i, h with
              | 0, h | 1, h | 2, h | 3, h => simp [etm] at h; subst h; rfl
              | i + 4, h => simp [etm] at h
          · intro i d hd
            rw [List.getElem?_map] at hd
            obtain ⟨z, hz, rfl⟩ := Option.map_eq_some_iff.1 hd
            rfl
          · intro i x hx
            rw [List.getElem?_map] at hx
            obtain ⟨z, hz, rfl⟩ := Option.map_eq_some_iff.1 hx
            refine ⟨rfl, fun j c hj => ?_⟩
            have h4 : (etm z)[j]? = some c := by simpa [Value.cells] using hj
            have hi : i < zs.length := (List.getElem?_eq_some_iff.1 hz).1
            have hj4 : j < 4 := (List.getElem?_eq_some_iff.1 h4).1
            refine ⟨?_, ?_⟩
            · match j, h4 with
              | 0, h | 1, h | 2, h | 3, h => simp [etm] at h; subst h; rfl
              | j + 4, h => simp [etm] at h
            · show (if b = b ∧ off ≤ off + (i * 4 + j) ∧ off + (i * 4 + j) < off + zs.length * 4 then V.cell? ⟨b, off + (i * 4 + j), none⟩ else none) = some c
              rw [if_pos ⟨rfl, by omega, by omega⟩]
              exact get i j z c hz h4
        | t + 1 => exact ⟨.any _, .flat _ _ _ rfl⟩

end Go.Proofs.Ytnlokhfcgaikiaa
