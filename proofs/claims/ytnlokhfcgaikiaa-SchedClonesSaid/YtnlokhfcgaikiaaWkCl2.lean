import Derived.Test.YtnlokhfcgaikiaaWkPlay2
import Derived.Deep.RegionHeld3
namespace Go.Proofs.Ytnlokhfcgaikiaa
open Go Go.Vm
set_option maxRecDepth 20000
set_option linter.all false
set_option maxHeartbeats 8000000
theorem tmclone0_fn (l : List Tm) (σ : List (List D)) (hl : l.length ≤ 1000000) : Ct Try.prog 54 [.sl false (l.map d_Tm)] σ (fun r σ' => baseX 4 (l.map d_Tm) r ∧ σ' = σ) := by
 refine fn_start (rs := [.tmp 2]) Try.func54 rfl rfl Try.ntmps54 Try.results54 (by simp) ?_
 simp only [argEnv]
 refine awp_seq ?_
 refine awp_regionA (c := ⟨[2, 7], [], [], [], [7]⟩) (by simp only [lite_cons, lite_nil] <;> rfl) fun all hall K hK => ?_
 clear hall
 simp (maxSteps := 1000000) (disch := first | omega | assumption)
 repeat' refine And.intro ?_ ?_
 all_goals first | omega | exact rfl | skip
 refine hK _ ?_
 clear hK K
 clear all
 refine q_then_n ?_
 refine awp_seq ?_
 refine awp_seq ?_
 refine awp_regionA (c := ⟨[2, 7], [], [], [], [7]⟩) (by simp only [lite_cons, lite_nil] <;> rfl) fun all hall K hK => ?_
 clear hall
 refine vcL_split 1 fun K' hK' => ?_
 simp (maxSteps := 1000000) (disch := first | omega | assumption)
 repeat' refine And.intro ?_ ?_
 all_goals first | omega | exact rfl | skip
 refine hK' _ ?_
 clear hK' K'
 simp only [List.drop_succ_cons, List.drop_zero]
 refine vcL_step fun K' hK' => ?_
 simp (maxSteps := 1000000) (disch := first | omega | assumption)
 refine ⟨hK' _ ?_, fun e1 => hK' _ ?_⟩
 ·clear hK' K'
  simp only [vcL_nil]
  refine hK _ ?_
  clear hK K
  clear all
  refine q_then_n ?_
  refine awp_cond (t := false) (by simp) (fun h => by cases h) (fun _ => ?_)
  refine awp_skip ?_
  refine q_then_n ?_
  refine awp_seq ?_
  refine awp_regionA (c := ⟨[2, 7], [], [], [], [7]⟩) (by simp only [lite_cons, lite_nil] <;> rfl) fun all hall K hK => ?_
  clear hall
  refine vcL_split 3 fun K' hK' => ?_
  simp (maxSteps := 1000000) (disch := first | omega | assumption)
  refine ⟨l.map d_Tm, ⟨rfl, tm_arr _, rfl⟩, ⟨by simp; omega, by simp; omega⟩, ?_⟩
  repeat' refine And.intro ?_ ?_
  all_goals first | omega | exact rfl | skip
  refine hK' _ ?_
  clear hK' K'
  simp only [List.drop_succ_cons, List.drop_zero]
  simp (maxSteps := 1000000) (disch := first | omega | assumption)
  repeat' refine And.intro ?_ ?_
  all_goals first | omega | exact rfl | skip
  refine hK _ ?_
  clear hK K
  clear all
  refine q_then_n ?_
  refine awp_ret ?_
  simp [endQ, baseX]
 ·clear hK' K'
  simp only [vcL_nil]
  refine hK _ ?_
  clear hK K
  clear all
  refine q_then_n ?_
  refine awp_cond (t := true) (by simp) (fun _ => ?_) (fun h => by cases h)
  refine awp_seq ?_
  refine awp_regionA (c := ⟨[2, 7], [], [], [], [7]⟩) (by simp only [lite_cons, lite_nil] <;> rfl) fun all hall K hK => ?_
  clear hall
  simp (maxSteps := 1000000) (disch := first | omega | assumption)
  repeat' refine And.intro ?_ ?_
  all_goals first | omega | exact rfl | skip
  refine hK _ ?_
  clear hK K
  clear all
  refine q_then_n ?_
  refine awp_ret ?_
  refine q_then_r ?_
  simp [endQ, baseX, e1]
theorem tmclone_fn (l : List Tm) (σ : List (List D)) (hl : l.length ≤ 1000000) : Ct Try.prog 54 [.sl false (l.map d_Tm)] σ (fun r σ' => r = .xs 4 (l.map d_Tm) ∧ σ' = σ) := (tmclone0_fn l σ hl).toX fun _ _ h => h
def NewRow (V w' : World) (zs : List Tm) (x : Value) : Prop :=
 ∃ va vc, x = .slice va zs.length vc ∧ RowKit.Below V.heap.size V w' ∧ ((zs = [] ∧ vc = 0) ∨
  ∃ (b : Nat) (cur : Array Value) (E : TypeId), va = some ⟨b, 0, none⟩ ∧ V.heap.size ≤ b ∧ w'.heap[b]? = some (.cells cur E (0, 0)) ∧ cur.size = vc * 4 ∧ zs.length ≤ vc ∧ vc ≤ maxLen ∧ (∀ (o : Nat) (c : Value), cur[o]? = some c → c.oneCell' = true) ∧
   ∀ (i j : Nat) (z : Tm) (c : Value), zs[i]? = some z → (etm z)[j]? = some c → cur[i * 4 + j]? = some c)
theorem etm_cells (z : Tm) : (Value.agg (etm z).toArray).cells = (etm z).toArray := rfl
theorem clone_calls (sv : Value) (zs : List Tm) (hlen : zs.length ≤ 1000000) (V : World) (hI : TmsAt V.heap.size V sv zs) (hm : ∀ a n c, sv = .slice a n c → c ≤ maxLen ∧ n ≤ c ∧ (a = none → c = 0)) :
  Calls Try.prog 54 #[sv] V fun e w' => ∃ x, e = .returned x ∧ NewRow V w' zs x := by
 have fin : ∀ (g : Gh), g.bl = [] → g.bs = [] → (∀ b, g.X b = none) → Vm.Ok V g (St.ofArgs [.sl false (zs.map d_Tm)] []) (vals #[sv]) → Calls Try.prog 54 #[sv] V fun e w' => ∃ x, e = .returned x ∧ NewRow V w' zs x := by
  intro g hbl hbs hX hok
  refine ((tmclone_fn zs [] hlen).2 V g #[sv] rfl hbl hok).mono ?_
  rintro e w' ⟨r, σ', x, g', rfl, ⟨rfl, rfl⟩, _, hf, hk⟩
  refine ⟨x, rfl, ?_⟩
  have hbel : RowKit.Below V.heap.size V w' := ⟨hf.os, hf.tape, hf.output, hf.size, fun b hb => (hf.keep b hb (hX b)).1⟩
  have hs := (hk.slot 0).2
  change Vm.Own w' g'.M g'.bs g'.X (.slot 0) [] (.xs 4 (zs.map d_Tm)) x at hs
  cases hs with
  | flat _ _ _ h => simp [D.flat] at h
  | xs _ _ _ _ ho =>
   rcases ho with ⟨h0, a, rfl⟩ | ⟨b, n, cap, cur, E, rfl, hXb, hh, hk4, hcs, hn, hn2, hmx, hM, h1c, hsz, hr⟩
   ·have h0' : zs = [] := by simpa using h0
    subst h0'
    exact ⟨a, 0, rfl, hbel, .inl ⟨rfl, rfl⟩⟩
   ·have hn' : n = zs.length := by simpa using hn
    subst hn'
    refine ⟨_, cap, rfl, hbel, .inr ⟨b, cur, E, rfl, ?_, hh, hcs, hn2, hmx, h1c, ?_⟩⟩
    ·rcases Nat.lt_or_ge b V.heap.size with h | h
     ·have := (hf.keep b h (hX b)).2.1
      rw [this] at hXb; cases hXb
     ·exact h
    ·intro i j z c hz hc
     have e1 : (zs.map d_Tm)[i]? = some (d_Tm z) := by rw [List.getElem?_map, hz]; rfl
     have e2 : (d_Tm z).cells[j]? = some (.v c) := by
      match j, hc with
      | 0, h | 1, h | 2, h | 3, h => simp [etm] at h; subst h; rfl
      | j + 4, h => simp [etm] at h
     obtain ⟨y, y1, y2⟩ := hr i _ j _ e1 e2
     cases y2 with
     | v _ _ => exact y1
 rcases hI with ⟨a, cap, rfl, rfl⟩ | ⟨b, off, cap, rfl, hb, c0, c1, c2, c3⟩
 ·obtain ⟨m1, m2, m3⟩ := hm a 0 cap rfl
  refine fin { M := fun _ _ => none, X := fun _ => none, bl := [], bs := [] } rfl rfl (fun _ => rfl) ⟨fun b o c h => by simp at h, fun b t h => by simp at h, fun t => ?_, rfl, fun n b cs h => by simp at h, rfl, fun n b cs h => by simp at h⟩
  match t with
  | 0 =>
   refine ⟨?_, .flat _ _ _ rfl⟩
   cases a with
   | none => obtain rfl := m3 rfl; exact .nil _
   | some a => exact .emp _ a cap m1
  | t + 1 => exact ⟨.any _, .flat _ _ _ rfl⟩
 ·obtain ⟨m1, m2, m3⟩ := hm _ _ cap rfl
  by_cases hz0 : zs = []
  ·subst hz0
   refine fin { M := fun _ _ => none, X := fun _ => none, bl := [], bs := [] } rfl rfl (fun _ => rfl) ⟨fun b o c h => by simp at h, fun b t h => by simp at h, fun t => ?_, rfl, fun n b cs h => by simp at h, rfl, fun n b cs h => by simp at h⟩
   match t with
   | 0 => exact ⟨.emp _ _ cap m1, .flat _ _ _ rfl⟩
   | t + 1 => exact ⟨.any _, .flat _ _ _ rfl⟩
  ·have get : ∀ i j z c, zs[i]? = some z → (etm z)[j]? = some c → V.cell? ⟨b, off + (i * 4 + j), none⟩ = some c := by
    intro i j z c hz hc
    have hi : i < zs.length := (List.getElem?_eq_some_iff.1 hz).1
    have hu : utm zs i = z := by simp [utm, hz]
    match j, hc with
    | 0, h => simp [etm] at h; subst h; rw [← hu]; simpa using c0 i hi
    | 1, h => simp [etm] at h; subst h; rw [← hu, ← Nat.add_assoc]; exact c1 i hi
    | 2, h => simp [etm] at h; subst h; rw [← hu, ← Nat.add_assoc]; exact c2 i hi
    | 3, h => simp [etm] at h; subst h; rw [← hu, ← Nat.add_assoc]; exact c3 i hi
    | j + 4, h => simp [etm] at h
   refine fin { M := fun b' o => if b' = b ∧ off ≤ o ∧ o < off + zs.length * 4 then V.cell? ⟨b, o, none⟩ else none, X := fun _ => none, bl := [], bs := [] } rfl rfl (fun _ => rfl) ⟨fun b' o c h => ?_, fun b t h => by simp at h, fun t => ?_, rfl, fun n b cs h => by simp at h, rfl, fun n b cs h => by simp at h⟩
   ·simp only at h
    split at h
    ·rename_i h9; rw [h9.1]; exact h
    ·cases h
   ·match t with
    | 0 =>
     refine ⟨?_, .flat _ _ _ rfl⟩
     refine .sl false (zs.map d_Tm) b off zs.length cap 4 (zs.map fun z => .agg (etm z).toArray) (by simp) (by simp) (by omega) m2 m1 ?_ ?_ ?_
     ·intro i d x hd hx
      rw [List.getElem?_map] at hd hx
      obtain ⟨z, hz, rfl⟩ := Option.map_eq_some_iff.1 hd
      rw [hz] at hx
      obtain rfl := Option.some.inj hx
      refine .agg _ _ rfl ?_ ?_
      ·intro i d v h1 h2
       match i, h1, h2 with
       | 0, h1, h2 | 1, h1, h2 | 2, h1, h2 | 3, h1, h2 => simp [etm] at h1 h2; subst h1 h2; exact .v _ rfl
       | i + 4, h1, h2 => simp at h1
      ·intro i v h
       match i, h with
       | 0, h | 1, h | 2, h | 3, h => simp [etm] at h; subst h; rfl
       | i + 4, h => simp [etm] at h
     ·intro i d hd
      rw [List.getElem?_map] at hd
      obtain ⟨z, hz, rfl⟩ := Option.map_eq_some_iff.1 hd
      rfl
     ·intro i x hx
      rw [List.getElem?_map] at hx
      obtain ⟨z, hz, rfl⟩ := Option.map_eq_some_iff.1 hx
      refine ⟨rfl, fun j c hj => ?_⟩
      have h4 : (etm z)[j]? = some c := by simpa [Value.cells] using hj
      have hi : i < zs.length := (List.getElem?_eq_some_iff.1 hz).1
      have hj4 : j < 4 := (List.getElem?_eq_some_iff.1 h4).1
      refine ⟨?_, ?_⟩
      ·match j, h4 with
       | 0, h | 1, h | 2, h | 3, h => simp [etm] at h; subst h; rfl
       | j + 4, h => simp [etm] at h
      ·show (if b = b ∧ off ≤ off + (i * 4 + j) ∧ off + (i * 4 + j) < off + zs.length * 4 then V.cell? ⟨b, off + (i * 4 + j), none⟩ else none) = some c
       rw [if_pos ⟨rfl, by omega, by omega⟩]
       exact get i j z c hz h4
    | t + 1 => exact ⟨.any _, .flat _ _ _ rfl⟩
end Go.Proofs.Ytnlokhfcgaikiaa
namespace Go.Proofs.Ytnlokhfcgaikiaa
open Go Go.Vm
set_option maxRecDepth 20000
set_option linter.all false
set_option maxHeartbeats 8000000
theorem clone_ok {w wf : World} {g : Gh} {st : St} {val val' : Nat → Value} (h : Ok w g st val) (hloc : st.loc = []) (hbe : RowKit.Below w.heap.size w wf) (ts : List Tm) (most last : Int) (x : Value) (bM bP bW : Nat) (EP EW : TypeId)
  (hM : wf.heap[bM]? = some (.map #[] 0)) (hP : wf.heap[bP]? = some (.cells #[x, .map (some bM)] EP (0, 0))) (hW : wf.heap[bW]? = some (.cells #[.int .i64 most, .int .i64 last, .pointer (some ⟨bP, 0, none⟩)] EW (0, 0)))
  (n1 : w.heap.size ≤ bM) (n2 : w.heap.size ≤ bP) (n3 : w.heap.size ≤ bW) {V w' : World} (hx : NewRow V w' ts x) (hV : w.heap.size ≤ V.heap.size) (hkeep : ∀ b, b < w'.heap.size → wf.heap[b]? = w'.heap[b]?) (m2 : w'.heap.size ≤ bP) (m3 : w'.heap.size ≤ bW)
  (hv : val' 3 = .pointer (some ⟨bW, 0, none⟩)) :
  ∃ g', Fr w g wf g' ∧ Ok wf g' (St.mk' st.n [(3, .d (.ref (st.obj.length + 2) 0))] [] (st.obj ++ [[], [.xs 4 (ts.map d_Tm), .mp st.obj.length (.int .i64) 0 []], [D.int most, D.int last, .ref (st.obj.length + 1) 0]])) val' := by
 obtain ⟨va, vc, rfl, _, hrow⟩ := hx
 have hbl : g.bl = [] := List.length_eq_zero_iff.1 (by rw [h.ll, hloc]; rfl)
 have hPW : bP ≠ bW := by rintro rfl; rw [hP] at hW; simp at hW
 have hMP : bM ≠ bP := by rintro rfl; rw [hM] at hP; cases hP
 have hMW : bM ≠ bW := by rintro rfl; rw [hM] at hW; cases hW
 -- the array's block, or one that is none
 obtain ⟨bA, hA⟩ : ∃ bA : Nat, w.heap.size ≤ bA ∧ bA ≠ bM ∧ bA ≠ bP ∧ bA ≠ bW ∧ ((ts = [] ∧ vc = 0) ∨
   ∃ (cur : Array Value) (E : TypeId), bA < wf.heap.size ∧ va = some ⟨bA, 0, none⟩ ∧ wf.heap[bA]? = some (.cells cur E (0, 0)) ∧ cur.size = vc * 4 ∧ ts.length ≤ vc ∧ vc ≤ maxLen ∧ (∀ (o : Nat) (c : Value), cur[o]? = some c → c.oneCell' = true) ∧
    ∀ (i j : Nat) (z : Tm) (c : Value), ts[i]? = some z → (etm z)[j]? = some c → cur[i * 4 + j]? = some c) := by
  rcases hrow with h0 | ⟨b, cur, E, e1, e2, e3, e4⟩
  ·exact ⟨w.heap.size + bM + bP + bW + 1, by omega, by omega, by omega, by omega, .inl h0⟩
  ·have hb : b < w'.heap.size := (Array.getElem?_eq_some_iff.1 e3).1
   have e5 := (hkeep b hb).trans e3
   refine ⟨b, by omega, ?_, by omega, by omega, .inr ⟨cur, E, (Array.getElem?_eq_some_iff.1 e5).1, e1, e5, e4⟩⟩
   rintro rfl; rw [e5] at hM; cases hM
 obtain ⟨n0, a1, a2, a3, hrow⟩ := hA
 have hX0 : ∀ b, w.heap.size ≤ b → g.X b = none := by
  intro b hb
  cases hc : g.X b with
  | none => rfl
  | some c => have := h.xlt b c hc; omega
 have hM0 : ∀ b o, w.heap.size ≤ b → g.M b o = none := by
  intro b o hb
  cases hc : g.M b o with
  | none => rfl
  | some c => have := h.mlt hc; omega
 let isA : Nat → Bool := fun b => b == bA && decide (bA < wf.heap.size)
 let X' : Nat → Option Tag := fun b => if b = bW then some (.obj (st.obj.length + 2), []) else if b = bP then some (.obj (st.obj.length + 1), []) else if b = bM then some (.obj (st.obj.length + 1), [1]) else if isA b = true then some (.obj (st.obj.length + 1), [0]) else g.X b
 let g' : Gh := { M := g.M, X := X', bl := g.bl, bs := g.bs ++ [bM, bP, bW] }
 have hXold : ∀ b, b < w.heap.size → X' b = g.X b := by
  intro b hb
  have e4 : isA b = false := by simp [isA]; intro e; omega
  simp only [X', if_neg (show ¬ b = bW by omega), if_neg (show ¬ b = bP by omega), if_neg (show ¬ b = bM by omega), e4, Bool.false_eq_true, if_false]
 have hbs : ∀ (n b : Nat), g.bs[n]? = some b → (g.bs ++ [bM, bP, bW])[n]? = some b := fun n b hb => by
  rw [List.getElem?_append_left (List.getElem?_eq_some_iff.1 hb).1]; exact hb
 have h' := h.below hbe
 have hk : ∀ (hd : Holder) (b : Nat) (q : List Nat), g.X b = some (hd, q) → wf.heap[b]? = wf.heap[b]? ∧ (∀ o, g.M b o = none → g'.M b o = none) ∧ g'.X b = some (hd, q) := fun hd b q hx => ⟨rfl, fun _ h => h, (hXold b (h.xlt b _ hx)).trans hx⟩
 have gL : ∀ k, (g.bs ++ [bM, bP, bW])[st.obj.length + k]? = [bM, bP, bW][k]? := fun k => by rw [← h.ol, List.getElem?_append_right (by omega)]; congr 1; omega
 refine ⟨g', ⟨hbe.os, hbe.tape, hbe.output, hbe.size, fun b hb hx => ⟨hbe.block b hb, (hXold b hb).trans hx, fun _ => rfl⟩, fun _ _ _ h => h, hbs⟩, ⟨h'.mem, fun b t hb => ?_, fun t => ?_, (by show g.bl.length = 0; rw [hbl]; rfl), fun n b cs hn => (by rw [show g'.bl = [] from hbl] at hn; simp at hn), (by show (g.bs ++ [bM, bP, bW]).length = (st.obj ++ [_, _, _]).length; rw [List.length_append, List.length_append, h.ol]; rfl), fun n b cs h1 h2 => ?_⟩⟩
 ·change X' b = some t at hb
  simp only [X'] at hb
  split at hb
  ·rename_i e; subst e; exact (Array.getElem?_eq_some_iff.1 hW).1
  split at hb
  ·rename_i e; subst e; exact (Array.getElem?_eq_some_iff.1 hP).1
  split at hb
  ·rename_i e; subst e; exact (Array.getElem?_eq_some_iff.1 hM).1
  split at hb
  ·rename_i e
   simp only [isA, Bool.and_eq_true, beq_iff_eq, decide_eq_true_eq] at e
   omega
  ·exact h'.xlt b t hb
 ·show SlotOk wf g' t (envOf [(3, .d (.ref (st.obj.length + 2) 0))] t) (val' t)
  rw [envOf_cons, envOf_nil]
  by_cases ht : t = 3
  ·subst ht
   rw [if_pos rfl, hv]
   exact ⟨.ref _ _ bW (gL 2), .flat _ _ _ rfl⟩
  ·rw [if_neg ht]
   exact ⟨.any _, .flat _ _ _ rfl⟩
 ·change (g.bs ++ [bM, bP, bW])[n]? = some b at h1
  change (st.obj ++ _)[n]? = some cs at h2
  by_cases hn : n < st.obj.length
  ·rw [List.getElem?_append_left (by rw [h.ol]; exact hn)] at h1
   rw [List.getElem?_append_left hn] at h2
   exact (h'.obj n b cs h1 h2).keep (fun _ _ _ h => h) hbs (hk _)
  ·obtain ⟨k, rfl⟩ : ∃ k, n = st.obj.length + k := ⟨n - st.obj.length, by omega⟩
   rw [gL] at h1
   rw [List.getElem?_append_right (by omega), show st.obj.length + k - st.obj.length = k from by omega] at h2
   have oXM : X' bM = some (.obj (st.obj.length + 1), [1]) := by
    show (if bM = bW then _ else if bM = bP then _ else if bM = bM then _ else _) = _
    rw [if_neg hMW, if_neg hMP, if_pos rfl]
   have oXP : X' bP = some (.obj (st.obj.length + 1), []) := by
    show (if bP = bW then _ else if bP = bP then _ else _) = _
    rw [if_neg hPW, if_pos rfl]
   have oXW : X' bW = some (.obj (st.obj.length + 2), []) := by
    show (if bW = bW then _ else _) = _
    rw [if_pos rfl]
   match k, h1, h2 with
   | 0, h1, h2 => exact .inl (by simpa using h2.symm)
   | 1, h1, h2 =>
    simp only [List.getElem?_cons_succ, List.getElem?_cons_zero, Option.some.injEq] at h1 h2
    subst h1; subst h2
    refine .inr ⟨_, EP, hP, rfl, oXP, fun o => hM0 _ o n2, fun i d y d1 d2 => ?_⟩
    match i, d1, d2 with
    | 0, d1, d2 =>
     simp at d1 d2
     subst d1; subst d2
     rcases hrow with ⟨rfl, rfl⟩ | ⟨cur, E, e1, rfl, e3, e4, e5, e6, e7, e8⟩
     ·exact ⟨.xs _ _ _ _ _ rfl (by simp) (by simp) (fun _ => ⟨rfl, rfl⟩), .xs _ _ _ _ (.inl ⟨rfl, va, rfl⟩), rfl⟩
     ·have oXA : X' bA = some (.obj (st.obj.length + 1), [0]) := by
       show (if bA = bW then _ else if bA = bP then _ else if bA = bM then _ else if isA bA = true then _ else _) = _
       rw [if_neg a3, if_neg a2, if_neg a1, if_pos (by simp [isA, e1])]
      refine ⟨.xs _ _ _ _ _ (by simp) e5 e6 (fun e => by cases e), .xs _ _ _ _ (.inr ⟨bA, _, _, cur, E, rfl, oXA, e3, by decide, e4, by simp, e5, e6, fun o => hM0 _ o n0, e7, fun i d hd => ?_, fun i d j e hd he => ?_⟩), rfl⟩
      ·rw [List.getElem?_map, Option.map_eq_some_iff] at hd
       obtain ⟨z, hz, rfl⟩ := hd
       exact ⟨rfl, rfl⟩
      ·rw [List.getElem?_map, Option.map_eq_some_iff] at hd
       obtain ⟨z, hz, rfl⟩ := hd
       match j, he with
       | 0, he | 1, he | 2, he | 3, he =>
        simp [D.cells] at he; subst he
        exact ⟨_, e8 i _ z _ hz rfl, .v _ rfl⟩
       | j + 4, he => simp [D.cells] at he
    | 1, d1, d2 =>
     simp at d1 d2
     subst d1; subst d2
     exact ⟨.mp _ _ _ bM _ (gL 0), .mp _ _ _ _ _ _ ⟨bM, #[], rfl, gL 0, oXM, hM, fun o => hM0 _ o n1, rfl, ⟨MapKept.stamped_empty 0, by simp⟩, fun i k s d e q1 => by simp at q1⟩, rfl⟩
    | i + 2, d1, d2 => simp at d1
   | 2, h1, h2 =>
    simp only [List.getElem?_cons_succ, List.getElem?_cons_zero, Option.some.injEq] at h1 h2
    subst h1; subst h2
    refine .inr ⟨_, EW, hW, rfl, oXW, fun o => hM0 _ o n3, fun i d y d1 d2 => ?_⟩
    match i, d1, d2 with
    | 0, d1, d2 => simp at d1 d2; subst d1; subst d2; exact ⟨.v _ rfl, .flat _ _ _ rfl, rfl⟩
    | 1, d1, d2 => simp at d1 d2; subst d1; subst d2; exact ⟨.v _ rfl, .flat _ _ _ rfl, rfl⟩
    | 2, d1, d2 => simp at d1 d2; subst d1; subst d2; exact ⟨.ref _ _ bP (gL 1), .flat _ _ _ rfl, rfl⟩
    | i + 3, d1, d2 => simp at d1
   | k + 3, h1, h2 => simp at h1
theorem src_at {w : World} {g : Gh} {st : St} {val : Nat → Value} (h : Ok w g st val) {m p M : Nat} {ts : List Tm} {most last : Int} {ck : Nat} {kvs : List (Value × Nat × D)} {o : Nat} (hm : st.obj[m]? = some [D.int most, D.int last, .ref p 0]) (hp : st.obj[p]? = some [.xs 4 (ts.map d_Tm), .mp M (.int .i64) ck kvs])
  (hv : R g.M g.bs (.ref m 0) (val o)) : ∃ bw bp sv, val o = .pointer (some ⟨bw, 0, none⟩) ∧ w.cell? ⟨bw, 0, none⟩ = some (.int .i64 most) ∧ w.cell? ⟨bw, 1, none⟩ = some (.int .i64 last) ∧ w.cell? ⟨bw, 2, none⟩ = some (.pointer (some ⟨bp, 0, none⟩)) ∧ w.cell? ⟨bp, 0, none⟩ = some sv ∧
   TmsAt w.heap.size w sv ts ∧ (∀ a n c, sv = .slice a n c → c ≤ maxLen ∧ n ≤ c ∧ (a = none → c = 0)) := by
 obtain ⟨bw, hbw, hvp⟩ : ∃ b, g.bs[m]? = some b ∧ val o = .pointer (some ⟨b, 0, none⟩) := by
  generalize val o = v at hv
  cases hv with
  | ref n off b hb => exact ⟨b, hb, rfl⟩
 rcases h.obj m bw _ hbw hm with h0 | ⟨cur, E, w1, w2, w3, w4, w5⟩
 ·cases h0
 have get : ∀ (i : Nat) (d : D), [D.int most, D.int last, D.ref p 0][i]? = some d → ∃ y, cur[i]? = some y ∧ R g.M g.bs d y := by
  intro i d hd
  have hi : i < 3 := (List.getElem?_eq_some_iff.1 hd).1
  have hi' : i < cur.size := by rw [w2]; exact hi
  exact ⟨cur[i], Array.getElem?_eq_getElem hi', (w5 i d _ hd (Array.getElem?_eq_getElem hi')).1⟩
 obtain ⟨y0, q0, r0⟩ := get 0 _ rfl
 obtain ⟨y1, q1, r1⟩ := get 1 _ rfl
 obtain ⟨y2, q2, r2⟩ := get 2 _ rfl
 cases r0; cases r1
 obtain ⟨bp, hbp, rfl⟩ : ∃ b, g.bs[p]? = some b ∧ y2 = .pointer (some ⟨b, 0, none⟩) := by
  cases r2 with
  | ref n off b hb => exact ⟨b, hb, rfl⟩
 rcases h.obj p bp _ hbp hp with h0 | ⟨cur', E', p1, p2, p3, p4, p5⟩
 ·cases h0
 have hs0 : 0 < cur'.size := by rw [p2]; simp
 obtain ⟨sr, so, s1⟩ := p5 0 _ cur'[0] rfl (Array.getElem?_eq_getElem hs0)
 refine ⟨bw, bp, cur'[0], hvp, by simpa [World.cell?, w1] using q0, by simpa [World.cell?, w1] using q1, by simpa [World.cell?, w1] using q2, by simp [World.cell?, p1, hs0], ?_, ?_⟩
 ·generalize cur'[0] = sv at sr so
  cases so with
  | flat _ _ _ hf => simp [D.flat] at hf
  | xs _ _ _ _ ho =>
   rcases ho with ⟨h0, a, rfl⟩ | ⟨b, n, cap, cur, E, rfl, hX, hh, hk, hcs, hn, hn2, hmx, hMo, h1c, hsz, hr⟩
   ·exact .inl ⟨a, 0, rfl, by simpa using h0⟩
   ·have hn' : n = ts.length := by simpa using hn
    subst hn'
    have cell : ∀ (i j : Nat) (e : Value), i < ts.length → (d_Tm (utm ts i)).cells[j]? = some (.v e) → w.cell? ⟨b, i * 4 + j, none⟩ = some e := by
     intro i j e hi he
     have hi2 : (ts.map d_Tm)[i]? = some (d_Tm (utm ts i)) := by simp [utm, hi]
     obtain ⟨y, y1, y2⟩ := hr i _ j _ hi2 he
     cases y2
     simpa [World.cell?, hh] using y1
    refine .inr ⟨b, 0, cap, rfl, (Array.getElem?_eq_some_iff.1 hh).1, fun j hj => ?_, fun j hj => ?_, fun j hj => ?_, fun j hj => ?_⟩
    ·simpa using cell j 0 _ hj rfl
    ·simpa using cell j 1 _ hj rfl
    ·simpa using cell j 2 _ hj rfl
    ·simpa using cell j 3 _ hj rfl
 ·intro a n c e
  rw [e] at sr
  cases sr with
  | xs _ _ _ _ _ z1 z2 z3 z4 => exact ⟨z3, z2, fun ha => (z4 ha).2⟩
theorem awp_cut {P : Program} (st1 : St) {c : Code} {Q : Exit → St → Prop} {st : St} (h2 : Q .normal st1 → AWP P c Q st) (h1 : Q .normal st1) : AWP P c Q st := h2 h1
theorem fin_region {wf w0 w : World} {g0 g : Gh} {st1 : St} {Q : Exit → St → Prop} {tmps : Array Value} (hst : Q .normal st1) (hf : Fr w0 g0 w g) (hn : tmps.size = st1.n) (h : ∃ g', Fr w g wf g' ∧ Ok wf g' st1 (vals tmps)) : SimQ w0 g0 Q .normal ⟨tmps, []⟩ wf :=
 let ⟨g', f, k⟩ := h
 ⟨rfl, st1, g', hst, hf.trans f, k, hn⟩
theorem below_dr (W : World) : RowKit.Below W.heap.size W W.drew := (RowKit.Below.refl _ W).drew
theorem below_al {W V : World} (h : RowKit.Below W.heap.size W V) (o : Obj) : RowKit.Below W.heap.size W (V.alloc o) := h.alloc h.size o
theorem clone_ok1 {w w' : World} {g : Gh} {st : St} {val val' : Nat → Value} (h : Ok w g st val) (hloc : st.loc = []) (ts : List Tm) (most last : Int) (x : Value) (EP EW : TypeId) (hx : NewRow w.drew w' ts x) (hv : val' 3 = .pointer (some ⟨w'.heap.size + 1 + 1, 0, none⟩)) :
  ∃ g', Fr w g (((w'.alloc (.map #[] 0)).alloc (.cells #[x, .map (some w'.heap.size)] EP)).alloc (.cells #[.int .i64 most, .int .i64 last, .pointer (some ⟨w'.heap.size + 1, 0, none⟩)] EW)) g' ∧
   Ok (((w'.alloc (.map #[] 0)).alloc (.cells #[x, .map (some w'.heap.size)] EP)).alloc (.cells #[.int .i64 most, .int .i64 last, .pointer (some ⟨w'.heap.size + 1, 0, none⟩)] EW)) g' (St.mk' st.n [(3, .d (.ref (st.obj.length + 2) 0))] [] (st.obj ++ [[], [.xs 4 (ts.map d_Tm), .mp st.obj.length (.int .i64) 0 []], [D.int most, D.int last, .ref (st.obj.length + 1) 0]])) val' := by
 have hb0 : RowKit.Below w.heap.size w w' := by
  obtain ⟨_, _, _, hb, _⟩ := hx
  exact ⟨hb.os, hb.tape, hb.output, hb.size, hb.block⟩
 have hs := hb0.size
 have s1 : (w'.alloc (.map #[] 0)).heap.size = w'.heap.size + 1 := World.size_alloc ..
 have s2 : ((w'.alloc (.map #[] 0)).alloc (.cells #[x, .map (some w'.heap.size)] EP)).heap.size = w'.heap.size + 1 + 1 := by rw [World.size_alloc, s1]
 have k1 : ∀ b, b < w'.heap.size → (((w'.alloc (.map #[] 0)).alloc (.cells #[x, .map (some w'.heap.size)] EP)).alloc (.cells #[.int .i64 most, .int .i64 last, .pointer (some ⟨w'.heap.size + 1, 0, none⟩)] EW)).heap[b]? = w'.heap[b]? := fun b hb => by
  rw [heap_old _ _ (by omega), heap_old _ _ (by omega), heap_old _ _ hb]
 refine clone_ok h hloc (below_al (below_al (below_al hb0 _) _) _) ts most last x w'.heap.size (w'.heap.size + 1) (w'.heap.size + 1 + 1) EP EW ?_ ?_ ?_ (by omega) (by omega) (by omega) hx (Nat.le_refl _) k1 (by omega) (by omega) hv
 ·rw [heap_old _ _ (by omega), heap_old _ _ (by omega), heap_new]
 ·rw [heap_old _ _ (by omega), ← s1, heap_new]
 ·rw [← s2, heap_new]
theorem clone_ok2 {w w' : World} {g : Gh} {st : St} {val val' : Nat → Value} (h : Ok w g st val) (hloc : st.loc = []) (ts : List Tm) (most last : Int) (x : Value) (EP EW : TypeId) (hx : NewRow (w.drew.alloc (.map #[] 0)) w' ts x) (hv : val' 3 = .pointer (some ⟨w'.heap.size + 1, 0, none⟩)) :
  ∃ g', Fr w g ((w'.alloc (.cells #[x, .map (some w.heap.size)] EP)).alloc (.cells #[.int .i64 most, .int .i64 last, .pointer (some ⟨w'.heap.size, 0, none⟩)] EW)) g' ∧
   Ok ((w'.alloc (.cells #[x, .map (some w.heap.size)] EP)).alloc (.cells #[.int .i64 most, .int .i64 last, .pointer (some ⟨w'.heap.size, 0, none⟩)] EW)) g' (St.mk' st.n [(3, .d (.ref (st.obj.length + 2) 0))] [] (st.obj ++ [[], [.xs 4 (ts.map d_Tm), .mp st.obj.length (.int .i64) 0 []], [D.int most, D.int last, .ref (st.obj.length + 1) 0]])) val' := by
 have hbV : RowKit.Below (w.drew.alloc (.map #[] 0)).heap.size (w.drew.alloc (.map #[] 0)) w' := by
  obtain ⟨_, _, _, hb, _⟩ := hx
  exact hb
 have sV : (w.drew.alloc (.map #[] 0)).heap.size = w.heap.size + 1 := World.size_alloc ..
 have hs := hbV.size
 rw [sV] at hs
 have hb0 : RowKit.Below w.heap.size w w' := ⟨hbV.os, hbV.tape, hbV.output, by omega, fun b hb => (hbV.block b (by omega)).trans (heap_old w.drew _ hb)⟩
 have s1 : (w'.alloc (.cells #[x, .map (some w.heap.size)] EP)).heap.size = w'.heap.size + 1 := World.size_alloc ..
 have k1 : ∀ b, b < w'.heap.size → ((w'.alloc (.cells #[x, .map (some w.heap.size)] EP)).alloc (.cells #[.int .i64 most, .int .i64 last, .pointer (some ⟨w'.heap.size, 0, none⟩)] EW)).heap[b]? = w'.heap[b]? := fun b hb => by
  rw [heap_old _ _ (by omega), heap_old _ _ hb]
 refine clone_ok h hloc (below_al (below_al hb0 _) _) ts most last x w.heap.size w'.heap.size (w'.heap.size + 1) EP EW ?_ ?_ ?_ (by omega) (by omega) (by omega) hx (by omega) k1 (by omega) (by omega) hv
 ·rw [k1 _ (by omega), hbV.block _ (by omega)]
  exact heap_new w.drew _
 ·rw [heap_old _ _ (by omega), heap_new]
 ·rw [← s1, heap_new]
theorem TmsAt.le {n n' : Nat} {A : World} {sv : Value} {zs : List Tm} (hn : n ≤ n') : TmsAt n A sv zs → TmsAt n' A sv zs
 | .inl e => .inl e
 | .inr ⟨b, off, cap, e, hb, h0⟩ => .inr ⟨b, off, cap, e, Nat.lt_of_lt_of_le hb hn, h0⟩
theorem clone_calls2 {W : World} {bw bm : Nat} {most last : Int} {sv : Value} {ts : List Tm} (c0 : W.cell? ⟨bw, 0, none⟩ = some (.int .i64 most)) (c1 : W.cell? ⟨bw, 1, none⟩ = some (.int .i64 last)) (c2 : W.cell? ⟨bw, 2, none⟩ = some (.pointer (some ⟨bm, 0, none⟩))) (c3 : W.cell? ⟨bm, 0, none⟩ = some sv)
  (htm : TmsAt W.heap.size W sv ts) (hsv : ∀ a n c, sv = .slice a n c → c ≤ maxLen ∧ n ≤ c ∧ (a = none → c = 0)) (hl : ts.length ≤ 1000000) (V : World) (hV : RowKit.Below W.heap.size W V) :
  Calls Try.prog 54 #[sv] V fun e w' => ∃ va vn vc, e = .returned (.slice va vn vc) ∧ (w'.cell? ⟨bw, 0, none⟩ = some (.int .i64 most) ∧ w'.cell? ⟨bw, 1, none⟩ = some (.int .i64 last) ∧ w'.cell? ⟨bw, 2, none⟩ = some (.pointer (some ⟨bm, 0, none⟩)) ∧ w'.cell? ⟨bm, 0, none⟩ = some sv ∧ RowKit.Below W.heap.size W w') ∧ NewRow V w' ts (.slice va vn vc) := by
 refine (clone_calls sv ts hl V ((htm.below hV).le hV.size) hsv).mono ?_
 rintro e w' ⟨x, rfl, hx⟩
 have hb : RowKit.Below V.heap.size V w' := by obtain ⟨_, _, _, hb, _⟩ := hx; exact hb
 have hb' : RowKit.Below W.heap.size W w' := ⟨hb.os.trans hV.os, hb.tape.trans hV.tape, hb.output.trans hV.output, Nat.le_trans hV.size hb.size, fun b h => (hb.block b (Nat.lt_of_lt_of_le h hV.size)).trans (hV.block b h)⟩
 have lt : ∀ {b o : Nat} {v : Value}, W.cell? ⟨b, o, none⟩ = some v → w'.cell? ⟨b, o, none⟩ = some v := fun {b o v} hc => (hb'.cell (p := ⟨b, o, none⟩) (World.block_lt_of_cell? W ⟨b, o, none⟩ hc)).trans hc
 obtain ⟨va, vc, rfl, _⟩ := id hx
 exact ⟨va, _, vc, rfl, ⟨lt c0, lt c1, lt c2, lt c3, hb'⟩, hx⟩
theorem arr52 (t : Array Value) (h : t.size = 52) : ∃ x0 x1 x2 x3 x4 x5 x6 x7 x8 x9 x10 x11 x12 x13 x14 x15 x16 x17 x18 x19 x20 x21 x22 x23 x24 x25 x26 x27 x28 x29 x30 x31 x32 x33 x34 x35 x36 x37 x38 x39 x40 x41 x42 x43 x44 x45 x46 x47 x48 x49 x50 x51, t = #[x0, x1, x2, x3, x4, x5, x6, x7, x8, x9, x10, x11, x12, x13, x14, x15, x16, x17, x18, x19, x20, x21, x22, x23, x24, x25, x26, x27, x28, x29, x30, x31, x32, x33, x34, x35, x36, x37, x38, x39, x40, x41, x42, x43, x44, x45, x46, x47, x48, x49, x50, x51] := by
 obtain ⟨l⟩ := t
 simp only [List.size_toArray] at h
 obtain _ | ⟨x0, l⟩ := l
 ·simp at h
 obtain _ | ⟨x1, l⟩ := l
 ·simp at h
 obtain _ | ⟨x2, l⟩ := l
 ·simp at h
 obtain _ | ⟨x3, l⟩ := l
 ·simp at h
 obtain _ | ⟨x4, l⟩ := l
 ·simp at h
 obtain _ | ⟨x5, l⟩ := l
 ·simp at h
 obtain _ | ⟨x6, l⟩ := l
 ·simp at h
 obtain _ | ⟨x7, l⟩ := l
 ·simp at h
 obtain _ | ⟨x8, l⟩ := l
 ·simp at h
 obtain _ | ⟨x9, l⟩ := l
 ·simp at h
 obtain _ | ⟨x10, l⟩ := l
 ·simp at h
 obtain _ | ⟨x11, l⟩ := l
 ·simp at h
 obtain _ | ⟨x12, l⟩ := l
 ·simp at h
 obtain _ | ⟨x13, l⟩ := l
 ·simp at h
 obtain _ | ⟨x14, l⟩ := l
 ·simp at h
 obtain _ | ⟨x15, l⟩ := l
 ·simp at h
 obtain _ | ⟨x16, l⟩ := l
 ·simp at h
 obtain _ | ⟨x17, l⟩ := l
 ·simp at h
 obtain _ | ⟨x18, l⟩ := l
 ·simp at h
 obtain _ | ⟨x19, l⟩ := l
 ·simp at h
 obtain _ | ⟨x20, l⟩ := l
 ·simp at h
 obtain _ | ⟨x21, l⟩ := l
 ·simp at h
 obtain _ | ⟨x22, l⟩ := l
 ·simp at h
 obtain _ | ⟨x23, l⟩ := l
 ·simp at h
 obtain _ | ⟨x24, l⟩ := l
 ·simp at h
 obtain _ | ⟨x25, l⟩ := l
 ·simp at h
 obtain _ | ⟨x26, l⟩ := l
 ·simp at h
 obtain _ | ⟨x27, l⟩ := l
 ·simp at h
 obtain _ | ⟨x28, l⟩ := l
 ·simp at h
 obtain _ | ⟨x29, l⟩ := l
 ·simp at h
 obtain _ | ⟨x30, l⟩ := l
 ·simp at h
 obtain _ | ⟨x31, l⟩ := l
 ·simp at h
 obtain _ | ⟨x32, l⟩ := l
 ·simp at h
 obtain _ | ⟨x33, l⟩ := l
 ·simp at h
 obtain _ | ⟨x34, l⟩ := l
 ·simp at h
 obtain _ | ⟨x35, l⟩ := l
 ·simp at h
 obtain _ | ⟨x36, l⟩ := l
 ·simp at h
 obtain _ | ⟨x37, l⟩ := l
 ·simp at h
 obtain _ | ⟨x38, l⟩ := l
 ·simp at h
 obtain _ | ⟨x39, l⟩ := l
 ·simp at h
 obtain _ | ⟨x40, l⟩ := l
 ·simp at h
 obtain _ | ⟨x41, l⟩ := l
 ·simp at h
 obtain _ | ⟨x42, l⟩ := l
 ·simp at h
 obtain _ | ⟨x43, l⟩ := l
 ·simp at h
 obtain _ | ⟨x44, l⟩ := l
 ·simp at h
 obtain _ | ⟨x45, l⟩ := l
 ·simp at h
 obtain _ | ⟨x46, l⟩ := l
 ·simp at h
 obtain _ | ⟨x47, l⟩ := l
 ·simp at h
 obtain _ | ⟨x48, l⟩ := l
 ·simp at h
 obtain _ | ⟨x49, l⟩ := l
 ·simp at h
 obtain _ | ⟨x50, l⟩ := l
 ·simp at h
 obtain _ | ⟨x51, l⟩ := l
 ·simp at h
 obtain _ | ⟨y, l⟩ := l
 ·exact ⟨x0, x1, x2, x3, x4, x5, x6, x7, x8, x9, x10, x11, x12, x13, x14, x15, x16, x17, x18, x19, x20, x21, x22, x23, x24, x25, x26, x27, x28, x29, x30, x31, x32, x33, x34, x35, x36, x37, x38, x39, x40, x41, x42, x43, x44, x45, x46, x47, x48, x49, x50, x51, rfl⟩
 ·simp at h
def ckv (ts : List Tm) (i : Nat) : List (Int × Nat × Int) := (List.range i).map fun j => ((at_ ts j).token, j, (j : Int))
def hclone (h : HP) : HP := ⟨h.ts, h.ts.length, ckv h.ts h.ts.length⟩
theorem ckv_succ (ts : List Tm) (i : Nat) : ckv ts (i + 1) = ckv ts i ++ [((at_ ts i).token, i, (i : Int))] := by simp [ckv, List.range_succ]
theorem ckv_new {h : HP} (hk : HPok h) {i : Nat} (hi : i < h.ts.length) : h.ts[i].token ∉ (ckv h.ts i).map (·.1) := by
 intro hm
 simp only [ckv, List.map_map, List.mem_map, List.mem_range, Function.comp] at hm
 obtain ⟨j, hj, e⟩ := hm
 rw [at_get _ _ (by omega)] at e
 have := nodup_tok hk.tnd (by omega) hi e
 omega
theorem hclone_ok {h : HP} (hk : HPok h) : HPok (hclone h) := by
 have hkey : keys (hclone h) = toks h := by
  unfold keys hclone toks ckv
  rw [List.map_map]
  refine List.ext_getElem (by simp) fun i h1 h2 => ?_
  simp only [List.getElem_map, List.getElem_range, Function.comp]
  rw [at_get _ _ (by simpa using h2)]
 refine ⟨hk.len, by rw [hkey]; exact hk.tnd, hk.tnd, fun i hi => ⟨i, ?_⟩, fun k hk' => by rw [hkey] at hk'; exact hk'⟩
 have hi' : i < h.ts.length := hi
 refine List.mem_map.2 ⟨i, List.mem_range.2 hi', ?_⟩
 rw [at_get _ _ hi']
 rfl
theorem wclone0_fn (w m M : Nat) (s : WS) (σ : List (List D)) (hw : σ[w]? = some (dwh m s)) (hq : σ[m]? = some (dhp M s.h)) (hs : WOk s) : Ct Try.prog 27 [.ref w 0] σ (fun r σ' => r = .ref (σ.length + 2) 0 ∧ ∃ cap ds, σ' = σ ++ [[], dho (σ.length + 3) cap σ.length (hclone s.h), dwh (σ.length + 1) ⟨s.most, s.last, hclone s.h⟩] ++ [ds] ∧ ds.length = cap * 4 ∧ s.h.ts.flatMap ct <+: ds) := by
 refine fn_start (rs := [.tmp 2]) Try.func27 rfl rfl Try.ntmps27 Try.results27 (by simp) ?_
 simp only [argEnv]
 have hl := hs.hk.len
 refine awp_seq ?_
 refine awp_regionA (c := ⟨[], [], [24, 26], [34, 38], []⟩) (by simp only [lite_cons, lite_nil] <;> rfl) fun all hall K hK => ?_
 clear hall
 simp (maxSteps := 1000000) (disch := first | omega | assumption) [og_at, og_put, og_at0, og_put0]
 repeat' refine And.intro ?_ ?_
 all_goals first | omega | exact rfl | skip
 refine hK _ ?_
 clear hK K
 clear all
 refine q_then_n ?_
 refine awp_seq ?_
 refine awp_cut (St.mk' 52 [(3, .d (.ref (σ.length + 2) 0))] [] (σ ++ [[], [.xs 4 (s.h.ts.map d_Tm), .mp σ.length (.int .i64) 0 []], [D.int s.most, D.int s.last, .ref (σ.length + 1) 0]])) (fun hst => ?_) ?_
 ·intro w0 g0 w1 g1 tmps hf hok hn
  obtain ⟨bw, bm, sv, hx0, c0, c1, c2, c3, htm, hsv⟩ := src_at (o := 0) hok hw hq (hok.slot 0).1
  obtain ⟨x0, x1, x2, x3, x4, x5, x6, x7, x8, x9, x10, x11, x12, x13, x14, x15, x16, x17, x18, x19, x20, x21, x22, x23, x24, x25, x26, x27, x28, x29, x30, x31, x32, x33, x34, x35, x36, x37, x38, x39, x40, x41, x42, x43, x44, x45, x46, x47, x48, x49, x50, x51, rfl⟩ := arr52 tmps hn
  change x0 = _ at hx0
  subst hx0
  have hmm : ∀ (t : TypeId) (w : World), (Instr.makeMap t none).run Try.prog w = .ok (.map (some w.heap.size)) (w.alloc (.map #[] 0)) := fun _ _ => rfl
  have hB0 := RowKit.Below.refl w1.heap.size w1
  have hc := clone_calls2 c0 c1 c2 c3 htm hsv (by omega)
  have hgo1 : ∀ (w' : World) (va : Option Addr) (vn vc : Nat) (val' : Nat → Value), NewRow w1.drew w' s.h.ts (.slice va vn vc) → val' 3 = .pointer (some ⟨w'.heap.size + 1 + 1, 0, none⟩) → _ := fun w' va vn vc val' h1 h2 => clone_ok1 hok rfl s.h.ts s.most s.last (.slice va vn vc) 79 81 h1 h2
  have hgo2 : ∀ (w' : World) (va : Option Addr) (vn vc : Nat) (val' : Nat → Value), NewRow (w1.drew.alloc (.map #[] 0)) w' s.h.ts (.slice va vn vc) → val' 3 = .pointer (some ⟨w'.heap.size + 1, 0, none⟩) → _ := fun w' va vn vc val' h1 h2 => clone_ok2 hok rfl s.h.ts s.most s.last (.slice va vn vc) 79 81 h1 h2
  clear hok
  go_region_held3 (fun V : World => V.cell? ⟨bw, 0, none⟩ = some (.int .i64 s.most) ∧ V.cell? ⟨bw, 1, none⟩ = some (.int .i64 s.last) ∧ V.cell? ⟨bw, 2, none⟩ = some (.pointer (some ⟨bm, 0, none⟩)) ∧ V.cell? ⟨bm, 0, none⟩ = some sv ∧ RowKit.Below w1.heap.size w1 V) (simp [*, World.cell?_alloc_some, World.cell?_setCell_far, below_al, RowKit.Below.drew, below_dr]) (first | (go_at_call 54; refine (hc _ (by first | assumption | (repeat (first | assumption | with_reducible apply RowKit.Below.drew | with_reducible apply below_al | exact (by assumption : _ ∧ _ ∧ _ ∧ _ ∧ RowKit.Below _ _ _).2.2.2.2)))).mono ?_; rintro e w' ⟨va, vn, vc, rfl, ⟨d0, d1, d2, d3, d4⟩, hrel⟩))
  ·refine fin_region hst hf rfl ?_
   refine hgo1 w' va vn vc _ hrel ?_
   rfl
  ·refine fin_region hst hf rfl ?_
   refine hgo2 w' va vn vc _ hrel ?_
   rfl
 refine q_then_n ?_
 refine awp_seq ?_
 refine awp_seq ?_
 refine awp_openXO (σ.length + 1) 0 4 (es := s.h.ts.map d_Tm) (by simp [og_at, og_put, og_at0, og_put0] <;> rfl) (by simp <;> rfl) (by decide) fun cap rest hcap hcm hrest hes => ?_
 simp only [List.length_map, List.set_set, List.length_set, List.set_cons_zero, List.set_cons_succ] at hcap hrest ⊢
 rw [tm_flat]
 simp only [og_put, List.set_cons_zero, List.set_cons_succ, List.length_append, List.length_cons, List.length_nil, Nat.zero_add, Nat.reduceAdd, List.append_assoc, List.cons_append, List.nil_append]
 refine awp_regionA (c := ⟨[], [], [24, 26], [34, 38], []⟩) (by simp only [lite_cons, lite_nil] <;> rfl) fun all hall K hK => ?_
 clear hall
 refine vcL_split 8 fun K' hK' => ?_
 simp (maxSteps := 1000000) (disch := first | omega | assumption) [og_at, og_put, og_at0, og_put0]
 repeat' refine And.intro ?_ ?_
 all_goals first | omega | exact rfl | skip
 refine hK' _ ?_
 clear hK' K'
 simp only [List.drop_succ_cons, List.drop_zero]
 simp (maxSteps := 1000000) (disch := first | omega | assumption) [og_at, og_put, og_at0, og_put0]
 repeat' refine And.intro ?_ ?_
 all_goals first | omega | exact rfl | skip
 refine hK _ ?_
 clear hK K
 clear all
 refine q_then_n ?_
 refine awp_block ?_
 refine awp_keep [3, 33, 34, 35] (by simp only [keepL_nil, keepL_cons, envOf_sel, envOf_nil, sel_t, sel_f, Nat.reduceBEq] <;> rfl) ?_
 refine awp_loopM (fun (i : Nat) => [(35, .d (.int i))]) (fun (i : Nat) => []) (fun (i : Nat) => [(σ.length + 1, dho (σ.length + 3) cap σ.length ⟨s.h.ts, i, ckv s.h.ts i⟩)]) [4, 5, 35, 36, 37, 38, 39, 40, 41, 42, 43, 44, 45, 46, 47, 48, 49, 50] (fun (i : Nat) => i ≤ s.h.ts.length) (fun (i : Nat) => s.h.ts.length - i) (0) (by simp <;> rfl) ?_ (by simp) (by simp [og_at, og_put, og_at0, og_put0, ckv]) ?_ ?_
 ·simp
 ·simp
 rintro i hi
 simp only [List.cons_append, List.nil_append, setL_nil, setL_cons, List.set_cons_zero, List.set_cons_succ]
 have hnew : ∀ h1 : i < s.h.ts.length, _ := fun h1 => ckv_new hs.hk h1
 refine awp_seq ?_
 refine awp_regionA (c := ⟨[], [], [24, 26], [34, 38], []⟩) (by simp only [lite_cons, lite_nil] <;> rfl) fun all hall K hK => ?_
 clear hall
 simp (maxSteps := 1000000) (disch := first | omega | assumption) [og_at, og_put, og_at0, og_put0]
 repeat' refine And.intro ?_ ?_
 all_goals first | omega | exact rfl | skip
 refine hK _ ?_
 clear hK K
 clear all
 refine q_then_n ?_
 refine awp_seq ?_
 refine awp_ifB (by simp <;> rfl) ?_
 refine ⟨fun c1 => ?_, fun c1 => ?_⟩
 ·try simp at c1
  refine awp_skip ?_
  refine q_then_n ?_
  refine awp_seq ?_
  refine awp_block ?_
  refine awp_seq ?_
  refine awp_regionA (c := ⟨[], [], [24, 26], [34, 38], []⟩) (by simp only [lite_cons, lite_nil] <;> rfl) fun all hall K hK => ?_
  clear hall
  simp (maxSteps := 1000000) (disch := first | omega | assumption) [og_at, og_put, og_at0, og_put0]
  repeat' refine And.intro ?_ ?_
  all_goals first | omega | exact rfl | skip
  refine hK _ ?_
  clear hK K
  clear all
  refine q_then_n ?_
  refine awp_drawA (c := ⟨[], [], [24, 26], [34, 38], []⟩) [.op ⟨false, false, false, false⟩, .op ⟨false, false, false, false⟩, .op ⟨false, false, false, false⟩, .op ⟨false, false, true, false⟩, .op ⟨false, false, false, false⟩, .op ⟨false, false, false, false⟩, .op ⟨false, false, true, false⟩, .op ⟨false, false, false, false⟩, .op ⟨true, false, false, false⟩, .op ⟨false, false, false, false⟩, .op ⟨false, false, true, true⟩] (by kernel_rfl) (by kernel_rfl) (by simp only [lite_cons, lite_nil] <;> rfl) fun all hall K hK => ?_
  clear hall
  refine vcDL_split 8 (by simp) fun K' hK' => ?_
  simp (maxSteps := 1000000) (disch := first | omega | assumption) [og_at, og_put, og_at0, og_put0]
  repeat' refine And.intro ?_ ?_
  all_goals first | omega | exact rfl | skip
  refine hK' _ ?_
  clear hK' K'
  simp only [List.drop_succ_cons, List.drop_zero]
  simp (maxSteps := 1000000) (disch := first | omega | assumption) [og_at, og_put, og_at0, og_put0]
  refine ⟨σ.length + 1, 1, i, _, i + 1, _, ⟨⟨_, by simp [og_at, og_put, og_at0, og_put0] <;> rfl, rfl⟩, keyI _, kv_upd i _ (hnew (by assumption))⟩, ?_⟩
  rw [putM_eq (by simp [og_at, og_put, og_at0, og_put0] <;> rfl)]
  simp only [og_at, og_put, og_at0, og_put0, List.set_cons_zero, List.set_cons_succ, List.set_set]
  repeat' refine And.intro ?_ ?_
  all_goals first | omega | exact rfl | skip
  refine hK _ ?_
  clear hK K
  clear all
  refine q_block_n ?_
  refine q_then_n ?_
  refine awp_keep [3, 33, 34, 35] (by simp only [keepL_nil, keepL_cons, envOf_sel, envOf_nil, sel_t, sel_f, Nat.reduceBEq] <;> rfl) ?_
  refine awp_regionA (c := ⟨[], [], [24, 26], [34, 38], []⟩) (by simp only [lite_cons, lite_nil] <;> rfl) fun all hall K hK => ?_
  clear hall
  simp (maxSteps := 1000000) (disch := first | omega | assumption) [og_at, og_put, og_at0, og_put0]
  repeat' refine And.intro ?_ ?_
  all_goals first | omega | exact rfl | skip
  refine hK _ ?_
  clear hK K
  clear all
  refine q_round (i + 1) ?_ ?_ (weak_mkA rfl ?_ (by simp) (by simp [og_at, og_put, og_at0, og_put0, ckv_succ, at_get, *]))
  ·first | omega | (dsimp only; omega)
  ·try dsimp only
   omega
  ·simp (maxSteps := 1000000) (disch := first | omega | assumption) [og_at, og_put, og_at0, og_put0]
 ·try simp at c1
  refine awp_exit ?_
  refine q_then_e ?_
  refine q_loop_e ?_
  refine q_block_e ?_
  refine q_then_n ?_
  refine awp_seq ?_
  refine awp_regionA (c := ⟨[], [], [24, 26], [34, 38], []⟩) (by simp only [lite_cons, lite_nil] <;> rfl) fun all hall K hK => ?_
  clear hall
  simp (maxSteps := 1000000) (disch := first | omega | assumption) [og_at, og_put, og_at0, og_put0]
  repeat' refine And.intro ?_ ?_
  all_goals first | omega | exact rfl | skip
  refine hK _ ?_
  clear hK K
  clear all
  refine q_then_n ?_
  refine awp_ret ?_
  simp [endQ]
  obtain rfl : i = s.h.ts.length := by omega
  exact ⟨cap, _, ⟨⟨⟨rfl, rfl⟩, rfl, rfl⟩, rfl⟩, flat_len _ _ _ (by omega) (by rw [hrest] <;> omega), List.prefix_append _ _⟩
theorem wclone_fn (w m M : Nat) (s : WS) (σ : List (List D)) (hw : σ[w]? = some (dwh m s)) (hq : σ[m]? = some (dhp M s.h)) (hs : WOk s) : Ct Try.prog 27 [.ref w 0] σ (fun r σ' => r = .ref (σ.length + 2) 0 ∧ σ' = σ ++ [[], dhp σ.length (hclone s.h), dwh (σ.length + 1) ⟨s.most, s.last, hclone s.h⟩, []]) := by
 refine Ct.closeXO (wclone0_fn w m M s σ hw hq hs) ?_
 rintro r σ' ⟨rfl, cap, ds, rfl, h1, h2⟩
 simp only [List.append_assoc, List.cons_append, List.nil_append]
 refine ⟨σ.length + 1, 0, 4, σ.length + 3, s.h.ts.length, cap, s.h.ts.map d_Tm, dho (σ.length + 3) cap σ.length (hclone s.h), ds, ⟨by simp [og_at], rfl, by simp [og_at], by omega, by decide, h1, by simp, tm_arr _, by rw [tm_flat]; exact h2⟩, trivial, ?_⟩
 simp [og_put, hclone]
@[simp] abbrev wcl (s : WS) : WS := ⟨s.most, s.last, hclone s.h⟩
theorem wcl_ok {s : WS} (h : WOk s) : WOk (wcl s) := ⟨hclone_ok h.hk, h.hm, h.hl, h.hc, h.tk⟩
theorem PI.clone {k : Int} {s : WS} {x : RW} (h : PI k s x) : PI k (wcl s) x := ⟨⟨wcl_ok h.i.ok, h.i.hp, h.i.dl⟩, h.most, h.last, h.lk, h.hp, h.so⟩
end Go.Proofs.Ytnlokhfcgaikiaa
