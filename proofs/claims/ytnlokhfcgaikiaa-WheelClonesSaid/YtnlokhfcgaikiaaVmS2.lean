/- What a function of the library leaves that changes nothing that lay: a state of ours goes on; a new row that it hands back belongs to the result. Nothing here names a program. -/
import Derived.Test.YtnlokhfcgaikiaaVm3
import Derived.Laws.AppendOwn
namespace Go.Vm
open Go
set_option linter.all false

theorem Ok.below {w w' : World} {g : Gh} {st : St} {val : Nat → Value} (h : Ok w g st val) (hb : RowKit.Below w.heap.size w w') : Ok w' g st val := by
  have hk : ∀ (hd : Holder) (b : Nat) (q : List Nat), g.X b = some (hd, q) → w'.heap[b]? = w.heap[b]? ∧ (∀ o, g.M b o = none → g.M b o = none) ∧ g.X b = some (hd, q) := fun hd b q hx => ⟨hb.block b (h.xlt b _ hx), fun _ h => h, hx⟩
  exact ⟨fun b o c hc => (hb.cell (p := ⟨b, o, none⟩) (h.mlt hc)).trans (h.mem b o c hc), fun b t hx => Nat.lt_of_lt_of_le (h.xlt b t hx) hb.size,
    fun t => (h.slot t).keep (fun _ _ _ h => h) (fun _ _ h => h) (fun _ _ h => h) (hk _), h.ll, fun n b cs h1 h2 => (h.loc n b cs h1 h2).keep (fun _ _ _ h => h) (fun _ _ h => h) (hk _), h.ol,
    fun n b cs h1 h2 => (h.obj n b cs h1 h2).keep (fun _ _ _ h => h) (fun _ _ h => h) (hk _)⟩

theorem Fr.below {w w' : World} (g : Gh) (hb : RowKit.Below w.heap.size w w') : Fr w g w' g :=
  ⟨hb.os, hb.tape, hb.output, hb.size, fun b hb' hx => ⟨hb.block b hb', hx, fun _ => rfl⟩, fun _ _ _ h => h, fun _ _ h => h⟩

/-- A result that needs no rights. -/
theorem Ok.res {w : World} {g : Gh} {st : St} {val : Nat → Value} (h : Ok w g st val) (hbl : g.bl = []) (r : D) (x : Value) (hr : R g.M g.bs r x) (ho : Own w g.M g.bs g.X (.slot 0) [] r x) : Ok w g (St.ofRes r st.obj) (fun t => if t = 0 then x else undef) := by
  refine ⟨h.mem, h.xlt, fun t => ?_, by simp [St.ofRes, hbl], fun n b cs hn => by rw [hbl] at hn; simp at hn, h.ol, h.obj⟩
  by_cases ht : t = 0
  · subst ht
    exact ⟨hr, ho⟩
  · simp only [ht, if_false, St.ofRes, slotsOf]
    rw [List.getElem?_eq_none (by simp; omega)]
    exact ⟨.any _, .flat _ _ _ rfl⟩

/-- A new row that is handed back: by its elements, with the room behind them. -/
theorem Ok.rowRes {w w' : World} {g : Gh} {st : St} {val : Nat → Value} (h : Ok w g st val) (hbl : g.bl = []) (hb : RowKit.Below w.heap.size w w') (G n cap k : Nat) (cur : Array Value) (E : TypeId) (es : List D) (vs : List Value)
    (hG : w.heap.size ≤ G) (hh : w'.heap[G]? = some (.cells cur E (0, 0))) (hk : 0 < k) (hcs : cur.size = cap * k) (hn : n = es.length) (hn0 : es ≠ []) (hc : n ≤ cap) (hm : cap ≤ maxLen) (hl : vs.length = es.length)
    (hr : ∀ (M : Mem) (bs : List Nat) (i : Nat) (d : D) (x : Value), es[i]? = some d → vs[i]? = some x → R M bs d x) (hs : ∀ (i : Nat) (d : D), es[i]? = some d → d.ncells = k)
    (hx : ∀ (i : Nat) (x : Value), vs[i]? = some x → x.cells.size = k ∧ ∀ (j : Nat) (c : Value), x.cells[j]? = some c → c.oneCell' = true ∧ cur[i * k + j]? = some c) :
    ∃ g', g'.bl = [] ∧ Fr w g w' g' ∧ Ok w' g' (St.ofRes (.sl true es) st.obj) (fun t => if t = 0 then .slice (some ⟨G, 0, none⟩) n cap else undef) := by
  have hG2 : G < w'.heap.size := (Array.getElem?_eq_some_iff.1 hh).1
  have hMG : ∀ o, g.M G o = none := by
    intro o
    cases hc' : g.M G o with
    | none => rfl
    | some c => have := h.mlt hc'; omega
  have hXG : g.X G = none := by
    cases hc' : g.X G with
    | none => rfl
    | some c => have := h.xlt G c hc'; omega
  have h' := h.below hb
  let g' : Gh := { M := fun b o => if b = G then (if o < n * k then cur[o]? else none) else g.M b o, X := fun b => if b = G then some (.slot 0, []) else g.X b, bl := g.bl, bs := g.bs }
  have hle : g.M.le g'.M := by
    intro b o c hc'
    by_cases hbG : b = G
    · subst hbG; rw [hMG] at hc'; cases hc'
    · show (if b = G then _ else g.M b o) = some c
      rw [if_neg hbG]; exact hc'
  have hkk : ∀ (hd : Holder) (b : Nat) (q : List Nat), g.X b = some (hd, q) → w'.heap[b]? = w'.heap[b]? ∧ (∀ o, g.M b o = none → g'.M b o = none) ∧ g'.X b = some (hd, q) := by
    intro hd b q hq
    have hbG : b ≠ G := by rintro rfl; rw [hXG] at hq; cases hq
    refine ⟨rfl, fun o ho => ?_, ?_⟩
    · show (if b = G then _ else g.M b o) = none
      rw [if_neg hbG]; exact ho
    · show (if b = G then _ else g.X b) = _
      rw [if_neg hbG]; exact hq
  refine ⟨g', hbl, ⟨hb.os, hb.tape, hb.output, hb.size, fun b hb' hx' => ⟨hb.block b hb', ?_, fun o => ?_⟩, hle, fun _ _ h => h⟩, ⟨?_, ?_, fun t => ?_, by simp [St.ofRes, g', hbl], fun m b cs hn' => by simp [g', hbl] at hn', h.ol,
    fun m b cs a1 a2 => (h'.obj m b cs a1 a2).keep hle (fun _ _ h => h) (hkk _)⟩⟩
  · show (if b = G then _ else g.X b) = none
    rw [if_neg (by omega)]; exact hx'
  · show (if b = G then _ else g.M b o) = _
    rw [if_neg (by omega)]
  · intro b o c hc'
    change (if b = G then (if o < n * k then cur[o]? else none) else g.M b o) = some c at hc'
    by_cases hbG : b = G
    · subst hbG
      rw [if_pos rfl] at hc'
      split at hc'
      · simpa [World.cell?, hh] using hc'
      · cases hc'
    · rw [if_neg hbG] at hc'
      exact h'.mem b o c hc'
  · intro b t hx'
    change (if b = G then some (.slot 0, []) else g.X b) = some t at hx'
    by_cases hbG : b = G
    · subst hbG; exact hG2
    · rw [if_neg hbG] at hx'
      exact h'.xlt b t hx'
  · by_cases ht : t = 0
    · subst ht
      simp only [if_true]
      refine ⟨?_, ?_⟩
      · refine .sl true es G 0 n cap k vs hl hn hk hc hm (hr _ _) hs fun i x hi => ⟨(hx i x hi).1, fun j c hj => ⟨((hx i x hi).2 j c hj).1, ?_⟩⟩
        have hj2 : j < k := by
          have := (Array.getElem?_eq_some_iff.1 hj).1
          rw [(hx i x hi).1] at this; exact this
        have hi2 : i < n := by
          rw [hn, ← hl]; exact (List.getElem?_eq_some_iff.1 hi).1
        have hlt : i * k + j < n * k := by
          have := Nat.mul_le_mul_right k (show i + 1 ≤ n from hi2)
          rw [Nat.add_mul, Nat.one_mul] at this; omega
        show (if G = G then (if 0 + (i * k + j) < n * k then cur[0 + (i * k + j)]? else none) else g.M G _) = some c
        rw [if_pos rfl, Nat.zero_add, if_pos hlt]
        exact ((hx i x hi).2 j c hj).2
      · refine .sl [] es _ (.inr ⟨G, n, cap, k, cur, E, rfl, hn0, ?_, hh, hk, hcs, hn, hc, hm, fun o ho => ?_, hs⟩)
        · show (if G = G then _ else g.X G) = _
          rw [if_pos rfl]
        · show (if G = G then (if o < n * k then cur[o]? else none) else g.M G o) = none
          rw [if_pos rfl, if_neg (by omega)]
    · simp only [ht, if_false, St.ofRes, slotsOf]
      rw [List.getElem?_eq_none (by simp; omega)]
      exact ⟨.any _, .flat _ _ _ rfl⟩
end Go.Vm
