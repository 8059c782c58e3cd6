import Derived.Test.YtnlokhfcgaikiaaVm3
import Derived.Shelf.SlSortCmp.WholeK
import Derived.Laws.AppendOwn
namespace Go.Vm
open Go Go.Proofs Go.Sort Go.Lib Go.Shelf
set_option linter.all false
section
variable {α : Type} [Inhabited α]
theorem flatK_list {enc : α → List Value} {k : Nat} (hk : ∀ x, (enc x).length = k) (h0 : 0 < k) (d : Array α) : (flatK enc k d).toList = d.toList.flatMap enc := by
 have hlen : (d.toList.flatMap enc).length = d.size * k := by
  rw [List.length_flatMap]
  have : (d.toList.map fun x => (enc x).length) = List.replicate d.size k := by
   rw [List.eq_replicate_iff]
   constructor
   ·simp
   ·intro x hx; simp at hx; obtain ⟨y, _, rfl⟩ := hx; exact hk y
  rw [this, List.sum_replicate_nat]
 have get : ∀ (l : List α) (j : Nat), j < l.length * k → (l.flatMap enc)[j]? = (l[j / k]?).bind fun x => (enc x)[j % k]? := by
  intro l
  induction l with
  | nil => intro j hj; simp at hj
  | cons a l ih =>
   intro j hj
   rw [List.flatMap_cons]
   by_cases hjk : j < k
   ·rw [List.getElem?_append_left (by rw [hk]; exact hjk), Nat.div_eq_of_lt hjk, Nat.mod_eq_of_lt hjk]
    simp
   ·obtain ⟨q, rfl⟩ : ∃ q, j = q + k := ⟨j - k, by omega⟩
    rw [List.getElem?_append_right (by rw [hk]; omega), hk, Nat.add_sub_cancel, ih q (by rw [List.length_cons, Nat.add_mul] at hj; omega), Nat.add_div_right q h0, Nat.add_mod_right]
    simp
 apply List.ext_getElem?
 intro j
 by_cases hj : j < d.size * k
 ·have hq : j / k < d.size := Nat.div_lt_of_lt_mul (by rwa [Nat.mul_comm] at hj)
  have hm : j % k < k := Nat.mod_lt _ h0
  rw [get _ _ (by simpa using hj)]
  have e1 : d.toList[j / k]? = some d[j / k]! := by rw [getElem!_pos d (j / k) hq]; simp [hq]
  have e2 : (enc d[j / k]!)[j % k]? = some (enc d[j / k]!)[j % k]! := by
   have : j % k < (enc d[j / k]!).length := by rw [hk]; exact hm
   generalize enc d[j / k]! = l at this ⊢
   simp [List.getElem!_eq_getElem?_getD, List.getElem?_eq_getElem this]
  rw [e1, Option.bind_some, e2]
  have hs : j < (flatK enc k d).size := by simpa using hj
  rw [Array.getElem?_toList, Array.getElem?_eq_getElem hs]
  have := get_flatK enc k d j hj
  rw [getElem!_pos _ j hs] at this
  rw [this]
 ·rw [List.getElem?_eq_none (by rw [Array.length_toList, size_flatK]; omega), List.getElem?_eq_none (by rw [hlen]; omega)]
theorem sortRow {P : Program} {ρ : Ren} (L : SlLaysF0.n6 P ρ) (k : Nat) (k0 : 0 < k) (aE : ∀ w, (isAgg (ρ.t 24)).run P w = .ok true w) (zE : ∀ w, (Go.sizeOf (ρ.t 24)).run P w = .ok k w) (enc : α → List Value) (hk : ∀ x, (enc x).length = k) (h1 : ∀ x, ∀ v ∈ enc x, v.oneCell' = true)
  (cf : α → α → Int) (hO : SWO (ltOf cf)) (c : Nat) (eg : ∀ args w, (callFunc c args).run P w = .ok (.enter c args) w)
  (hcmp : ∀ (x y : α) (W : World), Calls P c #[.agg (enc x).toArray, .agg (enc y).toArray] W fun e w' => e = .returned (.int .i64 (cf x y)) ∧ ∃ q os', w' = grow (W.drewN q) os') (f : Nat) (hf : ρ.f 6 = f)
  (base E b cap n : Nat) (d : Array α) (w : World) (hrow : w.ownsRow base E k (.slice (some ⟨b, 0, none⟩) n cap) n (d.toList.flatMap enc)) (hn : d.size = n) (hsz : n < 4611686018427387904) :
  Calls P f #[.slice (some ⟨b, 0, none⟩) n cap, .func (.func c) #[] #[]] w fun e w' => e = .returned (.tuple #[]) ∧ ∃ d' : Array α, d'.size = n ∧ d'.toList.Perm d.toList ∧ SortedIn (ltOf cf) 0 n d' ∧
   w'.ownsRow base E k (.slice (some ⟨b, 0, none⟩) n cap) n (d'.toList.flatMap enc) ∧ RowKit.Below base w w' := by
 subst hf hn
 obtain ⟨hl, ⟨hx, _⟩ | ⟨b', cap', cur, he, hbase, hh, hc1, hc2, hcs, htk⟩⟩ := hrow
 ·cases hx
 cases he
 have hblk : b < w.heap.size := (Array.getElem?_eq_some_iff.1 hh).1
 rw [← flatK_list hk k0] at htk hl
 have hle : d.size * k ≤ cur.size := by rw [hcs]; exact Nat.mul_le_mul_right k hc1
 have hget : ∀ j, j < d.size * k → cur[j]? = some (flatK enc k d)[j]! := by
  intro j hj
  have h2 : (cur.toList.take (d.size * k))[j]? = (flatK enc k d).toList[j]? := by rw [htk]
  rw [List.getElem?_take, if_pos hj] at h2
  rw [Array.getElem?_toList, Array.getElem?_toList] at h2
  rw [h2]
  have hs : j < (flatK enc k d).size := by simpa using hj
  rw [getElem!_pos _ j hs]; simp [hs]
 have hH : HoldsK enc k w b 0 d := by
  intro j hj
  rw [size_flatK] at hj
  constructor
  ·simp only [World.cell?, hh, Nat.zero_add]
   simpa using hget j hj
  ·simp [World.frozen?, hh]
 have hC := AnyQ.slices_SortFunc L k aE zE enc hk h1 cf hO c #[] b 0 cap d w eg (fun _ _ _ _ x y => hcmp x y _) hH hblk hsz
 refine hC.mono ?_
 rintro e w' ⟨rfl, d', n', os, hp, hso, rfl⟩
 have hd' : d'.size = d.size := hp.1
 generalize hcur' : putCells id 0 (flatK enc k d') cur = cur'
 have sz' : cur'.size = cur.size := by rw [← hcur']; simp [putCells]
 have hheap : ∀ q, q < w.heap.size → (sortWorldK enc k w b 0 n' d' os).heap[q]? = if q = b then some (.cells cur' E (0, 0)) else w.heap[q]? := by
  intro q hq
  show ((w.heap.modify b (onCells (putCells id 0 (flatK enc k d')))) ++ os)[q]? = _
  rw [Array.getElem?_append_left (by simpa using hq), Array.getElem?_modify]
  by_cases hqb : b = q
  ·subst hqb
   rw [if_pos rfl, if_pos rfl, hh]
   simp [onCells, hcur']
  ·rw [if_neg hqb, if_neg (Ne.symm hqb)]
 have hperm : d'.toList.Perm d.toList := by
  have h3 := hp.2.2
  have e1 : d'.extract 0 d.size = d' := by rw [← hd']; simp
  have e2 : d.extract 0 d.size = d := by simp
  rw [e1, e2] at h3
  exact h3
 refine ⟨rfl, d', hd', hperm, hso, ⟨?_, .inr ⟨b, cap, cur', rfl, hbase, by rw [hheap b hblk, if_pos rfl], hc1, hc2, by rw [sz', hcs], ?_⟩⟩, ⟨rfl, rfl, rfl, ?_, ?_⟩⟩
 ·rw [← flatK_list hk k0, Array.length_toList, size_flatK, hd']
 ·rw [← flatK_list hk k0]
  apply List.ext_getElem?
  intro j
  rw [List.getElem?_take]
  by_cases hj : j < d.size * k
  ·rw [if_pos hj, Array.getElem?_toList, Array.getElem?_toList, ← hcur']
   have hlt' : j < cur.size := by omega
   have hs : j < (flatK enc k d').size := by rw [size_flatK, hd']; exact hj
   simp only [putCells, Array.getElem?_mapIdx, size_flatK, hd', Nat.zero_add, Nat.zero_le, true_and, Nat.sub_zero, id]
   rw [Array.getElem?_eq_getElem hlt', Option.map_some, if_pos hj, getElem!_pos _ j hs]
   simp [hs]
  ·rw [if_neg hj, List.getElem?_eq_none (by rw [Array.length_toList, size_flatK, hd']; omega)]
 ·show _ ≤ ((w.heap.modify b (onCells (putCells id 0 (flatK enc k d')))) ++ os).size
  simp
 ·intro q hq
  rw [hheap q (by omega), if_neg (by omega)]
end
end Go.Vm
namespace Go.Vm
open Go
set_option linter.all false
theorem Ok.below {w w' : World} {g : Gh} {st : St} {val : Nat → Value} (h : Ok w g st val) (hb : RowKit.Below w.heap.size w w') : Ok w' g st val := by
 have hk : ∀ (hd : Holder) (b : Nat) (q : List Nat), g.X b = some (hd, q) → w'.heap[b]? = w.heap[b]? ∧ (∀ o, g.M b o = none → g.M b o = none) ∧ g.X b = some (hd, q) := fun hd b q hx => ⟨hb.block b (h.xlt b _ hx), fun _ h => h, hx⟩
 exact ⟨fun b o c hc => (hb.cell (p := ⟨b, o, none⟩) (h.mlt hc)).trans (h.mem b o c hc), fun b t hx => Nat.lt_of_lt_of_le (h.xlt b t hx) hb.size,
  fun t => (h.slot t).keep (fun _ _ _ h => h) (fun _ _ h => h) (fun _ _ h => h) (hk _), h.ll, fun n b cs h1 h2 => (h.loc n b cs h1 h2).keep (fun _ _ _ h => h) (fun _ _ h => h) (hk _), h.ol,
  fun n b cs h1 h2 => (h.obj n b cs h1 h2).keep (fun _ _ _ h => h) (fun _ _ h => h) (hk _)⟩
theorem Fr.below {w w' : World} (g : Gh) (hb : RowKit.Below w.heap.size w w') : Fr w g w' g :=
 ⟨hb.os, hb.tape, hb.output, hb.size, fun b hb' hx => ⟨hb.block b hb', hx, fun _ => rfl⟩, fun _ _ _ h => h, fun _ _ h => h⟩
theorem Ok.res {w : World} {g : Gh} {st : St} {val : Nat → Value} (h : Ok w g st val) (hbl : g.bl = []) (r : D) (x : Value) (hr : R g.M g.bs r x) (ho : Own w g.M g.bs g.X (.slot 0) [] r x) : Ok w g (St.ofRes r st.obj) (fun t => if t = 0 then x else undef) := by
 refine ⟨h.mem, h.xlt, fun t => ?_, by simp [St.ofRes, hbl], fun n b cs hn => by rw [hbl] at hn; simp at hn, h.ol, h.obj⟩
 by_cases ht : t = 0
 ·subst ht
  exact ⟨hr, ho⟩
 ·simp only [ht, if_false, St.ofRes, slotsOf]
  rw [List.getElem?_eq_none (by simp; omega)]
  exact ⟨.any _, .flat _ _ _ rfl⟩
theorem Ok.rowRes {w w' : World} {g : Gh} {st : St} {val : Nat → Value} (h : Ok w g st val) (hbl : g.bl = []) (hb : RowKit.Below w.heap.size w w') (G n cap k : Nat) (cur : Array Value) (E : TypeId) (es : List D) (vs : List Value)
  (hG : w.heap.size ≤ G) (hh : w'.heap[G]? = some (.cells cur E (0, 0))) (hk : 0 < k) (hcs : cur.size = cap * k) (hn : n = es.length) (hn0 : es ≠ []) (hc : n ≤ cap) (hm : cap ≤ maxLen) (hl : vs.length = es.length)
  (hr : ∀ (M : Mem) (bs : List Nat) (i : Nat) (d : D) (x : Value), es[i]? = some d → vs[i]? = some x → R M bs d x) (hs : ∀ (i : Nat) (d : D), es[i]? = some d → d.ncells = k)
  (hx : ∀ (i : Nat) (x : Value), vs[i]? = some x → x.cells.size = k ∧ ∀ (j : Nat) (c : Value), x.cells[j]? = some c → c.oneCell' = true ∧ cur[i * k + j]? = some c) :
  ∃ g', g'.bl = [] ∧ Fr w g w' g' ∧ Ok w' g' (St.ofRes (.sl true es) st.obj) (fun t => if t = 0 then .slice (some ⟨G, 0, none⟩) n cap else undef) := by
 have hG2 : G < w'.heap.size := (Array.getElem?_eq_some_iff.1 hh).1
 have hMG : ∀ o, g.M G o = none := by
  intro o
  cases hc' : g.M G o with
  | none => rfl
  | some c => have := h.mlt hc'; omega
 have hXG : g.X G = none := by
  cases hc' : g.X G with
  | none => rfl
  | some c => have := h.xlt G c hc'; omega
 have h' := h.below hb
 let g' : Gh := { M := fun b o => if b = G then (if o < n * k then cur[o]? else none) else g.M b o, X := fun b => if b = G then some (.slot 0, []) else g.X b, bl := g.bl, bs := g.bs }
 have hle : g.M.le g'.M := by
  intro b o c hc'
  by_cases hbG : b = G
  ·subst hbG; rw [hMG] at hc'; cases hc'
  ·show (if b = G then _ else g.M b o) = some c
   rw [if_neg hbG]; exact hc'
 have hkk : ∀ (hd : Holder) (b : Nat) (q : List Nat), g.X b = some (hd, q) → w'.heap[b]? = w'.heap[b]? ∧ (∀ o, g.M b o = none → g'.M b o = none) ∧ g'.X b = some (hd, q) := by
  intro hd b q hq
  have hbG : b ≠ G := by rintro rfl; rw [hXG] at hq; cases hq
  refine ⟨rfl, fun o ho => ?_, ?_⟩
  ·show (if b = G then _ else g.M b o) = none
   rw [if_neg hbG]; exact ho
  ·show (if b = G then _ else g.X b) = _
   rw [if_neg hbG]; exact hq
 refine ⟨g', hbl, ⟨hb.os, hb.tape, hb.output, hb.size, fun b hb' hx' => ⟨hb.block b hb', ?_, fun o => ?_⟩, hle, fun _ _ h => h⟩, ⟨?_, ?_, fun t => ?_, by simp [St.ofRes, g', hbl], fun m b cs hn' => by simp [g', hbl] at hn', h.ol,
  fun m b cs a1 a2 => (h'.obj m b cs a1 a2).keep hle (fun _ _ h => h) (hkk _)⟩⟩
 ·show (if b = G then _ else g.X b) = none
  rw [if_neg (by omega)]; exact hx'
 ·show (if b = G then _ else g.M b o) = _
  rw [if_neg (by omega)]
 ·intro b o c hc'
  change (if b = G then (if o < n * k then cur[o]? else none) else g.M b o) = some c at hc'
  by_cases hbG : b = G
  ·subst hbG
   rw [if_pos rfl] at hc'
   split at hc'
   ·simpa [World.cell?, hh] using hc'
   ·cases hc'
  ·rw [if_neg hbG] at hc'
   exact h'.mem b o c hc'
 ·intro b t hx'
  change (if b = G then some (.slot 0, []) else g.X b) = some t at hx'
  by_cases hbG : b = G
  ·subst hbG; exact hG2
  ·rw [if_neg hbG] at hx'
   exact h'.xlt b t hx'
 ·by_cases ht : t = 0
  ·subst ht
   simp only [if_true]
   refine ⟨?_, ?_⟩
   ·refine .sl true es G 0 n cap k vs hl hn hk hc hm (hr _ _) hs fun i x hi => ⟨(hx i x hi).1, fun j c hj => ⟨((hx i x hi).2 j c hj).1, ?_⟩⟩
    have hj2 : j < k := by
     have := (Array.getElem?_eq_some_iff.1 hj).1
     rw [(hx i x hi).1] at this; exact this
    have hi2 : i < n := by
     rw [hn, ← hl]; exact (List.getElem?_eq_some_iff.1 hi).1
    have hlt : i * k + j < n * k := by
     have := Nat.mul_le_mul_right k (show i + 1 ≤ n from hi2)
     rw [Nat.add_mul, Nat.one_mul] at this; omega
    show (if G = G then (if 0 + (i * k + j) < n * k then cur[0 + (i * k + j)]? else none) else g.M G _) = some c
    rw [if_pos rfl, Nat.zero_add, if_pos hlt]
    exact ((hx i x hi).2 j c hj).2
   ·refine .sl [] es _ (.inr ⟨G, n, cap, k, cur, E, rfl, hn0, ?_, hh, hk, hcs, hn, hc, hm, fun o ho => ?_, hs⟩)
    ·show (if G = G then _ else g.X G) = _
     rw [if_pos rfl]
    ·show (if G = G then (if o < n * k then cur[o]? else none) else g.M G o) = none
     rw [if_pos rfl, if_neg (by omega)]
  ·simp only [ht, if_false, St.ofRes, slotsOf]
   rw [List.getElem?_eq_none (by simp; omega)]
   exact ⟨.any _, .flat _ _ _ rfl⟩
end Go.Vm
