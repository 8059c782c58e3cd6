/- slices.SortFunc on a row of cells: the library's own contract, said of rows that are owned. Nothing here names a program. -/
import Derived.Test.YtnlokhfcgaikiaaVm3
import Derived.Shelf.SlSortCmp.WholeK
namespace Go.Vm
open Go Go.Proofs Go.Sort Go.Lib Go.Shelf
set_option linter.all false

section
variable {α : Type} [Inhabited α]

theorem flatK_list {enc : α → List Value} {k : Nat} (hk : ∀ x, (enc x).length = k) (h0 : 0 < k) (d : Array α) : (flatK enc k d).toList = d.toList.flatMap enc := by
  have hlen : (d.toList.flatMap enc).length = d.size * k := by
    rw [List.length_flatMap]
    have : (d.toList.map fun x => (enc x).length) = List.replicate d.size k := by
      rw [List.eq_replicate_iff]
      constructor
      · simp
      · intro x hx; simp at hx; obtain ⟨y, _, rfl⟩ := hx; exact hk y
    rw [this, List.sum_replicate_nat]
  have get : ∀ (l : List α) (j : Nat), j < l.length * k → (l.flatMap enc)[j]? = (l[j / k]?).bind fun x => (enc x)[j % k]? := by
    intro l
    induction l with
    | nil => intro j hj; simp at hj
    | cons a l ih =>
      intro j hj
      rw [List.flatMap_cons]
      by_cases hjk : j < k
      · rw [List.getElem?_append_left (by rw [hk]; exact hjk), Nat.div_eq_of_lt hjk, Nat.mod_eq_of_lt hjk]
        simp
      · obtain ⟨q, rfl⟩ : ∃ q, j = q + k := ⟨j - k, by omega⟩
        rw [List.getElem?_append_right (by rw [hk]; omega), hk, Nat.add_sub_cancel, ih q (by rw [List.length_cons, Nat.add_mul] at hj; omega), Nat.add_div_right q h0, Nat.add_mod_right]
        simp
  apply List.ext_getElem?
  intro j
  by_cases hj : j < d.size * k
  · have hq : j / k < d.size := Nat.div_lt_of_lt_mul (by rwa [Nat.mul_comm] at hj)
    have hm : j % k < k := Nat.mod_lt _ h0
    rw [get _ _ (by simpa using hj)]
    have e1 : d.toList[j / k]? = some d[j / k]! := by rw [getElem!_pos d (j / k) hq]; simp [hq]
    have e2 : (enc d[j / k]!)[j % k]? = some (enc d[j / k]!)[j % k]! := by
      have : j % k < (enc d[j / k]!).length := by rw [hk]; exact hm
      generalize enc d[j / k]! = l at this ⊢
      simp [List.getElem!_eq_getElem?_getD, List.getElem?_eq_getElem this]
    rw [e1, Option.bind_some, e2]
    have hs : j < (flatK enc k d).size := by simpa using hj
    rw [Array.getElem?_toList, Array.getElem?_eq_getElem hs]
    have := get_flatK enc k d j hj
    rw [getElem!_pos _ j hs] at this
    rw [this]
  · rw [List.getElem?_eq_none (by rw [Array.length_toList, size_flatK]; omega), List.getElem?_eq_none (by rw [hlen]; omega)]

/-- **slices.SortFunc on a row that is owned.** -/
theorem sortRow {P : Program} {ρ : Ren} (L : SlLaysF0.n6 P ρ) (k : Nat) (k0 : 0 < k) (aE : ∀ w, (isAgg (ρ.t 24)).run P w = .ok true w) (zE : ∀ w, (Go.sizeOf (ρ.t 24)).run P w = .ok k w) (enc : α → List Value) (hk : ∀ x, (enc x).length = k) (h1 : ∀ x, ∀ v ∈ enc x, v.oneCell' = true)
    (cf : α → α → Int) (hO : SWO (ltOf cf)) (c : Nat) (eg : ∀ args w, (callFunc c args).run P w = .ok (.enter c args) w)
    (hcmp : ∀ (x y : α) (W : World), Calls P c #[.agg (enc x).toArray, .agg (enc y).toArray] W fun e w' => e = .returned (.int .i64 (cf x y)) ∧ ∃ q os', w' = grow (W.drewN q) os') (f : Nat) (hf : ρ.f 6 = f)
    (base E b cap n : Nat) (d : Array α) (w : World) (hrow : w.ownsRow base E k (.slice (some ⟨b, 0, none⟩) n cap) n (d.toList.flatMap enc)) (hn : d.size = n) (hsz : n < 4611686018427387904) :
    Calls P f #[.slice (some ⟨b, 0, none⟩) n cap, .func (.func c) #[] #[]] w fun e w' => e = .returned (.tuple #[]) ∧ ∃ d' : Array α, d'.size = n ∧ d'.toList.Perm d.toList ∧ SortedIn (ltOf cf) 0 n d' ∧
      w'.ownsRow base E k (.slice (some ⟨b, 0, none⟩) n cap) n (d'.toList.flatMap enc) ∧ RowKit.Below base w w' := by
  subst hf hn
  obtain ⟨hl, ⟨hx, _⟩ | ⟨b', cap', cur, he, hbase, hh, hc1, hc2, hcs, htk⟩⟩ := hrow
  · cases hx
  cases he
  have hblk : b < w.heap.size := (Array.getElem?_eq_some_iff.1 hh).1
  rw [← flatK_list hk k0] at htk hl
  have hle : d.size * k ≤ cur.size := by rw [hcs]; exact Nat.mul_le_mul_right k hc1
  have hget : ∀ j, j < d.size * k → cur[j]? = some (flatK enc k d)[j]! := by
    intro j hj
    have h2 : (cur.toList.take (d.size * k))[j]? = (flatK enc k d).toList[j]? := by rw [htk]
    rw [List.getElem?_take, if_pos hj] at h2
    rw [Array.getElem?_toList, Array.getElem?_toList] at h2
    rw [h2]
    have hs : j < (flatK enc k d).size := by simpa using hj
    rw [getElem!_pos _ j hs]; simp [hs]
  have hH : HoldsK enc k w b 0 d := by
    intro j hj
    rw [size_flatK] at hj
    constructor
    · simp only [World.cell?, hh, Nat.zero_add]
      simpa using hget j hj
    · simp [World.frozen?, hh]
  have hC := AnyQ.slices_SortFunc L k aE zE enc hk h1 cf hO c #[] b 0 cap d w eg (fun _ _ _ _ x y => hcmp x y _) hH hblk hsz
  refine hC.mono ?_
  rintro e w' ⟨rfl, d', n', os, hp, hso, rfl⟩
  have hd' : d'.size = d.size := hp.1
  generalize hcur' : putCells id 0 (flatK enc k d') cur = cur'
  have sz' : cur'.size = cur.size := by rw [← hcur']; simp [putCells]
  have hheap : ∀ q, q < w.heap.size → (sortWorldK enc k w b 0 n' d' os).heap[q]? = if q = b then some (.cells cur' E (0, 0)) else w.heap[q]? := by
    intro q hq
    show ((w.heap.modify b (onCells (putCells id 0 (flatK enc k d')))) ++ os)[q]? = _
    rw [Array.getElem?_append_left (by simpa using hq), Array.getElem?_modify]
    by_cases hqb : b = q
    · subst hqb
      rw [if_pos rfl, if_pos rfl, hh]
      simp [onCells, hcur']
    · rw [if_neg hqb, if_neg (Ne.symm hqb)]
  have hperm : d'.toList.Perm d.toList := by
    have h3 := hp.2.2
    have e1 : d'.extract 0 d.size = d' := by rw [← hd']; simp
    have e2 : d.extract 0 d.size = d := by simp
    rw [e1, e2] at h3
    exact h3
  refine ⟨rfl, d', hd', hperm, hso, ⟨?_, .inr ⟨b, cap, cur', rfl, hbase, by rw [hheap b hblk, if_pos rfl], hc1, hc2, by rw [sz', hcs], ?_⟩⟩, ⟨rfl, rfl, rfl, ?_, ?_⟩⟩
  · rw [← flatK_list hk k0, Array.length_toList, size_flatK, hd']
  · rw [← flatK_list hk k0]
    apply List.ext_getElem?
    intro j
    rw [List.getElem?_take]
    by_cases hj : j < d.size * k
    · rw [if_pos hj, Array.getElem?_toList, Array.getElem?_toList, ← hcur']
      have hlt' : j < cur.size := by omega
      have hs : j < (flatK enc k d').size := by rw [size_flatK, hd']; exact hj
      simp only [putCells, Array.getElem?_mapIdx, size_flatK, hd', Nat.zero_add, Nat.zero_le, true_and, Nat.sub_zero, id]
      rw [Array.getElem?_eq_getElem hlt', Option.map_some, if_pos hj, getElem!_pos _ j hs]
      simp [hs]
    · rw [if_neg hj, List.getElem?_eq_none (by rw [Array.length_toList, size_flatK, hd']; omega)]
  · show _ ≤ ((w.heap.modify b (onCells (putCells id 0 (flatK enc k d')))) ++ os).size
    simp
  · intro q hq
    rw [hheap q (by omega), if_neg (by omega)]

end
end Go.Vm
