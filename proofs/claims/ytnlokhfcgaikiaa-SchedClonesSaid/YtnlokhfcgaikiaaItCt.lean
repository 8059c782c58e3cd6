import Derived.Test.YtnlokhfcgaikiaaVmS2
import Derived.Test.YtnlokhfcgaikiaaWkWheel3
import Derived.Test.YtnlokhfcgaikiaaItSort
namespace Go.Proofs.Ytnlokhfcgaikiaa
open Go Go.Vm Go.Proofs
set_option linter.all false
set_option maxRecDepth 20000
set_option maxHeartbeats 4000000
theorem etm_flat_len (l : List Tm) : (l.flatMap etm).length = l.length * 4 := by
 induction l with
 | nil => rfl
 | cons a l ih => rw [List.flatMap_cons, List.length_append, ih, List.length_cons]; simp [etm]; omega
theorem etm_flat_at : ∀ (l : List Tm) (i j : Nat) (z : Tm) (c : Value), l[i]? = some z → (etm z)[j]? = some c → (l.flatMap etm)[i * 4 + j]? = some c
 | [], i, j, z, c, h, _ => by simp at h
 | a :: l, 0, j, z, c, h, hc => by
  simp at h; subst h
  rw [List.flatMap_cons, Nat.zero_mul, Nat.zero_add, List.getElem?_append_left (List.getElem?_eq_some_iff.1 hc).1]
  exact hc
 | a :: l, i + 1, j, z, c, h, hc => by
  rw [List.flatMap_cons, List.getElem?_append_right (by simp [etm]; omega), show (i + 1) * 4 + j - (etm a).length = i * 4 + j by simp [etm]; omega]
  exact etm_flat_at l i j z c (by simpa using h) hc
theorem sortedf_fn (N cap : Nat) (l : List Tm) (rest : List D) (σ : List (List D)) (hσ : σ[N]? = some (l.flatMap ct ++ rest)) (hlen : l.length < 1000000) :
  Ct Try.prog 51 [.clo (.func 72) [] [.adr [.slo N 0 l.length cap]], .clo (.func 53) [] []] σ (fun r σ' => (∃ zs : List Tm, zs.Perm l ∧ zs.Pairwise (fun a b => ¬ tlt b a) ∧ r = .sl true (zs.map d_Tm)) ∧ σ' = σ) := by
 refine ⟨by kernel_rfl, fun w g vs hs hb ho => ?_⟩
 have s0 := (ho.slot 0).1
 have s1 := (ho.slot 1).1
 change R g.M g.bs (.clo (.func 72) [] [.adr [.slo N 0 l.length cap]]) (vals vs 0) at s0
 change R g.M g.bs (.clo (.func 53) [] []) (vals vs 1) at s1
 generalize e0 : vals vs 0 = x0 at s0
 generalize e1 : vals vs 1 = x1 at s1
 cases s0 with
 | clo _ _ _ v1 v2 l1 l2 _ hcap =>
 cases s1 with
 | clo _ _ _ u1 u2 m1 m2 _ _ =>
 obtain rfl : v1 = #[] := Array.eq_empty_of_size_eq_zero (by simpa using l1)
 obtain rfl : u1 = #[] := Array.eq_empty_of_size_eq_zero (by simpa using m1)
 obtain rfl : u2 = #[] := Array.eq_empty_of_size_eq_zero (by simpa using m2)
 have l2' : v2.size = 1 := by simpa using l2
 obtain ⟨p, rfl⟩ : ∃ p, v2 = #[p] := ⟨v2[0], by
  apply Array.ext
  ·simpa using l2'
  ·intro i h1 h2
   obtain rfl : i = 0 := by simp at h2; omega
   simp⟩
 have ra := hcap 0 _ p rfl rfl
 cases ra with
 | adr _ bb off vsl hl hr hx =>
 obtain ⟨sv, rfl⟩ : ∃ sv, vsl = [sv] := by
  match vsl, hl with
  | [sv], _ => exact ⟨sv, rfl⟩
 have hM := (hx 0 sv rfl).2
 have rs := hr 0 _ sv rfl rfl
 have hc : w.cell? ⟨bb, off, none⟩ = some sv := by simpa using ho.mem bb (off + 0) sv hM
 have hbb : bb < w.heap.size := ho.mlt hM
 have hvs : vs = #[.func (.func 72) #[] #[.pointer (some ⟨bb, off, none⟩)], .func (.func 53) #[] #[]] := by
  apply Array.ext
  ·simpa using hs
  ·intro i h1 h2
   have : i = 0 ∨ i = 1 := by simp at h2; omega
   rcases this with rfl | rfl
   ·simpa [vals, h1] using e0
   ·simpa [vals, h1] using e1
 subst hvs
 have hI : TmsAt w.heap.size w sv l := by
  cases rs with
  | slo _ _ _ _ x h0 hlc hm =>
  by_cases hl0 : l = []
  ·subst hl0; exact .inl ⟨x, cap, rfl, rfl⟩
  ·have hpos : 0 < l.length := List.length_pos_iff.2 hl0
   obtain ⟨b, hbN, rfl⟩ := h0 (by omega)
   rcases ho.obj N b _ hbN hσ with hbox | ⟨cur, E, hh, hcs, hX, hMn, hcell⟩
   ·exfalso
    have := congrArg List.length hbox
    rw [List.length_append, rows_len (k := 4) (fun _ => rfl)] at this
    simp at this; omega
   have get : ∀ j i, j < l.length → i < 4 → ∀ v, (ct (utm l j))[i]? = some (.v v) → w.cell? ⟨b, 0 + j * 4 + i, none⟩ = some v := by
    intro j i hj hi v hv
    have e : (l.flatMap ct ++ rest)[j * 4 + i]? = some (.v v) := by
     rw [rows_cell (k := 4) (fun _ => rfl) l rest j i hj hi]
     have : utm l j = l[j] := by simp [utm, hj]
     rw [this] at hv; exact hv
    have hlt : j * 4 + i < cur.size := by rw [hcs]; exact (List.getElem?_eq_some_iff.1 e).1
    have r := (hcell _ _ cur[j * 4 + i] e (by simp [hlt])).1
    generalize hz : cur[j * 4 + i] = z at r
    cases r with
    | v _ _ => simp [World.cell?, hh, hlt, hz]
   refine .inr ⟨b, 0, cap, rfl, (Array.getElem?_eq_some_iff.1 hh).1, fun j hj => get j 0 hj (by omega) _ rfl, fun j hj => get j 1 hj (by omega) _ rfl, fun j hj => get j 2 hj (by omega) _ rfl, fun j hj => get j 3 hj (by omega) _ rfl⟩
 refine (sorted_calls bb off sv l hlen w hbb hc hI).mono ?_
 rintro e w' ⟨v, zs, rfl, hne, hp, hso, hrow, hbel⟩
 rcases hrow.2 with ⟨rfl, h0⟩ | ⟨G, cap', cur, rfl, hG, hh, hc1, hc2, hcs, htk⟩
 ·obtain rfl : zs = [] := List.eq_nil_of_length_eq_zero h0
  refine ⟨.sl true [], σ, _, g, rfl, ⟨⟨[], hp, hso, rfl⟩, rfl⟩, hb, Fr.below g hbel, ?_⟩
  exact (ho.below hbel).res hb _ _ (.nil _) (.sl _ _ _ (.inl ⟨none, 0, rfl⟩))
 ·by_cases hz0 : zs = []
  ·subst hz0
   cases hne rfl
  ·obtain ⟨g', h1, h2, h3⟩ := ho.rowRes hb hbel G zs.length cap' 4 cur 36 (zs.map d_Tm) (zs.map fun z => .agg (etm z).toArray) hG hh (by omega) hcs (by simp) (by simpa using hz0) hc1 hc2 (by simp)
    (by
     intro M bs i d x hd hx
     rw [List.getElem?_map] at hd hx
     obtain ⟨z, hz, rfl⟩ := Option.map_eq_some_iff.1 hd
     rw [hz] at hx
     obtain rfl := Option.some.inj hx
     refine .agg _ _ rfl ?_ ?_
     ·intro i d v h1 h2
      match i, h1, h2 with
      | 0, h1, h2 | 1, h1, h2 | 2, h1, h2 | 3, h1, h2 => simp [etm] at h1 h2; subst h1 h2; exact .v _ rfl
      | i + 4, h1, h2 => simp at h1
     ·intro i v h
      match i, h with
      | 0, h | 1, h | 2, h | 3, h => simp [etm] at h; subst h; rfl
      | i + 4, h => simp [etm] at h)
    (by
     intro i d hd
     rw [List.getElem?_map] at hd
     obtain ⟨z, hz, rfl⟩ := Option.map_eq_some_iff.1 hd
     rfl)
    (by
     intro i x hx
     rw [List.getElem?_map] at hx
     obtain ⟨z, hz, rfl⟩ := Option.map_eq_some_iff.1 hx
     refine ⟨rfl, fun j c hj => ⟨?_, ?_⟩⟩
     ·have : (etm z)[j]? = some c := by simpa [Value.cells] using hj
      match j, this with
      | 0, h | 1, h | 2, h | 3, h => simp [etm] at h; subst h; rfl
      | j + 4, h => simp [etm] at h
     ·have h4 : (etm z)[j]? = some c := by simpa [Value.cells] using hj
      have := etm_flat_at zs i j z c hz h4
      rw [← htk, List.getElem?_take] at this
      split at this
      ·simpa using this
      ·cases this)
   exact ⟨_, σ, _, g', rfl, ⟨⟨zs, hp, hso, rfl⟩, rfl⟩, h1, h2, h3⟩
end Go.Proofs.Ytnlokhfcgaikiaa
