import Derived.Test.YtnlokhfcgaikiaaWkWheel2
namespace Go.Proofs.Ytnlokhfcgaikiaa
open Go Go.Vm
set_option maxRecDepth 20000
set_option linter.all false
set_option maxHeartbeats 8000000
structure WAct where
 kind : Int
 n : Int
 job : Job
 deriving DecidableEq
@[simp] abbrev d_WAct (s : WAct) : D := .agg [.v (.int .i64 s.kind), .v (.int .i64 s.n), .v (.int .i64 s.job.kind), .v (.int .i64 s.job.node)]
theorem at_out (l : List Tm) (i : Nat) (h : l.length ≤ i) : at_ l i = tm0 := by simp [at_, List.getD_eq_getElem?_getD, List.getElem?_eq_none h]
theorem at_sw (l : List Tm) (i j k : Nat) (hi : i < l.length) (hj : j < l.length) : at_ (sw l i j) k = if k = j then at_ l i else if k = i then at_ l j else at_ l k := by
 by_cases hk : k < l.length
 ·have hk' : k < (sw l i j).length := by rw [sw_len]; exact hk
  rw [at_get _ _ hk', sw_get _ _ _ _ hi hj hk', at_get _ _ hi, at_get _ _ hj, at_get _ _ hk]
 ·rw [at_out _ _ (by rw [sw_len]; omega), at_out l k (by omega), if_neg (by omega), if_neg (by omega)]
theorem tlt_asymm {a b : Tm} (h : tlt a b) : ¬ tlt b a := by unfold tlt at *; omega
theorem tle_trans {a b c : Tm} (h : ¬ tlt b a) (h2 : ¬ tlt c b) : ¬ tlt c a := by unfold tlt at *; omega
theorem tlt_le {a b c : Tm} (h : tlt a b) (h2 : ¬ tlt c b) : ¬ tlt c a := tle_trans (tlt_asymm h) h2
theorem tle_refl (a : Tm) : ¬ tlt a a := by unfold tlt; omega
def par (i : Nat) : Nat := (i - 1) / 2
def HeapN (l : List Tm) (n : Nat) : Prop := ∀ j, 0 < j → j < n → ¬ tlt (at_ l j) (at_ l (par j))
structure HeapX (l : List Tm) (n i : Nat) : Prop where
 a : ∀ j, 0 < j → j < n → j ≠ i → par j ≠ i → ¬ tlt (at_ l j) (at_ l (par j))
 b : ∀ j, 0 < j → j < n → par j = i → 0 < i → ¬ tlt (at_ l j) (at_ l (par i))
theorem par_lt {j : Nat} (h : 0 < j) : par j < j := by unfold par; omega
theorem par_child {i j : Nat} (h : 0 < j) (he : par j = i) : j = 2 * i + 1 ∨ j = 2 * i + 2 := by unfold par at he; omega
theorem hpick_par (h : HP) (i n : Nat) : par (hpick h i n) = i := by unfold hpick par; split <;> omega
theorem hpick_min (h : HP) {i n j : Nat} (h0 : 0 < j) (hj : j < n) (he : par j = i) : ¬ tlt (at_ h.ts j) (at_ h.ts (hpick h i n)) := by
 unfold hpick
 rcases par_child h0 he with rfl | rfl
 ·split
  ·rename_i c; exact tlt_asymm c.2
  ·exact tle_refl _
 ·split
  ·exact tle_refl _
  ·rename_i c; intro h9; exact c ⟨hj, h9⟩
theorem hdown_heap {h : HP} {i n : Nat} (hn : n ≤ h.ts.length) (hx : HeapX h.ts n i) (hp : i = 0 ∨ ¬ tlt (at_ h.ts i) (at_ h.ts (par i))) : HeapN (hdown h i n).1.ts n := by
 generalize hd : n - i = d
 induction d using Nat.strongRecOn generalizing h i with
 | _ d ih =>
  by_cases c : 2 * i + 1 < n ∧ tlt (at_ h.ts (hpick h i n)) (at_ h.ts i)
  ·rw [hdown_yes c.1 c.2]
   have h1 := hpick_gt h i n
   have h2 := hpick_lt h i n c.1
   have h3 := hpick_par h i n
   have hmin := fun j h0 hj he => hpick_min h (i := i) (n := n) (j := j) h0 hj he
   generalize hpick h i n = p at h1 h2 h3 c hmin
   have hs : ∀ k, at_ (hswap h i p).ts k = if k = p then at_ h.ts i else if k = i then at_ h.ts p else at_ h.ts k := fun k => at_sw _ _ _ _ (by omega) (by omega)
   refine ih (n - p) (by omega) (h := hswap h i p) (i := p) (by rw [hswap_len]; exact hn) ⟨fun j h0 hj hne hpe => ?_, fun j h0 hj hpj _ => ?_⟩ ?_ rfl
   ·rw [hs, hs, if_neg hne, if_neg hpe]
    by_cases e1 : j = i
    ·subst e1
     have : par j ≠ j := by have := par_lt h0; omega
     rw [if_pos rfl, if_neg this]
     exact hx.b p (by omega) h2 h3 h0
    ·rw [if_neg e1]
     by_cases e2 : par j = i
     ·rw [if_pos e2]; exact hmin j h0 hj e2
     ·rw [if_neg e2]; exact hx.a j h0 hj e1 e2
   ·have hjp := par_lt h0
    rw [h3, hs, hs, if_neg (by omega), if_neg (by omega), if_neg (by omega), if_pos rfl, ← hpj]
    exact hx.a j h0 hj (by omega) (by omega)
   ·right
    rw [h3, hs, hs, if_pos rfl, if_neg (by omega), if_pos rfl]
    exact tlt_asymm c.2
  ·rw [hdown_no c]
   intro j h0 hj
   by_cases e1 : j = i
   ·subst e1
    rcases hp with rfl | hp
    ·omega
    ·exact hp
   ·by_cases e2 : par j = i
    ·have hc : 2 * i + 1 < n := by rcases par_child h0 e2 with rfl | rfl <;> omega
     have h1 := hpick_min h h0 hj e2
     have h2 : ¬ tlt (at_ h.ts (hpick h i n)) (at_ h.ts i) := fun h9 => c ⟨hc, h9⟩
     rw [e2]
     exact tle_trans h2 h1
    ·exact hx.a j h0 hj e1 e2
structure UpX (l : List Tm) (n i : Nat) : Prop where
 a : ∀ j, 0 < j → j < n → j ≠ i → ¬ tlt (at_ l j) (at_ l (par j))
 b : ∀ j, 0 < j → j < n → par j = i → 0 < i → ¬ tlt (at_ l j) (at_ l (par i))
theorem hdown_up {h : HP} {i n : Nat} (hn : n ≤ h.ts.length) (hx : HeapX h.ts n i) : (i < (hdown h i n).2 → HeapN (hdown h i n).1.ts n) ∧ (¬ i < (hdown h i n).2 → UpX (hdown h i n).1.ts n i) := by
 by_cases c : 2 * i + 1 < n ∧ tlt (at_ h.ts (hpick h i n)) (at_ h.ts i)
 ·have h1 := hpick_gt h i n
  have h2 := hpick_lt h i n c.1
  have h3 := hpick_par h i n
  have hge : ∀ (h : HP) (i : Nat), i ≤ (hdown h i n).2 := by
   intro h i
   generalize hd : n - i = d
   induction d using Nat.strongRecOn generalizing h i with
   | _ d ih =>
    by_cases c : 2 * i + 1 < n ∧ tlt (at_ h.ts (hpick h i n)) (at_ h.ts i)
    ·rw [hdown_yes c.1 c.2]
     have h1 := hpick_gt h i n
     have h2 := hpick_lt h i n c.1
     have := ih (n - hpick h i n) (by omega) (hswap h i (hpick h i n)) (hpick h i n) rfl
     omega
    ·rw [hdown_no c]; exact Nat.le_refl _
  have hmin := fun j h0 hj he => hpick_min h (i := i) (n := n) (j := j) h0 hj he
  rw [hdown_yes c.1 c.2]
  refine ⟨fun _ => ?_, fun h9 => absurd (Nat.lt_of_lt_of_le h1 (hge _ _)) h9⟩
  generalize hpick h i n = p at h1 h2 h3 c hmin
  have hs : ∀ k, at_ (hswap h i p).ts k = if k = p then at_ h.ts i else if k = i then at_ h.ts p else at_ h.ts k := fun k => at_sw _ _ _ _ (by omega) (by omega)
  refine hdown_heap (by rw [hswap_len]; exact hn) ⟨fun j h0 hj hne hpe => ?_, fun j h0 hj hpj _ => ?_⟩ ?_
  ·rw [hs, hs, if_neg hne, if_neg hpe]
   by_cases e1 : j = i
   ·subst e1
    have : par j ≠ j := by have := par_lt h0; omega
    rw [if_pos rfl, if_neg this]
    exact hx.b p (by omega) h2 h3 h0
   ·rw [if_neg e1]
    by_cases e2 : par j = i
    ·rw [if_pos e2]; exact hmin j h0 hj e2
    ·rw [if_neg e2]; exact hx.a j h0 hj e1 e2
  ·have hjp := par_lt h0
   rw [h3, hs, hs, if_neg (by omega), if_neg (by omega), if_neg (by omega), if_pos rfl, ← hpj]
   exact hx.a j h0 hj (by omega) (by omega)
  ·right
   rw [h3, hs, hs, if_pos rfl, if_neg (by omega), if_pos rfl]
   exact tlt_asymm c.2
 ·rw [hdown_no c]
  refine ⟨fun h9 => absurd h9 (Nat.lt_irrefl _), fun _ => ⟨fun j h0 hj hne => ?_, hx.b⟩⟩
  by_cases e2 : par j = i
  ·have hc : 2 * i + 1 < n := by rcases par_child h0 e2 with rfl | rfl <;> omega
   have h1 := hpick_min h h0 hj e2
   have h2 : ¬ tlt (at_ h.ts (hpick h i n)) (at_ h.ts i) := fun h9 => c ⟨hc, h9⟩
   rw [e2]
   exact tle_trans h2 h1
  ·exact hx.a j h0 hj hne e2
theorem hup_heap {h : HP} {i n : Nat} (hi : i < n) (hn : n ≤ h.ts.length) (hx : UpX h.ts n i) : HeapN (hup h i).ts n := by
 induction i using Nat.strongRecOn generalizing h with
 | _ i ih =>
  by_cases c : 0 < i ∧ tlt (at_ h.ts i) (at_ h.ts ((i - 1) / 2))
  ·rw [hup_yes c.1 c.2]
   obtain ⟨c0, c1⟩ := c
   have hp : par i = (i - 1) / 2 := rfl
   have hpl := par_lt c0
   rw [← hp] at c1 ⊢
   have hs : ∀ k, at_ (hswap h (par i) i).ts k = if k = i then at_ h.ts (par i) else if k = par i then at_ h.ts i else at_ h.ts k := fun k => at_sw _ _ _ _ (by omega) (by omega)
   refine ih (par i) hpl (h := hswap h (par i) i) (by omega) (by rw [hswap_len]; exact hn) ⟨fun j h0 hj hne => ?_, fun j h0 hj hpj hp0 => ?_⟩
   ·have hjl := par_lt h0
    rw [hs, hs]
    by_cases e1 : j = i
    ·subst e1
     rw [if_pos rfl, if_neg (by omega), if_pos rfl]
     exact tlt_asymm c1
    ·rw [if_neg e1, if_neg hne]
     by_cases e2 : par j = i
     ·rw [if_pos e2]; exact hx.b j h0 hj e2 c0
     ·rw [if_neg e2]
      by_cases e3 : par j = par i
      ·rw [if_pos e3]
       have := hx.a j h0 hj e1
       rw [e3] at this
       exact tlt_le c1 this
      ·rw [if_neg e3]; exact hx.a j h0 hj e1
   ·have hpp := par_lt hp0
    have e0 := hx.a (par i) hp0 (by omega) (by omega)
    rw [hs, hs, if_neg (show par (par i) ≠ i by omega), if_neg (show par (par i) ≠ par i by omega)]
    by_cases e1 : j = i
    ·rw [if_pos e1]; exact e0
    ·have hjl := par_lt h0
     rw [if_neg e1, if_neg (by omega)]
     have := hx.a j h0 hj e1
     rw [hpj] at this
     exact tle_trans e0 this
  ·rw [hup_no c]
   intro j h0 hj
   by_cases e1 : j = i
   ·subst e1; exact fun h9 => c ⟨h0, h9⟩
   ·exact hx.a j h0 hj e1
theorem hup_perm {h : HP} {j : Nat} (hj : j < h.ts.length) : (hup h j).ts.Perm h.ts := by
 induction j using Nat.strongRecOn generalizing h with
 | _ j ih =>
  by_cases c : 0 < j ∧ tlt (at_ h.ts j) (at_ h.ts ((j - 1) / 2))
  ·rw [hup_yes c.1 c.2]
   exact (ih ((j - 1) / 2) (by omega) (h := hswap h ((j - 1) / 2) j) (by rw [hswap_len]; omega)).trans (sw_perm _ _ _ (by omega) hj)
  ·rw [hup_no c]
theorem hup_above {h : HP} {j k : Nat} (hj : j < h.ts.length) (hk : j < k) : at_ (hup h j).ts k = at_ h.ts k := by
 induction j using Nat.strongRecOn generalizing h with
 | _ j ih =>
  by_cases c : 0 < j ∧ tlt (at_ h.ts j) (at_ h.ts ((j - 1) / 2))
  ·rw [hup_yes c.1 c.2, ih ((j - 1) / 2) (by omega) (h := hswap h ((j - 1) / 2) j) (by rw [hswap_len]; omega) (by omega)]
   show at_ (sw _ _ _) k = _
   rw [at_sw _ _ _ _ (by omega) hj, if_neg (by omega), if_neg (by omega)]
  ·rw [hup_no c]
theorem hdown_perm {h : HP} {i n : Nat} (hn : n ≤ h.ts.length) : (hdown h i n).1.ts.Perm h.ts ∧ ∀ k, n ≤ k → at_ (hdown h i n).1.ts k = at_ h.ts k := by
 generalize hd : n - i = d
 induction d using Nat.strongRecOn generalizing h i with
 | _ d ih =>
  by_cases c : 2 * i + 1 < n ∧ tlt (at_ h.ts (hpick h i n)) (at_ h.ts i)
  ·rw [hdown_yes c.1 c.2]
   have h1 := hpick_gt h i n
   have h2 := hpick_lt h i n c.1
   obtain ⟨a, b⟩ := ih (n - hpick h i n) (by omega) (h := hswap h i (hpick h i n)) (i := hpick h i n) (by rw [hswap_len]; exact hn) rfl
   refine ⟨a.trans (sw_perm _ _ _ (by omega) (by omega)), fun k hk => ?_⟩
   rw [b k hk]
   show at_ (sw _ _ _) k = _
   rw [at_sw _ _ _ _ (by omega) (by omega), if_neg (by omega), if_neg (by omega)]
  ·rw [hdown_no c]; exact ⟨List.Perm.refl _, fun _ _ => rfl⟩
def Heap (l : List Tm) : Prop := HeapN l l.length
theorem hcut_heap {h : HP} (h0 : 0 < h.ts.length) (hh : HeapN h.ts (h.ts.length - 1)) : Heap (hcut h).ts ∧ h.ts.Perm (at_ h.ts (h.ts.length - 1) :: (hcut h).ts) := by
 have h1 : h.ts.length - 1 < h.ts.length := by omega
 have ha : ∀ k, k < h.ts.length - 1 → at_ (hcut h).ts k = at_ h.ts k := fun k hk => by
  rw [at_get _ _ (by rw [hcut_len]; exact hk), at_get _ _ (by omega)]
  simp [hcut]
 refine ⟨fun j j0 hj => ?_, ?_⟩
 ·rw [hcut_len] at hj
  have := par_lt j0
  rw [ha j hj, ha (par j) (by omega)]
  exact hh j j0 hj
 ·rw [at_get _ _ h1]
  have e : h.ts = h.ts.take (h.ts.length - 1) ++ [h.ts[h.ts.length - 1]] := by
   have e0 := List.take_append_drop (h.ts.length - 1) h.ts
   rw [List.drop_eq_getElem_cons h1, show h.ts.length - 1 + 1 = h.ts.length by omega, List.drop_length] at e0
   exact e0.symm
  conv => lhs; rw [e]
  exact List.perm_append_comm
theorem hPush_heap {h : HP} (t : Tm) (hh : Heap h.ts) : Heap (hPush h t).ts ∧ (hPush h t).ts.Perm (t :: h.ts) := by
 have hl : h.ts.length < (hpush h t).ts.length := by rw [hpush_len]; omega
 have ha : ∀ k, k < h.ts.length → at_ (hpush h t).ts k = at_ h.ts k := fun k hk => by
  rw [at_get _ _ (by rw [hpush_len]; omega), at_get _ _ hk]
  simp [hpush, List.getElem_append_left hk]
 have hp := hup_perm hl
 constructor
 ·unfold Heap
  have hx := hup_heap (h := hpush h t) (i := h.ts.length) (n := h.ts.length + 1) (by omega) (by rw [hpush_len]; exact Nat.le_refl _) ⟨fun j h0 hj hne => ?_, fun j h0 hj hpj _ => ?_⟩
  ·have e : (hPush h t).ts.length = h.ts.length + 1 := by unfold hPush; rw [hp.length_eq, hpush_len]
   rw [e]; exact hx
  ·have := par_lt h0
   rw [ha j (by omega), ha _ (by omega)]
   exact hh j h0 (by omega)
  ·have := par_lt h0; omega
 ·refine hp.trans ?_
  show (h.ts ++ [t]).Perm _
  exact List.perm_append_comm
theorem swap_heapx {h : HP} {i : Nat} (hi : i < h.ts.length - 1) (hh : Heap h.ts) : HeapX (hswap h i (h.ts.length - 1)).ts (h.ts.length - 1) i := by
 have hs : ∀ k, at_ (hswap h i (h.ts.length - 1)).ts k = if k = h.ts.length - 1 then at_ h.ts i else if k = i then at_ h.ts (h.ts.length - 1) else at_ h.ts k := fun k => at_sw _ _ _ _ (by omega) (by omega)
 refine ⟨fun j h0 hj hne hpe => ?_, fun j h0 hj hpj hi0 => ?_⟩
 ·have := par_lt h0
  rw [hs, hs, if_neg (by omega), if_neg hne, if_neg (by omega), if_neg hpe]
  exact hh j h0 (by omega)
 ·have h1 := par_lt h0
  have h2 := par_lt hi0
  rw [hs, hs, if_neg (by omega), if_neg (by omega), if_neg (by omega), if_neg (by omega)]
  have e1 := hh j h0 (by omega)
  rw [hpj] at e1
  exact tle_trans (hh i hi0 (by omega)) e1
theorem hPop_heap {h : HP} (h0 : 0 < h.ts.length) (hh : Heap h.ts) : Heap (hPop h).ts ∧ h.ts.Perm (at_ h.ts 0 :: (hPop h).ts) := by
 have hl := hswap_len h 0 (h.ts.length - 1)
 obtain ⟨hp, hk⟩ := hdown_perm (h := hswap h 0 (h.ts.length - 1)) (i := 0) (n := h.ts.length - 1) (by rw [hl]; omega)
 have hp0 : (hPop0 h).ts.Perm h.ts := hp.trans (sw_perm _ _ _ h0 (by omega))
 have hlen : (hPop0 h).ts.length = h.ts.length := hp0.length_eq
 have hx : HeapN (hPop0 h).ts (h.ts.length - 1) := by
  by_cases h1 : 0 < h.ts.length - 1
  ·exact hdown_heap (by rw [hl]; omega) (swap_heapx h1 hh) (.inl rfl)
  ·intro j j0 hj; omega
 obtain ⟨a, b⟩ := hcut_heap (h := hPop0 h) (by omega) (by rw [hlen]; exact hx)
 refine ⟨a, hp0.symm.trans ?_⟩
 have e : at_ (hPop0 h).ts ((hPop0 h).ts.length - 1) = at_ h.ts 0 := by
  rw [hlen]
  refine (hk _ (Nat.le_refl _)).trans ?_
  show at_ (sw _ _ _) _ = _
  rw [at_sw _ _ _ _ h0 (by omega), if_pos rfl]
 rw [e] at b
 exact b
theorem hRem_heap {h : HP} {i : Nat} (hi : i < h.ts.length) (hh : Heap h.ts) : Heap (hRem h i).ts ∧ h.ts.Perm (at_ h.ts i :: (hRem h i).ts) := by
 have key : (hRem0 h i).ts.Perm h.ts ∧ HeapN (hRem0 h i).ts (h.ts.length - 1) ∧ at_ (hRem0 h i).ts (h.ts.length - 1) = at_ h.ts i := by
  unfold hRem0
  split
  ·rename_i e
   exact ⟨List.Perm.refl _, fun j j0 hj => hh j j0 (by omega), by rw [e]⟩
  ·rename_i e
   have hl := hswap_len h i (h.ts.length - 1)
   obtain ⟨hp, hk⟩ := hdown_perm (h := hswap h i (h.ts.length - 1)) (i := i) (n := h.ts.length - 1) (by rw [hl]; omega)
   have hp2 := hp.trans (sw_perm h.ts i (h.ts.length - 1) hi (by omega))
   have hlast : at_ (hdown (hswap h i (h.ts.length - 1)) i (h.ts.length - 1)).1.ts (h.ts.length - 1) = at_ h.ts i := by
    refine (hk _ (Nat.le_refl _)).trans ?_
    show at_ (sw _ _ _) _ = _
    rw [at_sw _ _ _ _ hi (by omega), if_pos rfl]
   obtain ⟨c1, c2⟩ := hdown_up (h := hswap h i (h.ts.length - 1)) (i := i) (n := h.ts.length - 1) (by rw [hl]; omega) (swap_heapx (by omega) hh)
   split
   ·rename_i c
    exact ⟨hp2, c1 c, hlast⟩
   ·rename_i c
    have hil : i < (hdown (hswap h i (h.ts.length - 1)) i (h.ts.length - 1)).1.ts.length := by rw [hp2.length_eq]; exact hi
    refine ⟨(hup_perm hil).trans hp2, hup_heap (by omega) (by rw [hp2.length_eq]; omega) (c2 c), ?_⟩
    rw [hup_above hil (by omega)]
    exact hlast
 obtain ⟨hp, hx, hlast⟩ := key
 have hlen := hp.length_eq
 obtain ⟨a, b⟩ := hcut_heap (h := hRem0 h i) (by omega) (by rw [hlen]; exact hx)
 refine ⟨a, hp.symm.trans ?_⟩
 rw [hlen, hlast] at b
 exact b
theorem heap_min {l : List Tm} (hh : Heap l) : ∀ (i : Nat), i < l.length → ¬ tlt (at_ l i) (at_ l 0) := by
 intro i
 induction i using Nat.strongRecOn with
 | _ i ih =>
  intro hi
  by_cases h0 : 0 < i
  ·have h1 := par_lt h0
   exact tle_trans (ih (par i) h1 (by omega)) (hh i h0 hi)
  ·have : i = 0 := by omega
   subst this; exact tle_refl _
theorem heap_min_mem {l : List Tm} (hh : Heap l) {t : Tm} (ht : t ∈ l) : ¬ tlt t (at_ l 0) := by
 obtain ⟨i, hi, rfl⟩ := List.getElem_of_mem ht
 rw [← at_get l i hi]
 exact heap_min hh i hi
theorem wcan_most (s : WS) (n : Int) : (wcan s n).1.most = s.most := by unfold wcan; split <;> rfl
theorem wcan_last (s : WS) (n : Int) : (wcan s n).1.last = s.last := by unfold wcan; split <;> rfl
theorem wdue_most (s : WS) (n : Int) : (wdue s n).most = s.most := by unfold wdue; split <;> rfl
theorem wdue_last (s : WS) (n : Int) : (wdue s n).last = s.last := by unfold wdue; split <;> rfl
structure WI (s : WS) : Prop where
 ok : WOk s
 hp : Heap s.h.ts
 dl : ∀ t ∈ s.h.ts, 0 ≤ t.deadline ∧ t.deadline ≤ 1099511627776
theorem WI.new (x : Int) (h : 1 ≤ x) (h2 : x ≤ 65536) : WI ⟨x, 0, hp0⟩ :=
 ⟨⟨⟨by simp [hp0], by simp [hp0, keys], by simp [hp0, toks], fun i hi => by simp [hp0] at hi, fun k hk => by simp [hp0, keys] at hk⟩, ⟨h, h2⟩, Int.le_refl _, by simp [hp0]; omega, fun t ht => by simp [hp0] at ht⟩, fun j _ hj => by simp [hp0] at hj, fun t ht => by simp [hp0] at ht⟩
theorem WI.add {s : WS} (h : WI s) (n : Int) (j : Job) : WI (wadd s n j) ∧ (¬ s.most ≤ (s.h.ts.length : Int) → (wadd s n j).h.ts.Perm (⟨s.last + 1, clip n 0 1099511627776, j⟩ :: s.h.ts)) := by
 by_cases c : s.most ≤ (s.h.ts.length : Int)
 ·have e : wadd s n j = s := if_pos c
  rw [e]; exact ⟨h, fun h9 => absurd c h9⟩
 ·have e : wadd s n j = ⟨s.most, s.last + 1, hPush s.h ⟨s.last + 1, clip n 0 1099511627776, j⟩⟩ := if_neg c
  rw [e]
  have hm := h.ok.hm
  have hl := h.ok.hl
  obtain ⟨a, b⟩ := hPush_heap ⟨s.last + 1, clip n 0 1099511627776, j⟩ h.hp
  obtain ⟨k1, k2⟩ := hPush_ok h.ok.hk (t := ⟨s.last + 1, clip n 0 1099511627776, j⟩) h.ok.fresh (by omega)
  refine ⟨⟨⟨k1, hm, by dsimp only; omega, by dsimp only; rw [k2]; omega, fun t ht => ?_⟩, a, fun t ht => ?_⟩, fun _ => b⟩
  ·rcases List.mem_cons.1 (b.mem_iff.1 ht) with rfl | h1
   ·dsimp only; omega
   ·have := h.ok.tk t h1; dsimp only; omega
  ·rcases List.mem_cons.1 (b.mem_iff.1 ht) with rfl | h1
   ·simp only [clip]; omega
   ·exact h.dl t h1
theorem WI.sub {s : WS} (h : WI s) {h' : HP} (hk : HPok h') (hp : Heap h'.ts) {t0 : Tm} (hq : s.h.ts.Perm (t0 :: h'.ts)) : WI ⟨s.most, s.last, h'⟩ := by
 have hl := hq.length_eq
 rw [List.length_cons] at hl
 have hc := h.ok.hc
 exact ⟨⟨hk, h.ok.hm, h.ok.hl, by dsimp only; omega, fun t ht => h.ok.tk t (hq.mem_iff.2 (List.mem_cons_of_mem _ ht))⟩, hp, fun t ht => h.dl t (hq.mem_iff.2 (List.mem_cons_of_mem _ ht))⟩
theorem WI.can {s : WS} (h : WI s) (n : Int) : WI (wcan s n).1 ∧ ((wcan s n).2 = false → (wcan s n).1 = s ∧ n ∉ toks s.h) ∧ ((wcan s n).2 = true → ∃ t, t.token = n ∧ s.h.ts.Perm (t :: (wcan s n).1.h.ts)) := by
 unfold wcan
 cases hi : tidx s.h.ts n with
 | some i =>
  obtain ⟨hl, hn⟩ := tidx_some hi
  obtain ⟨a, b⟩ := hRem_heap hl h.hp
  have hk := (hRem0_ok h.ok.hk hl)
  refine ⟨h.sub (hk.1.cut (by omega)) a b, fun h9 => by simp at h9, fun _ => ⟨_, ?_, b⟩⟩
  rw [at_get _ _ hl]; exact hn
 | none => exact ⟨h, fun _ => ⟨rfl, tidx_none hi⟩, fun h9 => by simp at h9⟩
theorem WI.due {s : WS} (h : WI s) (n : Int) : WI (wdue s n) ∧ (wduec s n = false → wdue s n = s) ∧ (wduec s n = true → 0 < s.h.ts.length ∧ s.h.ts.Perm (wduet s n :: (wdue s n).h.ts) ∧ (wduet s n).deadline ≤ n ∧ ∀ t ∈ (wdue s n).h.ts, tlt (wduet s n) t) := by
 cases c : wduec s n with
 | false =>
  have e : wdue s n = s := by unfold wdue; rw [c]; rfl
  rw [e]; exact ⟨h, fun _ => rfl, fun h9 => by simp at h9⟩
 | true =>
  have e : wdue s n = ⟨s.most, s.last, hPop s.h⟩ := by unfold wdue; rw [c]; rfl
  have et : wduet s n = at_ s.h.ts 0 := by unfold wduet; rw [c]; rfl
  have c' : 0 < s.h.ts.length ∧ (at_ s.h.ts 0).deadline ≤ n := by simpa [wduec] using c
  obtain ⟨a, b⟩ := hPop_heap c'.1 h.hp
  have hk := (hPop0_ok h.ok.hk c'.1)
  rw [e, et]
  refine ⟨h.sub (hk.1.cut (by omega)) a b, fun h9 => by simp at h9, fun _ => ⟨c'.1, b, c'.2, fun t ht => ?_⟩⟩
  have hm : t ∈ s.h.ts := b.mem_iff.2 (List.mem_cons_of_mem _ ht)
  have h1 := heap_min_mem h.hp hm
  have hnd : ((at_ s.h.ts 0 :: (hPop s.h).ts).map (·.token)).Nodup := (b.map _).nodup_iff.1 h.ok.hk.tnd
  rw [List.map_cons, List.nodup_cons] at hnd
  have hne : t.token ≠ (at_ s.h.ts 0).token := fun h9 => hnd.1 (h9 ▸ List.mem_map_of_mem ht)
  unfold tlt at *
  omega
theorem wduec_far {s : WS} (h : WI s) (hc : wduec s 1099511627776 = false) : s.h.ts = [] := by
 by_cases h0 : 0 < s.h.ts.length
 ·exfalso
  have h1 : s.h.ts[0] ∈ s.h.ts := List.getElem_mem h0
  have := h.dl _ h1
  rw [← at_get _ _ h0] at this
  unfold wduec at hc
  rw [decide_eq_false_iff_not] at hc
  exact hc ⟨h0, this.2⟩
 ·exact List.length_eq_zero_iff.1 (by omega)
def ostep (s : WS) (a : WAct) : WS := if a.kind = 1 then (wcan s a.n).1 else wadd s a.n a.job
structure OS where
 k : Nat
 s : WS
 added : Int
 gone : Int
structure OI (k : Nat) (s : WS) (added gone : Int) : Prop where
 i : WI s
 most : s.most = 100
 last : s.last ≤ k
 len : (s.h.ts.length : Int) = added - gone
 g : 0 ≤ gone
 a : 0 ≤ added ∧ added ≤ k
theorem OI.new : OI 0 ⟨clip 100 1 65536, 0, hp0⟩ 0 0 := ⟨WI.new _ (by decide) (by decide), by decide, by simp, by simp [hp0], by simp, by simp⟩
theorem OI.add {k : Nat} {s : WS} {added gone : Int} (h : OI k s added gone) (hk : k < 80) (n : Int) (j : Job) : OI (k + 1) (wadd s n j) (added + 1) gone := by
 obtain ⟨a, b⟩ := h.i.add n j
 have hl := h.len; have hm := h.most; have hg := h.g; have ha := h.a; have hla := h.last
 have c : ¬ s.most ≤ (s.h.ts.length : Int) := by omega
 have e := (b c).length_eq
 have e2 : wadd s n j = ⟨s.most, s.last + 1, hPush s.h ⟨s.last + 1, clip n 0 1099511627776, j⟩⟩ := if_neg c
 refine ⟨a, by rw [e2]; exact hm, by rw [e2]; dsimp only; omega, ?_, hg, by omega⟩
 rw [e, List.length_cons]; omega
theorem OI.can1 {k : Nat} {s : WS} {added gone : Int} (h : OI k s added gone) (n : Int) (c : (wcan s n).2 = true) : OI (k + 1) (wcan s n).1 added (gone + 1) := by
 obtain ⟨a, _, b⟩ := h.i.can n
 obtain ⟨t, _, hp⟩ := b c
 have e := hp.length_eq
 rw [List.length_cons] at e
 have hl := h.len; have hm := h.most; have hg := h.g; have ha := h.a; have hla := h.last
 exact ⟨a, by rw [wcan_most]; exact hm, by rw [wcan_last]; omega, by omega, by omega, by omega⟩
theorem OI.can0 {k : Nat} {s : WS} {added gone : Int} (h : OI k s added gone) (n : Int) (c : (wcan s n).2 = false) : OI (k + 1) (wcan s n).1 added gone := by
 obtain ⟨a, b, _⟩ := h.i.can n
 have hl := h.len; have hm := h.most; have hg := h.g; have ha := h.a; have hla := h.last
 rw [(b c).1]
 exact ⟨h.i, hm, by omega, hl, hg, by omega⟩
structure O2 where
 s : WS
 last : Tm
 n : Nat
structure OJ (s : WS) (last : Tm) (n : Nat) (added gone : Int) : Prop where
 i : WI s
 len : (s.h.ts.length : Int) + n = added - gone
 gt : ∀ t ∈ s.h.ts, tlt last t
theorem OI.out {k : Nat} {s : WS} {added gone : Int} (h : OI k s added gone) : OJ s ⟨0, -1, ⟨0, 0⟩⟩ 0 added gone :=
 ⟨h.i, by have := h.len; omega, fun t ht => by have := h.i.dl t ht; unfold tlt; dsimp only; omega⟩
theorem OJ.next {s : WS} {last : Tm} {n : Nat} {added gone : Int} (h : OJ s last n added gone) (d : Int) (c : wduec s d = true) : OJ (wdue s d) (wduet s d) (n + 1) added gone ∧ tlt last (wduet s d) ∧ (wdue s d).h.ts.length < s.h.ts.length := by
 obtain ⟨a, _, b⟩ := h.i.due d
 obtain ⟨h0, hp, hd, hg⟩ := b c
 have e := hp.length_eq
 rw [List.length_cons] at e
 have hl := h.len
 exact ⟨⟨a, by push_cast; omega, hg⟩, h.gt _ (hp.mem_iff.2 List.mem_cons_self), by omega⟩
theorem aw_s1 : wadd ⟨clip 9 1 65536, 0, hp0⟩ 5 ⟨1, 0⟩ = ⟨9, 1, ⟨[⟨1, 5, ⟨1, 0⟩⟩], 1, [(1, 0, 0)]⟩⟩ := by
 have c : clip 9 1 65536 = 9 := by decide
 have c2 : clip 5 0 1099511627776 = 5 := by decide
 simp only [wadd, c, c2, hPush, hpush, hp0]
 rw [if_neg (by simp), hup_no (by simp)]
 rfl
theorem aw_s2 : wadd ⟨9, 1, ⟨[⟨1, 5, ⟨1, 0⟩⟩], 1, [(1, 0, 0)]⟩⟩ 3 ⟨2, 7⟩ = ⟨9, 2, ⟨[⟨2, 3, ⟨2, 7⟩⟩, ⟨1, 5, ⟨1, 0⟩⟩], 2, [(1, 0, 1), (2, 1, 0)]⟩⟩ := by
 have c2 : clip 3 0 1099511627776 = 3 := by decide
 simp only [wadd, c2, hPush, hpush]
 rw [if_neg (by simp), hup_yes (by simp) (by decide), hup_no (by simp)]
 rfl
theorem aw_s3 : wdue ⟨9, 2, ⟨[⟨2, 3, ⟨2, 7⟩⟩, ⟨1, 5, ⟨1, 0⟩⟩], 2, [(1, 0, 1), (2, 1, 0)]⟩⟩ 4 = ⟨9, 2, ⟨[⟨1, 5, ⟨1, 0⟩⟩], 2, [(1, 0, 0)]⟩⟩ := by
 have c : wduec ⟨9, 2, ⟨[⟨2, 3, ⟨2, 7⟩⟩, ⟨1, 5, ⟨1, 0⟩⟩], 2, [(1, 0, 1), (2, 1, 0)]⟩⟩ 4 = true := by decide
 unfold wdue
 rw [c]
 simp only [if_true, hPop, hPop0]
 rw [hdown_no (by simp)]
 rfl
theorem aw_c2 : wduec ⟨9, 2, ⟨[⟨2, 3, ⟨2, 7⟩⟩, ⟨1, 5, ⟨1, 0⟩⟩], 2, [(1, 0, 1), (2, 1, 0)]⟩⟩ 4 = true := by decide
theorem aw_t2 : wduet ⟨9, 2, ⟨[⟨2, 3, ⟨2, 7⟩⟩, ⟨1, 5, ⟨1, 0⟩⟩], 2, [(1, 0, 1), (2, 1, 0)]⟩⟩ 4 = ⟨2, 3, ⟨2, 7⟩⟩ := by unfold wduet; rw [aw_c2]; rfl
theorem aw_c3 : wduec ⟨9, 2, ⟨[⟨1, 5, ⟨1, 0⟩⟩], 2, [(1, 0, 0)]⟩⟩ 4 = false := by decide
theorem aw_t3 : wduet ⟨9, 2, ⟨[⟨1, 5, ⟨1, 0⟩⟩], 2, [(1, 0, 0)]⟩⟩ 4 = tm0 := by unfold wduet; rw [aw_c3]; rfl
theorem aw_s4 : wdue ⟨9, 2, ⟨[⟨1, 5, ⟨1, 0⟩⟩], 2, [(1, 0, 0)]⟩⟩ 4 = ⟨9, 2, ⟨[⟨1, 5, ⟨1, 0⟩⟩], 2, [(1, 0, 0)]⟩⟩ := by unfold wdue; rw [aw_c3]; rfl
end Go.Proofs.Ytnlokhfcgaikiaa
