/- Walks: contracts of functions. Written by a program of ours out of annotations. -/
import Derived.Test.YthieajadepfeoaaWkFrames2
namespace Go.Proofs.Ythieajadepfeoaa
open Go Go.Vm
set_option maxRecDepth 20000
set_option linter.all false
set_option maxHeartbeats 8000000

/-- What the counting of FramesSecond knows: A: when each token was asked; G: which are gone. -/
structure SInv (k : Nat) (q : Q2) (A : List Int) (G : List Bool) (now came : Int) : Prop where
  a1 : 1 ≤ A.length
  a2 : A.length ≤ k + 1
  last : q.last = (A.length : Int) - 1
  most : q.most = 200
  gl : G.length = 101
  h3 : ∀ w ∈ q.w0, w.left = 1
  h4 : ∀ w ∈ q.w1, w.left = 2
  nw : 0 ≤ now ∧ now ≤ k
  ask : ∀ (t : Nat) (a : Int), A[t]? = some a → 0 ≤ a ∧ a ≤ now
  m0 : ∀ w ∈ q.w0, ∃ t : Nat, w.token = t ∧ 1 ≤ t ∧ A[t]? = some (now - 1) ∧ G[t]? = some false
  m1 : ∀ w ∈ q.w1, ∃ t : Nat, w.token = t ∧ 1 ≤ t ∧ A[t]? = some now ∧ G[t]? = some false
  c0 : ∀ t : Nat, 1 ≤ t → A[t]? = some (now - 1) → G[t]? = some false → (t : Int) ∈ q.w0.map Wt.token
  c1 : ∀ t : Nat, 1 ≤ t → A[t]? = some now → G[t]? = some false → (t : Int) ∈ q.w1.map Wt.token
  old : ∀ (t : Nat) (a : Int), 1 ≤ t → A[t]? = some a → a ≤ now - 2 → G[t]? = some true
  new : ∀ t : Nat, A.length ≤ t → t < 101 → G[t]? = some false
  nd : ((q.w0 ++ q.w1).map Wt.token).Nodup
  cnt : qlen q = (A.length : Int) - 1 - came
  cr : 0 ≤ came ∧ came ≤ k
theorem SInv.ok {k : Nat} {q : Q2} {A : List Int} {G : List Bool} {now came : Int} (h : SInv k q A G now came) (hk : k ≤ 1000) : Q2ok q := by
  have h1 := h.cnt
  have h2 := h.a2
  have h3 := h.cr
  have h4 := h.last
  have h5 := h.a1
  unfold qlen at h1
  exact ⟨by omega, by omega, by omega, h.h3, h.h4⟩
theorem mem_len {α : Type} {l : List α} {t : Nat} {a : α} (h : l[t]? = some a) : t < l.length := (List.getElem?_eq_some_iff.1 h).1
theorem SInv.tok {k : Nat} {q : Q2} {A : List Int} {G : List Bool} {now came : Int} (h : SInv k q A G now came) {n : Int} (hn : n ∈ (q.w0 ++ q.w1).map Wt.token) : ∃ t : Nat, n = t ∧ 1 ≤ t ∧ t < A.length ∧ G[t]? = some false ∧ (A[t]? = some now ∨ A[t]? = some (now - 1)) := by
  obtain ⟨w, hw, rfl⟩ := List.mem_map.1 hn
  rcases List.mem_append.1 hw with hw | hw
  · obtain ⟨t, e, h1, h2, h3⟩ := h.m0 w hw
    exact ⟨t, e, h1, mem_len h2, h3, .inr h2⟩
  · obtain ⟨t, e, h1, h2, h3⟩ := h.m1 w hw
    exact ⟨t, e, h1, mem_len h2, h3, .inl h2⟩
theorem SInv.there {k : Nat} {q : Q2} {A : List Int} {G : List Bool} {now came : Int} (h : SInv k q A G now came) {t : Nat} {a : Int} (h1 : 1 ≤ t) (h2 : A[t]? = some a) (h3 : G[t]? = some false) (h4 : now - 2 < a) : (t : Int) ∈ (q.w0 ++ q.w1).map Wt.token := by
  rw [List.map_append]
  have h5 := (h.ask t a h2).2
  by_cases e : a = now
  · subst e; exact List.mem_append_right _ (h.c1 t h1 h2 h3)
  · have e2 : a = now - 1 := by omega
    subst e2; exact List.mem_append_left _ (h.c0 t h1 h2 h3)
theorem sinv_ask {k : Nat} {q : Q2} {A : List Int} {G : List Bool} {now came : Int} (h : SInv k q A G now came) (hk : k < 90) (j : Job) :
    SInv (k + 1) ⟨q.most, q.last + 1, q.w0, q.w1 ++ [⟨q.last + 1, 2, j⟩]⟩ (A ++ [now]) G now came ∧ qask q j = (⟨q.most, q.last + 1, q.w0, q.w1 ++ [⟨q.last + 1, 2, j⟩]⟩, q.last + 1, 0) := by
  have hc := h.cnt
  have hcr := h.cr
  have ha2 := h.a2
  have hm := h.most
  have hl := h.last
  refine ⟨⟨by simp, by simp; omega, by simp; omega, hm, h.gl, h.h3, ?_, by have := h.nw; omega, ?_, ?_, ?_, ?_, ?_, ?_, ?_, ?_, ?_, by omega⟩, ?_⟩
  · intro w hw
    rcases List.mem_append.1 hw with hw | hw
    · exact h.h4 w hw
    · simp at hw; subst hw; rfl
  · intro t a ht
    rw [List.getElem?_append] at ht
    split at ht
    · exact h.ask t a ht
    · have := List.mem_of_getElem? ht
      simp at this; subst this; have := h.nw; omega
  · intro w hw
    obtain ⟨t, e, h1, h2, h3⟩ := h.m0 w hw
    exact ⟨t, e, h1, by rw [List.getElem?_append_left (mem_len h2)]; exact h2, h3⟩
  · intro w hw
    rcases List.mem_append.1 hw with hw | hw
    · obtain ⟨t, e, h1, h2, h3⟩ := h.m1 w hw
      exact ⟨t, e, h1, by rw [List.getElem?_append_left (mem_len h2)]; exact h2, h3⟩
    · simp only [List.mem_singleton] at hw; subst hw
      exact ⟨A.length, by dsimp only; omega, h.a1, by simp, h.new _ (Nat.le_refl _) (by omega)⟩
  · intro t h1 h2 h3
    rw [List.getElem?_append] at h2
    split at h2
    · exact h.c0 t h1 h2 h3
    · have := List.mem_of_getElem? h2
      simp at this
      omega
  · intro t h1 h2 h3
    rw [List.map_append]
    rw [List.getElem?_append] at h2
    split at h2
    · exact List.mem_append_left _ (h.c1 t h1 h2 h3)
    · rename_i hge
      have hlt := mem_len h2
      simp at hlt
      have : t = A.length := by omega
      subst this
      refine List.mem_append_right _ ?_
      simp; omega
  · intro t a h1 h2 h3
    rw [List.getElem?_append] at h2
    split at h2
    · exact h.old t a h1 h2 h3
    · have := List.mem_of_getElem? h2
      simp at this; omega
  · intro t h1 h2
    simp at h1
    exact h.new t (by omega) h2
  · dsimp only
    rw [← List.append_assoc, List.map_append]
    refine List.nodup_append.2 ⟨h.nd, by simp, ?_⟩
    intro a ha b hb
    simp at hb
    subst hb
    obtain ⟨t, e, _, h2, _⟩ := h.tok ha
    omega
  · unfold qlen at hc ⊢
    simp; omega
  · have hlt : ¬ q.most ≤ qlen q := by omega
    unfold qask
    rw [if_neg hlt]
theorem qdel_not {n : Int} {l : List Wt} (h : n ∉ l.map Wt.token) : qdel n l = l := by
  unfold qdel
  rw [List.filter_eq_self]
  intro w hw
  have : w.token ≠ n := fun e => h (List.mem_map.2 ⟨w, hw, e⟩)
  simp [this]
theorem qdel_nodup {n : Int} : ∀ {l : List Wt}, (l.map Wt.token).Nodup → n ∈ l.map Wt.token → (qdel n l).length + 1 = l.length
  | [], _, h => by simp at h
  | w :: l, hd, h => by
    simp only [List.map_cons, List.nodup_cons] at hd
    by_cases e : w.token = n
    · have hn : n ∉ l.map Wt.token := e ▸ hd.1
      have := qdel_not hn
      unfold qdel at this ⊢
      rw [List.filter_cons]
      simp [e, this]
    · simp only [List.map_cons, List.mem_cons] at h
      have := qdel_nodup hd.2 (h.resolve_left fun h => e h.symm)
      unfold qdel at this ⊢
      rw [List.filter_cons]
      simp [e, this]
theorem qcan_two (q : Q2) (n : Int) : qcan q n 2 = ⟨q.most, q.last, qdel n q.w0, qdel n q.w1⟩ := by simp [qcan]
theorem qcan_len (q : Q2) (n : Int) : qlen (qcan q n 2) = ((qdel n (q.w0 ++ q.w1)).length : Int) := by
  rw [qcan_two, qdel_app, List.length_append]; rfl
theorem sinv_no {k : Nat} {q : Q2} {A : List Int} {G : List Bool} {now came : Int} (h : SInv k q A G now came) {n : Int} (hn : n ∉ (q.w0 ++ q.w1).map Wt.token) : SInv (k + 1) (qcan q n 2) A G now came ∧ ¬ (qlen (qcan q n 2) < qlen q) := by
  have e0 : n ∉ q.w0.map Wt.token := fun e => hn (by rw [List.map_append]; exact List.mem_append_left _ e)
  have e1 : n ∉ q.w1.map Wt.token := fun e => hn (by rw [List.map_append]; exact List.mem_append_right _ e)
  have e : qcan q n 2 = q := by rw [qcan_two, qdel_not e0, qdel_not e1]
  rw [e]
  obtain ⟨a1, a2, b, c, d, e, f, g, i, j, l, m, o, p, r, s, t, u⟩ := h
  exact ⟨⟨a1, by omega, b, c, d, e, f, by omega, i, j, l, m, o, p, r, s, t, by omega⟩, by omega⟩
theorem sinv_yes {k : Nat} {q : Q2} {A : List Int} {G : List Bool} {now came : Int} (h : SInv k q A G now came) (hk : k < 90) {t : Nat} (hn : (t : Int) ∈ (q.w0 ++ q.w1).map Wt.token) : SInv (k + 1) (qcan q t 2) A (G.set t true) now (came + 1) ∧ qlen (qcan q t 2) < qlen q := by
  have hlen := qdel_nodup h.nd hn
  have hq : qlen (qcan q t 2) + 1 = qlen q := by
    rw [qcan_len]
    have : qlen q = ((q.w0 ++ q.w1).length : Int) := by rw [List.length_append]; rfl
    omega
  obtain ⟨t', e, ht1, ht2, ht3, ht4⟩ := h.tok hn
  have : t' = t := by omega
  subst this
  have ha2 := h.a2
  refine ⟨⟨h.a1, by omega, by rw [qcan_two]; exact h.last, by rw [qcan_two]; exact h.most, by rw [List.length_set]; exact h.gl, ?_, ?_, by have := h.nw; omega, h.ask, ?_, ?_, ?_, ?_, ?_, ?_, ?_, by have := h.cnt; omega, by have := h.cr; omega⟩, by omega⟩
  all_goals (try rw [qcan_two])
  · exact fun w hw => h.h3 w (List.mem_filter.1 hw).1
  · exact fun w hw => h.h4 w (List.mem_filter.1 hw).1
  · intro w hw
    obtain ⟨hw1, hw2⟩ := List.mem_filter.1 hw
    obtain ⟨u, e, h1, h2, h3⟩ := h.m0 w hw1
    have hne : t' ≠ u := by rintro rfl; simp [e] at hw2
    exact ⟨u, e, h1, h2, by rw [List.getElem?_set_ne hne]; exact h3⟩
  · intro w hw
    obtain ⟨hw1, hw2⟩ := List.mem_filter.1 hw
    obtain ⟨u, e, h1, h2, h3⟩ := h.m1 w hw1
    have hne : t' ≠ u := by rintro rfl; simp [e] at hw2
    exact ⟨u, e, h1, h2, by rw [List.getElem?_set_ne hne]; exact h3⟩
  · intro u h1 h2 h3
    have hne : t' ≠ u := by
      rintro rfl
      rw [List.getElem?_set_self (mem_len ht3)] at h3; simp at h3
    rw [List.getElem?_set_ne hne] at h3
    obtain ⟨w, hw, e⟩ := List.mem_map.1 (h.c0 u h1 h2 h3)
    exact List.mem_map.2 ⟨w, List.mem_filter.2 ⟨hw, by simp [e]; omega⟩, e⟩
  · intro u h1 h2 h3
    have hne : t' ≠ u := by
      rintro rfl
      rw [List.getElem?_set_self (mem_len ht3)] at h3; simp at h3
    rw [List.getElem?_set_ne hne] at h3
    obtain ⟨w, hw, e⟩ := List.mem_map.1 (h.c1 u h1 h2 h3)
    exact List.mem_map.2 ⟨w, List.mem_filter.2 ⟨hw, by simp [e]; omega⟩, e⟩
  · intro u a h1 h2 h3
    have := h.old u a h1 h2 h3
    by_cases hne : t' = u
    · subst hne; rw [List.getElem?_set_self (mem_len ht3)]
    · rw [List.getElem?_set_ne hne]; exact this
  · intro u h1 h2
    rw [List.getElem?_set_ne (by omega)]; exact h.new u h1 h2
  · have hsub : (qdel (t' : Int) q.w0 ++ qdel (t' : Int) q.w1).Sublist (q.w0 ++ q.w1) := List.Sublist.append List.filter_sublist List.filter_sublist
    exact (hsub.map _).nodup h.nd
def mark (G : List Bool) (l : List Wt) : List Bool := l.foldl (fun G w => G.set w.token.toNat true) G
theorem mark_len (G : List Bool) : ∀ (l : List Wt), (mark G l).length = G.length := by
  intro l
  induction l generalizing G with
  | nil => rfl
  | cons w l ih => show (mark (G.set w.token.toNat true) l).length = _; rw [ih, List.length_set]
theorem mark_snoc (G : List Bool) (l : List Wt) (w : Wt) : mark G (l ++ [w]) = (mark G l).set w.token.toNat true := by
  unfold mark; rw [List.foldl_append]; rfl
theorem mark_take (G : List Bool) (l : List Wt) (i : Nat) (h : i < l.length) : mark G (l.take (i + 1)) = (mark G (l.take i)).set l[i].token.toNat true := by
  rw [take_snoc l i h, mark_snoc]
theorem mark_get (G : List Bool) (l : List Wt) (hl : ∀ w ∈ l, 0 ≤ w.token) (t : Nat) : (mark G l)[t]? = if (t : Int) ∈ l.map Wt.token then (G[t]?).map fun _ => true else G[t]? := by
  induction l using snoc_ind with
  | h0 => simp [mark]
  | h1 l w ih =>
    have ih := ih fun w hw => hl w (List.mem_append_left _ hw)
    have hw := hl w (List.mem_append_right _ (by simp))
    rw [mark_snoc, List.getElem?_set, ih, mark_len]
    by_cases e : w.token.toNat = t
    · have e2 : w.token = t := by omega
      rw [if_pos e]
      have : (t : Int) ∈ (l ++ [w]).map Wt.token := by simp [e2]
      rw [if_pos this]
      by_cases hlt : t < G.length
      · rw [if_pos (by omega), List.getElem?_eq_getElem hlt]; rfl
      · rw [if_neg (by omega), List.getElem?_eq_none (by omega)]; rfl
    · rw [if_neg e]
      have e2 : ¬ w.token = t := by omega
      have : ((t : Int) ∈ (l ++ [w]).map Wt.token) ↔ (t : Int) ∈ l.map Wt.token := by
        simp only [List.map_append, List.mem_append, List.map_cons, List.map_nil, List.mem_singleton]
        constructor
        · rintro (h | h)
          · exact h
          · exact absurd h.symm e2
        · exact .inl
      simp only [this]
theorem SInv.pos {k : Nat} {q : Q2} {A : List Int} {G : List Bool} {now came : Int} (h : SInv k q A G now came) : ∀ w ∈ q.w0, 0 ≤ w.token := fun w hw => by
  obtain ⟨t, e, _⟩ := h.m0 w hw
  omega
theorem SInv.due {k : Nat} {q : Q2} {A : List Int} {G : List Bool} {now came : Int} (h : SInv k q A G now came) (i : Nat) (hi : i < q.w0.length) : ∃ t : Nat, q.w0[i].token = t ∧ 1 ≤ t ∧ A[t]? = some (now - 1) ∧ (mark G (q.w0.take i))[t]? = some false := by
  obtain ⟨t, e, h1, h2, h3⟩ := h.m0 _ (List.getElem_mem hi)
  refine ⟨t, e, h1, h2, ?_⟩
  rw [mark_get _ _ fun w hw => h.pos w (List.mem_of_mem_take hw)]
  rw [if_neg, h3]
  intro hm
  obtain ⟨w, hw, e2⟩ := List.mem_map.1 hm
  obtain ⟨j, hj, rfl⟩ := List.getElem_of_mem hw
  rw [List.length_take] at hj
  rw [List.getElem_take] at e2
  have hnd : (q.w0.map Wt.token).Nodup := by
    have := h.nd; rw [List.map_append] at this; exact (List.nodup_append.1 this).1
  exact (List.pairwise_iff_getElem.1 hnd) j i (by simp; omega) (by simpa using hi) (by omega) (by simp [e2, e])
theorem SInv.allOld {k : Nat} {q : Q2} {A : List Int} {G : List Bool} {now came : Int} (h : SInv k q A G now came) (hk : k < 91) {t : Nat} {a : Int} (h1 : 1 ≤ t) (h2 : A[t]? = some a) (h3 : a ≤ now - 1) : (mark G q.w0)[t]? = some true := by
  rw [mark_get _ _ h.pos]
  have hg : t < G.length := by rw [h.gl]; have := mem_len h2; have := h.a2; omega
  by_cases e : a = now - 1
  · subst e
    cases hgt : G[t]? with
    | none => rw [List.getElem?_eq_none_iff] at hgt; omega
    | some b =>
      cases b with
      | true => split <;> rfl
      | false => rw [if_pos (h.c0 t h1 h2 hgt)]; rfl
  · rw [h.old t a h1 h2 (by omega)]
    split <;> rfl
theorem sinv_frame {k : Nat} {q : Q2} {A : List Int} {G : List Bool} {now came : Int} (h : SInv k q A G now came) (hk : k < 90) : SInv (k + 1) (qnext q) A (mark G q.w0) (now + 1) (came + q.w0.length) := by
  have ha2 := h.a2
  have hdj : ∀ t : Nat, A[t]? = some now → (t : Int) ∉ q.w0.map Wt.token := by
    intro t h2 hm
    obtain ⟨w, hw, e⟩ := List.mem_map.1 hm
    obtain ⟨u, e2, _, h3, _⟩ := h.m0 w hw
    have : u = t := by omega
    subst this
    rw [h2] at h3
    simp at h3; omega
  refine ⟨h.a1, by omega, h.last, h.most, by rw [mark_len]; exact h.gl, ?_, by simp [qnext], by have := h.nw; omega, fun t a ht => by have := h.ask t a ht; omega, ?_, by simp [qnext], ?_, ?_, ?_, ?_, ?_, ?_, ?_⟩
  · intro w hw
    obtain ⟨u, hu, rfl⟩ := List.mem_map.1 hw
    have := h.h4 u hu
    simp [wdec]; omega
  · intro w hw
    obtain ⟨u, hu, rfl⟩ := List.mem_map.1 hw
    obtain ⟨t, e, h1, h2, h3⟩ := h.m1 u hu
    refine ⟨t, e, h1, by rw [h2]; congr 1; omega, ?_⟩
    rw [mark_get _ _ h.pos, if_neg (hdj t h2), h3]
  · intro t h1 h2 h3
    have h2' : A[t]? = some now := by rw [h2]; congr 1; omega
    rw [mark_get _ _ h.pos, if_neg (hdj t h2')] at h3
    have := h.c1 t h1 h2' h3
    simpa [qnext, wdec, Function.comp_def] using this
  · intro t h1 h2 h3
    have := (h.ask t _ h2).2
    omega
  · intro t a h1 h2 h3
    exact h.allOld (by omega) h1 h2 (by omega)
  · intro t h1 h2
    rw [mark_get _ _ h.pos, if_neg, h.new t h1 h2]
    intro hm
    obtain ⟨w, hw, e⟩ := List.mem_map.1 hm
    obtain ⟨u, e2, _, h3, _⟩ := h.m0 w hw
    have := mem_len h3
    omega
  · have := h.nd
    rw [List.map_append] at this
    have := (List.nodup_append.1 this).2.1
    simpa [qnext, wdec, Function.comp_def] using this
  · have := h.cnt
    unfold qlen at this ⊢
    simp [qnext]; omega
  · have := h.cr
    have := h.cnt
    unfold qlen at *
    omega
theorem sinv_new : SInv 0 ⟨200, 0, [], []⟩ [0] (List.replicate 101 false) 0 0 := by
  refine ⟨by simp, by simp, by simp, rfl, by simp, by simp, by simp, by simp, ?_, by simp, by simp, ?_, ?_, ?_, ?_, by simp, by simp [qlen], by simp⟩
  · intro t a h
    have := List.mem_of_getElem? h
    simp at this; omega
  all_goals first | (intro t h1 h2; have := mem_len h2; simp at this; omega) | (intro t a h1 h2; have := mem_len h2; simp at this; omega) | skip
  intro t h1 h2
  rw [List.getElem?_replicate, if_pos h2]
theorem can_b {k : Nat} {q : Q2} {A : List Int} {G : List Bool} {now came : Int} (h : SInv k q A G now came) {n : Int} (hn : ¬ (0 < n ∧ n < A.length ∧ G[n.toNat]? = some false)) : SInv (k + 1) (qcan q n 2) A G now came ∧ ¬ (qlen (qcan q n 2) < qlen q) := by
  refine sinv_no h fun hm => hn ?_
  obtain ⟨t, rfl, h1, h2, h3, _⟩ := h.tok hm
  exact ⟨by omega, by omega, by simpa using h3⟩
theorem can_a {k : Nat} {q : Q2} {A : List Int} {G : List Bool} {now came : Int} (h : SInv k q A G now came) (hk : k < 90) {n : Int} (g9 : 0 < n) {a : Int} (ha : A[n.toNat]? = some a) (hG : G[n.toNat]? = some false) :
    (qlen (qcan q n 2) < qlen q ↔ now - 2 < a) ∧ (now - 2 < a → SInv (k + 1) (qcan q n 2) A (G.set n.toNat true) now (came + 1)) ∧ (a ≤ now - 2 → SInv (k + 1) (qcan q n 2) A G now came) := by
  obtain ⟨t, rfl⟩ : ∃ t : Nat, n = t := ⟨n.toNat, by omega⟩
  simp only [Int.toNat_natCast] at *
  by_cases hc : now - 2 < a
  · have hm := h.there (by omega) ha hG hc
    obtain ⟨h1, h2⟩ := sinv_yes h hk hm
    exact ⟨⟨fun _ => hc, fun _ => h2⟩, fun _ => h1, fun h => by omega⟩
  · have hm : (t : Int) ∉ (q.w0 ++ q.w1).map Wt.token := by
      intro hm
      obtain ⟨u, e, h1, h2, h3, h4⟩ := h.tok hm
      have : u = t := by omega
      subst this
      rcases h4 with h4 | h4 <;> (rw [ha] at h4; simp at h4; omega)
    obtain ⟨h1, h2⟩ := sinv_no h hm
    exact ⟨⟨fun h => absurd h h2, fun h => absurd h hc⟩, fun h => absurd h hc, fun _ => h1⟩
@[simp high] theorem wdecs_tok (l : List Wt) (j : Nat) (h : j < (wdecs l).length) : ((wdecs l)[j]).token = (l[j]'(by rw [wdecs_len] at h; exact h)).token := by simp [wdecs, wdec]
theorem ask_fst {k : Nat} {q : Q2} {A : List Int} {G : List Bool} {now came : Int} (h : SInv k q A G now came) (hk : k < 90) (j : Job) : (qask q j).2.1 = A.length ∧ (qask q j).2.2 = 0 ∧ SInv (k + 1) (qask q j).1 (A ++ [now]) G now came := by
  obtain ⟨h1, h2⟩ := sinv_ask h hk j
  rw [h2]
  exact ⟨by have := h.last; dsimp only; omega, rfl, h1⟩

structure SSt where
  k : Nat
  q : Q2
  A : List Int
  G : List Bool
  now : Int
  came : Int
@[simp high] theorem zb (n : Nat) : zerosD #[.bool false] n = (List.replicate n false).map D.bool := by
  simp only [zerosD, List.map_replicate]
  induction n with
  | zero => rfl
  | succ n ih => rw [List.replicate_succ, List.flatten_cons, ih]; rfl
@[simp high] theorem gb_ld (G : List Bool) (i : Nat) (h : i < G.length) : ldD false 1 ((G.map D.bool).drop i) = some (D.bool G[i]) := by
  simp [ldD, h]
@[simp high] theorem gb_sp (G : List Bool) (i : Nat) (b : Bool) (h : i < G.length) : splice (G.map D.bool) i [.v (.bool b)] = (G.set i b).map D.bool := by
  have := row_set2 D.bool G [] i b h
  simp only [List.append_nil] at this
  simp only [splice, List.length_singleton, List.append_assoc, List.singleton_append]
  exact this

-- scrim/scrimlaw17.FramesSecond
theorem framesSecond_fn (acts : List FAct) (σ : List (List D)) (hl : acts.length ≤ 9223372036854775807) : Ct Try.prog 4 [.sl false (acts.map d_FAct)] σ (fun r σ' => r = .bool true) := by
  refine fn_start (rs := [.tmp 2]) Try.func4 rfl rfl Try.ntmps4 Try.results4 (by simp) ?_
  simp only [argEnv]
  refine awp_seq ?_
  refine awp_regionA (c := ⟨[4, 118], [], [], [140, 161, 61, 77, 97], [22]⟩) (by simp only [lite_cons, lite_nil] <;> rfl) fun all hall K hK => ?_
  clear hall
  simp (maxSteps := 1000000) (disch := first | omega | assumption) [og_at, og_put, og_at0, og_put0]
  repeat' refine And.intro ?_ ?_
  all_goals first | omega | exact rfl | skip
  refine hK _ ?_
  clear hK K
  clear all
  refine q_then_n ?_
  refine awp_seq ?_
  refine awp_seq ?_
  refine awp_regionA (c := ⟨[4, 118], [], [], [140, 161, 61, 77, 97], [22]⟩) (by simp only [lite_cons, lite_nil] <;> rfl) fun all hall K hK => ?_
  clear hall
  refine vcL_step fun K' hK' => ?_
  simp (maxSteps := 1000000) (disch := first | omega | assumption) [og_at, og_put, og_at0, og_put0]
  refine Ct.mono (Ct.of_le (awake_fn _) (by first | exact leArgs_of rfl | (refine leArgs_of ?_; simp; done) | (refine leArgs_of ?_; simp; rfl) | (simp [leArgs, leArg]; done)) rfl) ?_
  rintro _ _ ⟨hr9, hs9⟩
  subst hr9
  replace hs9 := hs9.symm
  subst hs9
  refine hK' _ ?_
  clear hK' K'
  simp (maxSteps := 1000000) (disch := first | omega | assumption) [og_at, og_put, og_at0, og_put0]
  repeat' refine And.intro ?_ ?_
  all_goals first | omega | exact rfl | skip
  refine hK _ ?_
  clear hK K
  clear all
  refine q_then_n ?_
  refine awp_ifB (by simp <;> rfl) ?_
  refine ⟨fun c1 => ?_, fun c1 => ?_⟩
  · simp at c1
  · try simp at c1
    refine awp_skip ?_
    refine q_then_n ?_
    refine awp_seq ?_
    refine awp_regionA (c := ⟨[4, 118], [], [], [140, 161, 61, 77, 97], [22]⟩) (by simp only [lite_cons, lite_nil] <;> rfl) fun all hall K hK => ?_
    clear hall
    refine vcL_step fun K' hK' => ?_
    simp (maxSteps := 1000000) (disch := first | omega | assumption) [og_at, og_put, og_at0, og_put0]
    refine Ct.mono (Ct.of_le (qnew_fn 200 _) (by first | exact leArgs_of rfl | (refine leArgs_of ?_; simp; done) | (refine leArgs_of ?_; simp; rfl) | (simp [leArgs, leArg]; done)) rfl) ?_
    rintro _ _ ⟨hr9, hs9⟩
    subst hr9
    replace hs9 := hs9.symm
    subst hs9
    rw [show clip 200 1 65536 = 200 by decide]
    refine hK' _ ?_
    clear hK' K'
    simp (maxSteps := 1000000) (disch := first | omega | assumption) [og_at, og_put, og_at0, og_put0]
    repeat' refine And.intro ?_ ?_
    all_goals first | omega | exact rfl | skip
    refine hK _ ?_
    clear hK K
    clear all
    refine q_then_n ?_
    refine awp_seq ?_
    refine awp_seq ?_
    refine awp_regionA (c := ⟨[4, 118], [], [], [140, 161, 61, 77, 97], [22]⟩) (by simp only [lite_cons, lite_nil] <;> rfl) fun all hall K hK => ?_
    clear hall
    simp (maxSteps := 1000000) (disch := first | omega | assumption) [og_at, og_put, og_at0, og_put0]
    repeat' refine And.intro ?_ ?_
    all_goals first | omega | exact rfl | skip
    refine hK _ ?_
    clear hK K
    clear all
    refine q_then_n ?_
    refine awp_ifB (by simp <;> rfl) ?_
    refine ⟨fun c2 => ?_, fun c2 => ?_⟩
    · simp at c2
    · try simp at c2
      refine awp_skip ?_
      refine q_then_n ?_
      refine awp_seq ?_
      refine awp_regionA (c := ⟨[4, 118], [], [], [140, 161, 61, 77, 97], [22]⟩) (by simp only [lite_cons, lite_nil] <;> rfl) fun all hall K hK => ?_
      clear hall
      simp (maxSteps := 1000000) (disch := first | omega | assumption) [og_at, og_put, og_at0, og_put0]
      repeat' refine And.intro ?_ ?_
      all_goals first | omega | exact rfl | skip
      refine hK _ ?_
      clear hK K
      clear all
      refine q_then_n ?_
      refine awp_seq ?_
      refine awp_regionA (c := ⟨[4, 118], [], [], [140, 161, 61, 77, 97], [22]⟩) (by simp only [lite_cons, lite_nil] <;> rfl) fun all hall K hK => ?_
      clear hall
      simp (maxSteps := 1000000) (disch := first | omega | assumption) [og_at, og_put, og_at0, og_put0]
      repeat' refine And.intro ?_ ?_
      all_goals first | omega | exact rfl | skip
      refine hK _ ?_
      clear hK K
      clear all
      refine q_then_n ?_
      refine awp_seq ?_
      refine awp_regionA (c := ⟨[4, 118], [], [], [140, 161, 61, 77, 97], [22]⟩) (by simp only [lite_cons, lite_nil] <;> rfl) fun all hall K hK => ?_
      clear hall
      simp (maxSteps := 1000000) (disch := first | omega | assumption) [og_at, og_put, og_at0, og_put0]
      repeat' refine And.intro ?_ ?_
      all_goals first | omega | exact rfl | skip
      refine hK _ ?_
      clear hK K
      clear all
      refine q_then_n ?_
      refine awp_seq ?_
      refine awp_seq ?_
      refine awp_keep [0, 2, 3, 4, 5, 6, 7] (by simp only [keepL_nil, keepL_cons, envOf_sel, envOf_nil, sel_t, sel_f, Nat.reduceBEq] <;> rfl) ?_
      refine awp_regionA (c := ⟨[4, 118], [], [], [140, 161, 61, 77, 97], [22]⟩) (by simp only [lite_cons, lite_nil] <;> rfl) fun all hall K hK => ?_
      clear hall
      simp (maxSteps := 1000000) (disch := first | omega | assumption) [og_at, og_put, og_at0, og_put0]
      repeat' refine And.intro ?_ ?_
      all_goals first | omega | exact rfl | skip
      refine hK _ ?_
      clear hK K
      clear all
      refine q_then_n ?_
      refine awp_block ?_
      refine awp_keep [0, 2, 3, 4, 5, 6, 7, 8] (by simp only [keepL_nil, keepL_cons, envOf_sel, envOf_nil, sel_t, sel_f, Nat.reduceBEq] <;> rfl) ?_
      refine awp_loopM (fun (s : SSt) => [(8, .d (.int s.k)), (6, .d (.int s.now)), (7, .d (.int s.came)), (4, .d (.sl true (s.A.map D.int)))]) (fun (s : SSt) => []) (fun (s : SSt) => [(σ.length + 1, dqq s.q), (σ.length + 2, s.G.map D.bool)]) [2, 4, 6, 7, 8, 9, 10, 11, 12, 14, 15, 23, 24, 25, 26, 27, 28, 29, 30, 31, 32, 33, 34, 35, 36, 37, 38, 39, 40, 41, 42, 43, 44, 45, 46, 47, 48, 49, 50, 51, 52, 53, 54, 55, 56, 57, 58, 59, 60, 61, 62, 63, 64, 65, 66, 67, 68, 69, 70, 71, 72, 73, 74, 75, 76, 77, 78, 79, 80, 81, 82, 83, 84, 85, 86, 87, 88, 89, 90, 91, 92, 93, 94, 95, 96, 97, 98, 99, 100, 101, 102, 103, 104, 105, 106, 107, 108, 109, 110, 111, 112, 113, 114, 115, 116, 117, 118, 119, 120, 121, 122, 123, 124, 125, 126, 127, 128, 129, 130, 131, 132, 133, 134, 135, 136, 137, 138, 139, 140, 141, 142, 143, 144, 145, 146, 147, 148, 149, 150, 151, 152, 153, 154, 155, 156, 157, 158, 159, 160, 161, 162, 163] (fun (s : SSt) => s.k ≤ acts.length ∧ s.k ≤ 90 ∧ SInv s.k s.q s.A s.G s.now s.came) (fun (s : SSt) => acts.length - s.k) (⟨0, ⟨200, 0, [], []⟩, [0], List.replicate 101 false, 0, 0⟩) (by simp <;> rfl) ?_ (by simp) (by simp [og_at, og_put, og_at0, og_put0]) ?_ ?_
      · simp
      · exact ⟨by simp, by simp, sinv_new⟩
      rintro ⟨k, q, A, G, now, came⟩ ⟨hk, hk90, hi⟩
      simp only [List.cons_append, List.nil_append, setL_nil, setL_cons, List.set_cons_zero, List.set_cons_succ]
      dsimp only at hk hk90 hi
      have hok := hi.ok (by omega)
      have ha1 := hi.a1
      have ha2 := hi.a2
      have hgl := hi.gl
      have hnw := hi.nw
      have hcr := hi.cr
      have hla := hi.last
      have hqn : came + (q.w0.length : Int) ≤ 1000 := by have := hi.cnt; unfold qlen at this; omega
      refine awp_seq ?_
      refine awp_seq ?_
      refine awp_regionA (c := ⟨[4, 118], [], [], [140, 161, 61, 77, 97], [22]⟩) (by simp only [lite_cons, lite_nil] <;> rfl) fun all hall K hK => ?_
      have ga4 : guardOf all 4 = some 27 := hall 4
      clear hall
      refine vcL_split 5 fun K' hK' => ?_
      simp (maxSteps := 1000000) (disch := first | omega | assumption) [og_at, og_put, og_at0, og_put0, ga4]
      repeat' refine And.intro ?_ ?_
      all_goals first | omega | exact rfl | skip
      refine hK' _ ?_
      clear hK' K'
      simp only [List.drop_succ_cons, List.drop_zero]
      refine vcL_bool 27 (by simp <;> rfl) ?_
      refine ⟨fun g3 => ?_, fun g3 => ?_⟩
      · try simp at g3
        simp (maxSteps := 1000000) (disch := first | omega | assumption) [og_at, og_put, og_at0, og_put0, ga4]
        repeat' refine And.intro ?_ ?_
        all_goals first | omega | exact rfl | skip
        refine hK _ ?_
        clear hK K
        clear ga4
        clear all
        refine q_then_n ?_
        refine awp_ifB (by simp <;> rfl) ?_
        refine ⟨fun c4 => ?_, fun c4 => ?_⟩
        · try simp at c4
          refine awp_skip ?_
          refine q_then_n ?_
          refine awp_seq ?_
          refine awp_block ?_
          refine awp_seq ?_
          refine awp_keep [0, 3, 4, 5, 6, 7, 8] (by simp only [keepL_nil, keepL_cons, envOf_sel, envOf_nil, sel_t, sel_f, Nat.reduceBEq] <;> rfl) ?_
          refine awp_regionA (c := ⟨[4, 118], [], [], [140, 161, 61, 77, 97], [22]⟩) (by simp only [lite_cons, lite_nil] <;> rfl) fun all hall K hK => ?_
          clear hall
          simp (maxSteps := 1000000) (disch := first | omega | assumption) [og_at, og_put, og_at0, og_put0]
          repeat' refine And.intro ?_ ?_
          all_goals first | omega | exact rfl | skip
          refine hK _ ?_
          clear hK K
          clear all
          refine q_then_n ?_
          refine awp_block ?_
          refine awp_seq ?_
          refine awp_keep [0, 3, 4, 5, 6, 7, 8, 37] (by simp only [keepL_nil, keepL_cons, envOf_sel, envOf_nil, sel_t, sel_f, Nat.reduceBEq] <;> rfl) ?_
          refine awp_regionA (c := ⟨[4, 118], [], [], [140, 161, 61, 77, 97], [22]⟩) (by simp only [lite_cons, lite_nil] <;> rfl) fun all hall K hK => ?_
          clear hall
          simp (maxSteps := 1000000) (disch := first | omega | assumption) [og_at, og_put, og_at0, og_put0]
          repeat' refine And.intro ?_ ?_
          all_goals first | omega | exact rfl | skip
          refine hK _ ?_
          clear hK K
          clear all
          refine q_then_n ?_
          refine awp_ifB (by simp <;> rfl) ?_
          refine ⟨fun c5 => ?_, fun c5 => ?_⟩
          · try simp at c5
            refine awp_seq ?_
            refine awp_seq ?_
            refine awp_regionA (c := ⟨[4, 118], [], [], [140, 161, 61, 77, 97], [22]⟩) (by simp only [lite_cons, lite_nil] <;> rfl) fun all hall K hK => ?_
            clear hall
            refine vcL_split 3 fun K' hK' => ?_
            simp (maxSteps := 1000000) (disch := first | omega | assumption) [og_at, og_put, og_at0, og_put0]
            repeat' refine And.intro ?_ ?_
            all_goals first | omega | exact rfl | skip
            refine hK' _ ?_
            clear hK' K'
            simp only [List.drop_succ_cons, List.drop_zero]
            refine vcL_step fun K' hK' => ?_
            simp (maxSteps := 1000000) (disch := first | omega | assumption) [og_at, og_put, og_at0, og_put0]
            refine Ct.mono (Ct.of_le (qask_fn (σ.length + 1) q ⟨0, k⟩ _ (by simp [og_at, og_put, og_at0, og_put0]) hok) (by first | exact leArgs_of rfl | (refine leArgs_of ?_; simp; done) | (refine leArgs_of ?_; simp; rfl) | (simp [leArgs, leArg]; done)) rfl) ?_
            rintro _ _ ⟨hr9, hs9⟩
            subst hr9
            replace hs9 := hs9.symm
            subst hs9
            refine hK' _ ?_
            clear hK' K'
            simp (maxSteps := 1000000) (disch := first | omega | assumption) [og_at, og_put, og_at0, og_put0]
            repeat' refine And.intro ?_ ?_
            all_goals first | omega | exact rfl | skip
            refine hK _ ?_
            clear hK K
            clear all
            refine q_then_n ?_
            refine awp_seq ?_
            refine awp_keep [0, 3, 4, 5, 6, 7, 8, 9, 10] (by simp only [keepL_nil, keepL_cons, envOf_sel, envOf_nil, sel_t, sel_f, Nat.reduceBEq] <;> rfl) ?_
            refine awp_regionA (c := ⟨[4, 118], [], [], [140, 161, 61, 77, 97], [22]⟩) (by simp only [lite_cons, lite_nil] <;> rfl) fun all hall K hK => ?_
            have ga4 : guardOf all 4 = some 114 := hall 4
            clear hall
            refine vcL_split 5 fun K' hK' => ?_
            simp (maxSteps := 1000000) (disch := first | omega | assumption) [og_at, og_put, og_at0, og_put0, ga4]
            repeat' refine And.intro ?_ ?_
            all_goals first | omega | exact rfl | skip
            refine hK' _ ?_
            clear hK' K'
            simp only [List.drop_succ_cons, List.drop_zero]
            refine vcL_bool 114 (by simp <;> rfl) ?_
            refine ⟨fun g6 => ?_, fun g6 => ?_⟩
            · try simp at g6
              exact absurd (ask_fst hi (by omega) ⟨0, k⟩).1 g6
            · try simp at g6
              simp (maxSteps := 1000000) (disch := first | omega | assumption) [og_at, og_put, og_at0, og_put0, ga4]
              repeat' refine And.intro ?_ ?_
              all_goals first | omega | exact rfl | skip
              refine hK _ ?_
              clear hK K
              clear ga4
              clear all
              refine q_then_n ?_
              refine awp_ifB (by simp <;> rfl) ?_
              refine ⟨fun c7 => ?_, fun c7 => ?_⟩
              · try simp at c7
                exact absurd (ask_fst hi (by omega) ⟨0, k⟩).2.1 c7
              · try simp at c7
                refine awp_skip ?_
                refine q_then_n ?_
                refine awp_keep [0, 3, 4, 5, 6, 7, 8] (by simp only [keepL_nil, keepL_cons, envOf_sel, envOf_nil, sel_t, sel_f, Nat.reduceBEq] <;> rfl) ?_
                refine awp_regionA (c := ⟨[4, 118], [], [], [140, 161, 61, 77, 97], [22]⟩) (by simp only [lite_cons, lite_nil] <;> rfl) fun all hall K hK => ?_
                clear hall
                simp (maxSteps := 1000000) (disch := first | omega | assumption) [og_at, og_put, og_at0, og_put0]
                repeat' refine And.intro ?_ ?_
                all_goals first | omega | exact rfl | skip
                refine hK _ ?_
                clear hK K
                clear all
                refine q_block_n ?_
                refine q_block_n ?_
                refine q_then_n ?_
                refine awp_keep [0, 3, 4, 5, 6, 7, 8] (by simp only [keepL_nil, keepL_cons, envOf_sel, envOf_nil, sel_t, sel_f, Nat.reduceBEq] <;> rfl) ?_
                refine awp_regionA (c := ⟨[4, 118], [], [], [140, 161, 61, 77, 97], [22]⟩) (by simp only [lite_cons, lite_nil] <;> rfl) fun all hall K hK => ?_
                clear hall
                simp (maxSteps := 1000000) (disch := first | omega | assumption) [og_at, og_put, og_at0, og_put0]
                repeat' refine And.intro ?_ ?_
                all_goals first | omega | exact rfl | skip
                refine hK _ ?_
                clear hK K
                clear all
                refine q_round (⟨k + 1, (qask q ⟨0, k⟩).1, A ++ [now], G, now, came⟩) ?_ ?_ (weak_mkA rfl ?_ (by simp) (by simp))
                · exact ⟨by dsimp only; omega, by dsimp only; omega, (ask_fst hi (by omega) ⟨0, k⟩).2.2⟩
                · try dsimp only
                  omega
                · simp (maxSteps := 1000000) (disch := first | omega | assumption) [og_at, og_put, og_at0, og_put0]
          · try simp at c5
            refine awp_seq ?_
            refine awp_regionA (c := ⟨[4, 118], [], [], [140, 161, 61, 77, 97], [22]⟩) (by simp only [lite_cons, lite_nil] <;> rfl) fun all hall K hK => ?_
            clear hall
            simp (maxSteps := 1000000) (disch := first | omega | assumption) [og_at, og_put, og_at0, og_put0]
            repeat' refine And.intro ?_ ?_
            all_goals first | omega | exact rfl | skip
            refine hK _ ?_
            clear hK K
            clear all
            refine q_then_n ?_
            refine awp_ifB (by simp <;> rfl) ?_
            refine ⟨fun c8 => ?_, fun c8 => ?_⟩
            · try simp at c8
              refine awp_seq ?_
              refine awp_keep [0, 3, 4, 5, 6, 7, 8] (by simp only [keepL_nil, keepL_cons, envOf_sel, envOf_nil, sel_t, sel_f, Nat.reduceBEq] <;> rfl) ?_
              refine awp_regionA (c := ⟨[4, 118], [], [], [140, 161, 61, 77, 97], [22]⟩) (by simp only [lite_cons, lite_nil] <;> rfl) fun all hall K hK => ?_
              clear hall
              simp (maxSteps := 1000000) (disch := first | omega | assumption) [og_at, og_put, og_at0, og_put0]
              repeat' refine And.intro ?_ ?_
              all_goals first | omega | exact rfl | skip
              refine hK _ ?_
              clear hK K
              clear all
              refine q_then_n ?_
              refine awp_seq ?_
              refine awp_keep [0, 3, 4, 5, 6, 7, 8, 11] (by simp only [keepL_nil, keepL_cons, envOf_sel, envOf_nil, sel_t, sel_f, Nat.reduceBEq] <;> rfl) ?_
              refine awp_regionA (c := ⟨[4, 118], [], [], [140, 161, 61, 77, 97], [22]⟩) (by simp only [lite_cons, lite_nil] <;> rfl) fun all hall K hK => ?_
              have ga2 : guardOf all 2 = some 131 := hall 2
              have ga8 : guardOf all 8 = some 137 := hall 8
              have ga15 : guardOf all 15 = some 144 := hall 15
              clear hall
              refine vcL_split 3 fun K' hK' => ?_
              simp (maxSteps := 1000000) (disch := first | omega | assumption) [og_at, og_put, og_at0, og_put0, ga2, ga8, ga15]
              repeat' refine And.intro ?_ ?_
              all_goals first | omega | exact rfl | skip
              refine hK' _ ?_
              clear hK' K'
              simp only [List.drop_succ_cons, List.drop_zero]
              refine vcL_bool 131 (by simp <;> rfl) ?_
              refine ⟨fun g9 => ?_, fun g9 => ?_⟩
              · try simp at g9
                refine vcL_split 6 fun K' hK' => ?_
                simp (maxSteps := 1000000) (disch := first | omega | assumption) [og_at, og_put, og_at0, og_put0, ga2, ga8, ga15]
                repeat' refine And.intro ?_ ?_
                all_goals first | omega | exact rfl | skip
                refine hK' _ ?_
                clear hK' K'
                simp only [List.drop_succ_cons, List.drop_zero]
                refine vcL_bool 137 (by simp <;> rfl) ?_
                refine ⟨fun g10 => ?_, fun g10 => ?_⟩
                · try simp at g10
                  refine vcL_split 7 fun K' hK' => ?_
                  simp (maxSteps := 1000000) (disch := first | omega | assumption) [og_at, og_put, og_at0, og_put0, ga2, ga8, ga15]
                  repeat' refine And.intro ?_ ?_
                  all_goals first | omega | exact rfl | skip
                  refine hK' _ ?_
                  clear hK' K'
                  simp only [List.drop_succ_cons, List.drop_zero]
                  refine vcL_bool 144 (by simp <;> rfl) ?_
                  refine ⟨fun g11 => ?_, fun g11 => ?_⟩
                  · try simp at g11
                    refine vcL_split 8 fun K' hK' => ?_
                    simp (maxSteps := 1000000) (disch := first | omega | assumption) [og_at, og_put, og_at0, og_put0, ga2, ga8, ga15]
                    repeat' refine And.intro ?_ ?_
                    all_goals first | omega | exact rfl | skip
                    refine hK' _ ?_
                    clear hK' K'
                    simp only [List.drop_succ_cons, List.drop_zero]
                    simp (maxSteps := 1000000) (disch := first | omega | assumption) [og_at, og_put, og_at0, og_put0, ga2, ga8, ga15]
                    repeat' refine And.intro ?_ ?_
                    all_goals first | omega | exact rfl | skip
                    refine hK _ ?_
                    clear hK K
                    clear ga2 ga8 ga15
                    clear all
                    refine q_then_n ?_
                    refine awp_seq ?_
                    refine awp_seq ?_
                    refine awp_keep [0, 3, 4, 5, 6, 7, 8, 11, 12] (by simp only [keepL_nil, keepL_cons, envOf_sel, envOf_nil, sel_t, sel_f, Nat.reduceBEq] <;> rfl) ?_
                    refine awp_regionA (c := ⟨[4, 118], [], [], [140, 161, 61, 77, 97], [22]⟩) (by simp only [lite_cons, lite_nil] <;> rfl) fun all hall K hK => ?_
                    clear hall
                    refine vcL_split 2 fun K' hK' => ?_
                    simp (maxSteps := 1000000) (disch := first | omega | assumption) [og_at, og_put, og_at0, og_put0]
                    repeat' refine And.intro ?_ ?_
                    all_goals first | omega | exact rfl | skip
                    refine hK' _ ?_
                    clear hK' K'
                    simp only [List.drop_succ_cons, List.drop_zero]
                    refine vcL_step fun K' hK' => ?_
                    simp (maxSteps := 1000000) (disch := first | omega | assumption) [og_at, og_put, og_at0, og_put0]
                    refine Ct.mono (Ct.of_le (qcancel_fn (σ.length + 1) q acts[k].n _ (by simp [og_at, og_put, og_at0, og_put0]) hok) (by first | exact leArgs_of rfl | (refine leArgs_of ?_; simp; done) | (refine leArgs_of ?_; simp; rfl) | (simp [leArgs, leArg]; done)) rfl) ?_
                    rintro _ _ ⟨hr9, hs9⟩
                    subst hr9
                    replace hs9 := hs9.symm
                    subst hs9
                    refine hK' _ ?_
                    clear hK' K'
                    simp (maxSteps := 1000000) (disch := first | omega | assumption) [og_at, og_put, og_at0, og_put0]
                    repeat' refine And.intro ?_ ?_
                    all_goals first | omega | exact rfl | skip
                    refine hK _ ?_
                    clear hK K
                    clear all
                    refine q_then_n ?_
                    refine awp_ifB (by simp <;> rfl) ?_
                    refine ⟨fun c12 => ?_, fun c12 => ?_⟩
                    · try simp at c12
                      exact absurd (can_a hi (by omega) g9 (a := A[acts[k].n.toNat]) (by rw [List.getElem?_eq_getElem (by omega)]) (by rw [List.getElem?_eq_getElem (by omega), g11])).1 c12
                    · try simp at c12
                      refine awp_skip ?_
                      refine q_then_n ?_
                      refine awp_seq ?_
                      refine awp_keep [0, 3, 4, 5, 6, 7, 8, 11, 12] (by simp only [keepL_nil, keepL_cons, envOf_sel, envOf_nil, sel_t, sel_f, Nat.reduceBEq] <;> rfl) ?_
                      refine awp_regionA (c := ⟨[4, 118], [], [], [140, 161, 61, 77, 97], [22]⟩) (by simp only [lite_cons, lite_nil] <;> rfl) fun all hall K hK => ?_
                      clear hall
                      simp (maxSteps := 1000000) (disch := first | omega | assumption) [og_at, og_put, og_at0, og_put0]
                      repeat' refine And.intro ?_ ?_
                      all_goals first | omega | exact rfl | skip
                      refine hK _ ?_
                      clear hK K
                      clear all
                      refine q_then_n ?_
                      refine awp_ifB (by simp <;> rfl) ?_
                      refine ⟨fun c13 => ?_, fun c13 => ?_⟩
                      · try simp at c13
                        refine awp_seq ?_
                        refine awp_regionA (c := ⟨[4, 118], [], [], [140, 161, 61, 77, 97], [22]⟩) (by simp only [lite_cons, lite_nil] <;> rfl) fun all hall K hK => ?_
                        clear hall
                        simp (maxSteps := 1000000) (disch := first | omega | assumption) [og_at, og_put, og_at0, og_put0]
                        repeat' refine And.intro ?_ ?_
                        all_goals first | omega | exact rfl | skip
                        refine hK _ ?_
                        clear hK K
                        clear all
                        refine q_then_n ?_
                        refine awp_keep [0, 3, 4, 5, 6, 7, 8] (by simp only [keepL_nil, keepL_cons, envOf_sel, envOf_nil, sel_t, sel_f, Nat.reduceBEq] <;> rfl) ?_
                        refine awp_regionA (c := ⟨[4, 118], [], [], [140, 161, 61, 77, 97], [22]⟩) (by simp only [lite_cons, lite_nil] <;> rfl) fun all hall K hK => ?_
                        clear hall
                        simp (maxSteps := 1000000) (disch := first | omega | assumption) [og_at, og_put, og_at0, og_put0]
                        repeat' refine And.intro ?_ ?_
                        all_goals first | omega | exact rfl | skip
                        refine hK _ ?_
                        clear hK K
                        clear all
                        refine q_block_n ?_
                        refine q_block_n ?_
                        refine q_then_n ?_
                        refine awp_regionA (c := ⟨[4, 118], [], [], [140, 161, 61, 77, 97], [22]⟩) (by simp only [lite_cons, lite_nil] <;> rfl) fun all hall K hK => ?_
                        clear hall
                        simp (maxSteps := 1000000) (disch := first | omega | assumption) [og_at, og_put, og_at0, og_put0]
                        repeat' refine And.intro ?_ ?_
                        all_goals first | omega | exact rfl | skip
                        refine hK _ ?_
                        clear hK K
                        clear all
                        refine q_round (⟨k + 1, qcan q acts[k].n 2, A, G.set acts[k].n.toNat true, now, came + 1⟩) ?_ ?_ (weak_mkA rfl ?_ (by simp) (by simp))
                        · exact ⟨by dsimp only; omega, by dsimp only; omega, (can_a hi (by omega) g9 (a := A[acts[k].n.toNat]) (by rw [List.getElem?_eq_getElem (by omega)]) (by rw [List.getElem?_eq_getElem (by omega), g11])).2.1 c13⟩
                        · try dsimp only
                          omega
                        · simp (maxSteps := 1000000) (disch := first | omega | assumption) [og_at, og_put, og_at0, og_put0]
                      · try simp at c13
                        refine awp_skip ?_
                        refine q_block_n ?_
                        refine q_block_n ?_
                        refine q_then_n ?_
                        refine awp_regionA (c := ⟨[4, 118], [], [], [140, 161, 61, 77, 97], [22]⟩) (by simp only [lite_cons, lite_nil] <;> rfl) fun all hall K hK => ?_
                        clear hall
                        simp (maxSteps := 1000000) (disch := first | omega | assumption) [og_at, og_put, og_at0, og_put0]
                        repeat' refine And.intro ?_ ?_
                        all_goals first | omega | exact rfl | skip
                        refine hK _ ?_
                        clear hK K
                        clear all
                        refine q_round (⟨k + 1, qcan q acts[k].n 2, A, G, now, came⟩) ?_ ?_ (weak_mkA rfl ?_ (by simp) (by simp))
                        · exact ⟨by dsimp only; omega, by dsimp only; omega, (can_a hi (by omega) g9 (a := A[acts[k].n.toNat]) (by rw [List.getElem?_eq_getElem (by omega)]) (by rw [List.getElem?_eq_getElem (by omega), g11])).2.2 c13⟩
                        · try dsimp only
                          omega
                        · simp (maxSteps := 1000000) (disch := first | omega | assumption) [og_at, og_put, og_at0, og_put0]
                  · try simp at g11
                    refine vcL_split 8 fun K' hK' => ?_
                    simp (maxSteps := 1000000) (disch := first | omega | assumption) [og_at, og_put, og_at0, og_put0, ga2, ga8, ga15]
                    repeat' refine And.intro ?_ ?_
                    all_goals first | omega | exact rfl | skip
                    refine hK' _ ?_
                    clear hK' K'
                    simp only [List.drop_succ_cons, List.drop_zero]
                    simp (maxSteps := 1000000) (disch := first | omega | assumption) [og_at, og_put, og_at0, og_put0, ga2, ga8, ga15]
                    repeat' refine And.intro ?_ ?_
                    all_goals first | omega | exact rfl | skip
                    refine hK _ ?_
                    clear hK K
                    clear ga2 ga8 ga15
                    clear all
                    refine q_then_n ?_
                    refine awp_seq ?_
                    refine awp_seq ?_
                    refine awp_keep [0, 3, 4, 5, 6, 7, 8, 11, 12] (by simp only [keepL_nil, keepL_cons, envOf_sel, envOf_nil, sel_t, sel_f, Nat.reduceBEq] <;> rfl) ?_
                    refine awp_regionA (c := ⟨[4, 118], [], [], [140, 161, 61, 77, 97], [22]⟩) (by simp only [lite_cons, lite_nil] <;> rfl) fun all hall K hK => ?_
                    clear hall
                    refine vcL_split 2 fun K' hK' => ?_
                    simp (maxSteps := 1000000) (disch := first | omega | assumption) [og_at, og_put, og_at0, og_put0]
                    repeat' refine And.intro ?_ ?_
                    all_goals first | omega | exact rfl | skip
                    refine hK' _ ?_
                    clear hK' K'
                    simp only [List.drop_succ_cons, List.drop_zero]
                    refine vcL_step fun K' hK' => ?_
                    simp (maxSteps := 1000000) (disch := first | omega | assumption) [og_at, og_put, og_at0, og_put0]
                    refine Ct.mono (Ct.of_le (qcancel_fn (σ.length + 1) q acts[k].n _ (by simp [og_at, og_put, og_at0, og_put0]) hok) (by first | exact leArgs_of rfl | (refine leArgs_of ?_; simp; done) | (refine leArgs_of ?_; simp; rfl) | (simp [leArgs, leArg]; done)) rfl) ?_
                    rintro _ _ ⟨hr9, hs9⟩
                    subst hr9
                    replace hs9 := hs9.symm
                    subst hs9
                    refine hK' _ ?_
                    clear hK' K'
                    simp (maxSteps := 1000000) (disch := first | omega | assumption) [og_at, og_put, og_at0, og_put0]
                    repeat' refine And.intro ?_ ?_
                    all_goals first | omega | exact rfl | skip
                    refine hK _ ?_
                    clear hK K
                    clear all
                    refine q_then_n ?_
                    refine awp_ifB (by simp <;> rfl) ?_
                    refine ⟨fun c14 => ?_, fun c14 => ?_⟩
                    · try simp at c14
                      exact absurd c14 (can_b hi (n := acts[k].n) (fun h => by have h9 := h.2.2; rw [List.getElem?_eq_getElem (by omega), g11] at h9; simp at h9)).2
                    · try simp at c14
                      refine awp_skip ?_
                      refine q_then_n ?_
                      refine awp_seq ?_
                      refine awp_keep [0, 3, 4, 5, 6, 7, 8, 11, 12] (by simp only [keepL_nil, keepL_cons, envOf_sel, envOf_nil, sel_t, sel_f, Nat.reduceBEq] <;> rfl) ?_
                      refine awp_regionA (c := ⟨[4, 118], [], [], [140, 161, 61, 77, 97], [22]⟩) (by simp only [lite_cons, lite_nil] <;> rfl) fun all hall K hK => ?_
                      clear hall
                      simp (maxSteps := 1000000) (disch := first | omega | assumption) [og_at, og_put, og_at0, og_put0]
                      repeat' refine And.intro ?_ ?_
                      all_goals first | omega | exact rfl | skip
                      refine hK _ ?_
                      clear hK K
                      clear all
                      refine q_then_n ?_
                      refine awp_cond (t := false) (by simp) (fun h => by cases h) (fun _ => ?_)
                      refine awp_skip ?_
                      refine q_block_n ?_
                      refine q_block_n ?_
                      refine q_then_n ?_
                      refine awp_regionA (c := ⟨[4, 118], [], [], [140, 161, 61, 77, 97], [22]⟩) (by simp only [lite_cons, lite_nil] <;> rfl) fun all hall K hK => ?_
                      clear hall
                      simp (maxSteps := 1000000) (disch := first | omega | assumption) [og_at, og_put, og_at0, og_put0]
                      repeat' refine And.intro ?_ ?_
                      all_goals first | omega | exact rfl | skip
                      refine hK _ ?_
                      clear hK K
                      clear all
                      refine q_round (⟨k + 1, qcan q acts[k].n 2, A, G, now, came⟩) ?_ ?_ (weak_mkA rfl ?_ (by simp) (by simp))
                      · exact ⟨by dsimp only; omega, by dsimp only; omega, (can_b hi (n := acts[k].n) (fun h => by have h9 := h.2.2; rw [List.getElem?_eq_getElem (by omega), g11] at h9; simp at h9)).1⟩
                      · try dsimp only
                        omega
                      · simp (maxSteps := 1000000) (disch := first | omega | assumption) [og_at, og_put, og_at0, og_put0]
                · try simp at g10
                  refine vcL_split 7 fun K' hK' => ?_
                  simp (maxSteps := 1000000) (disch := first | omega | assumption) [og_at, og_put, og_at0, og_put0, ga2, ga8, ga15]
                  repeat' refine And.intro ?_ ?_
                  all_goals first | omega | exact rfl | skip
                  refine hK' _ ?_
                  clear hK' K'
                  simp only [List.drop_succ_cons, List.drop_zero]
                  refine vcL_split 8 fun K' hK' => ?_
                  simp (maxSteps := 1000000) (disch := first | omega | assumption) [og_at, og_put, og_at0, og_put0, ga2, ga8, ga15]
                  repeat' refine And.intro ?_ ?_
                  all_goals first | omega | exact rfl | skip
                  refine hK' _ ?_
                  clear hK' K'
                  simp only [List.drop_succ_cons, List.drop_zero]
                  simp (maxSteps := 1000000) (disch := first | omega | assumption) [og_at, og_put, og_at0, og_put0, ga2, ga8, ga15]
                  repeat' refine And.intro ?_ ?_
                  all_goals first | omega | exact rfl | skip
                  refine hK _ ?_
                  clear hK K
                  clear ga2 ga8 ga15
                  clear all
                  refine q_then_n ?_
                  refine awp_seq ?_
                  refine awp_seq ?_
                  refine awp_keep [0, 3, 4, 5, 6, 7, 8, 11, 12] (by simp only [keepL_nil, keepL_cons, envOf_sel, envOf_nil, sel_t, sel_f, Nat.reduceBEq] <;> rfl) ?_
                  refine awp_regionA (c := ⟨[4, 118], [], [], [140, 161, 61, 77, 97], [22]⟩) (by simp only [lite_cons, lite_nil] <;> rfl) fun all hall K hK => ?_
                  clear hall
                  refine vcL_split 2 fun K' hK' => ?_
                  simp (maxSteps := 1000000) (disch := first | omega | assumption) [og_at, og_put, og_at0, og_put0]
                  repeat' refine And.intro ?_ ?_
                  all_goals first | omega | exact rfl | skip
                  refine hK' _ ?_
                  clear hK' K'
                  simp only [List.drop_succ_cons, List.drop_zero]
                  refine vcL_step fun K' hK' => ?_
                  simp (maxSteps := 1000000) (disch := first | omega | assumption) [og_at, og_put, og_at0, og_put0]
                  refine Ct.mono (Ct.of_le (qcancel_fn (σ.length + 1) q acts[k].n _ (by simp [og_at, og_put, og_at0, og_put0]) hok) (by first | exact leArgs_of rfl | (refine leArgs_of ?_; simp; done) | (refine leArgs_of ?_; simp; rfl) | (simp [leArgs, leArg]; done)) rfl) ?_
                  rintro _ _ ⟨hr9, hs9⟩
                  subst hr9
                  replace hs9 := hs9.symm
                  subst hs9
                  refine hK' _ ?_
                  clear hK' K'
                  simp (maxSteps := 1000000) (disch := first | omega | assumption) [og_at, og_put, og_at0, og_put0]
                  repeat' refine And.intro ?_ ?_
                  all_goals first | omega | exact rfl | skip
                  refine hK _ ?_
                  clear hK K
                  clear all
                  refine q_then_n ?_
                  refine awp_ifB (by simp <;> rfl) ?_
                  refine ⟨fun c15 => ?_, fun c15 => ?_⟩
                  · try simp at c15
                    exact absurd c15 (can_b hi (n := acts[k].n) (fun h => by have h9 := h.2.1; omega)).2
                  · try simp at c15
                    refine awp_skip ?_
                    refine q_then_n ?_
                    refine awp_seq ?_
                    refine awp_keep [0, 3, 4, 5, 6, 7, 8, 11, 12] (by simp only [keepL_nil, keepL_cons, envOf_sel, envOf_nil, sel_t, sel_f, Nat.reduceBEq] <;> rfl) ?_
                    refine awp_regionA (c := ⟨[4, 118], [], [], [140, 161, 61, 77, 97], [22]⟩) (by simp only [lite_cons, lite_nil] <;> rfl) fun all hall K hK => ?_
                    clear hall
                    simp (maxSteps := 1000000) (disch := first | omega | assumption) [og_at, og_put, og_at0, og_put0]
                    repeat' refine And.intro ?_ ?_
                    all_goals first | omega | exact rfl | skip
                    refine hK _ ?_
                    clear hK K
                    clear all
                    refine q_then_n ?_
                    refine awp_cond (t := false) (by simp) (fun h => by cases h) (fun _ => ?_)
                    refine awp_skip ?_
                    refine q_block_n ?_
                    refine q_block_n ?_
                    refine q_then_n ?_
                    refine awp_regionA (c := ⟨[4, 118], [], [], [140, 161, 61, 77, 97], [22]⟩) (by simp only [lite_cons, lite_nil] <;> rfl) fun all hall K hK => ?_
                    clear hall
                    simp (maxSteps := 1000000) (disch := first | omega | assumption) [og_at, og_put, og_at0, og_put0]
                    repeat' refine And.intro ?_ ?_
                    all_goals first | omega | exact rfl | skip
                    refine hK _ ?_
                    clear hK K
                    clear all
                    refine q_round (⟨k + 1, qcan q acts[k].n 2, A, G, now, came⟩) ?_ ?_ (weak_mkA rfl ?_ (by simp) (by simp))
                    · exact ⟨by dsimp only; omega, by dsimp only; omega, (can_b hi (n := acts[k].n) (fun h => by have h9 := h.2.1; omega)).1⟩
                    · try dsimp only
                      omega
                    · simp (maxSteps := 1000000) (disch := first | omega | assumption) [og_at, og_put, og_at0, og_put0]
              · try simp at g9
                refine vcL_split 6 fun K' hK' => ?_
                simp (maxSteps := 1000000) (disch := first | omega | assumption) [og_at, og_put, og_at0, og_put0, ga2, ga8, ga15]
                repeat' refine And.intro ?_ ?_
                all_goals first | omega | exact rfl | skip
                refine hK' _ ?_
                clear hK' K'
                simp only [List.drop_succ_cons, List.drop_zero]
                refine vcL_split 7 fun K' hK' => ?_
                simp (maxSteps := 1000000) (disch := first | omega | assumption) [og_at, og_put, og_at0, og_put0, ga2, ga8, ga15]
                repeat' refine And.intro ?_ ?_
                all_goals first | omega | exact rfl | skip
                refine hK' _ ?_
                clear hK' K'
                simp only [List.drop_succ_cons, List.drop_zero]
                refine vcL_split 8 fun K' hK' => ?_
                simp (maxSteps := 1000000) (disch := first | omega | assumption) [og_at, og_put, og_at0, og_put0, ga2, ga8, ga15]
                repeat' refine And.intro ?_ ?_
                all_goals first | omega | exact rfl | skip
                refine hK' _ ?_
                clear hK' K'
                simp only [List.drop_succ_cons, List.drop_zero]
                simp (maxSteps := 1000000) (disch := first | omega | assumption) [og_at, og_put, og_at0, og_put0, ga2, ga8, ga15]
                repeat' refine And.intro ?_ ?_
                all_goals first | omega | exact rfl | skip
                refine hK _ ?_
                clear hK K
                clear ga2 ga8 ga15
                clear all
                refine q_then_n ?_
                refine awp_seq ?_
                refine awp_seq ?_
                refine awp_keep [0, 3, 4, 5, 6, 7, 8, 11, 12] (by simp only [keepL_nil, keepL_cons, envOf_sel, envOf_nil, sel_t, sel_f, Nat.reduceBEq] <;> rfl) ?_
                refine awp_regionA (c := ⟨[4, 118], [], [], [140, 161, 61, 77, 97], [22]⟩) (by simp only [lite_cons, lite_nil] <;> rfl) fun all hall K hK => ?_
                clear hall
                refine vcL_split 2 fun K' hK' => ?_
                simp (maxSteps := 1000000) (disch := first | omega | assumption) [og_at, og_put, og_at0, og_put0]
                repeat' refine And.intro ?_ ?_
                all_goals first | omega | exact rfl | skip
                refine hK' _ ?_
                clear hK' K'
                simp only [List.drop_succ_cons, List.drop_zero]
                refine vcL_step fun K' hK' => ?_
                simp (maxSteps := 1000000) (disch := first | omega | assumption) [og_at, og_put, og_at0, og_put0]
                refine Ct.mono (Ct.of_le (qcancel_fn (σ.length + 1) q acts[k].n _ (by simp [og_at, og_put, og_at0, og_put0]) hok) (by first | exact leArgs_of rfl | (refine leArgs_of ?_; simp; done) | (refine leArgs_of ?_; simp; rfl) | (simp [leArgs, leArg]; done)) rfl) ?_
                rintro _ _ ⟨hr9, hs9⟩
                subst hr9
                replace hs9 := hs9.symm
                subst hs9
                refine hK' _ ?_
                clear hK' K'
                simp (maxSteps := 1000000) (disch := first | omega | assumption) [og_at, og_put, og_at0, og_put0]
                repeat' refine And.intro ?_ ?_
                all_goals first | omega | exact rfl | skip
                refine hK _ ?_
                clear hK K
                clear all
                refine q_then_n ?_
                refine awp_ifB (by simp <;> rfl) ?_
                refine ⟨fun c16 => ?_, fun c16 => ?_⟩
                · try simp at c16
                  exact absurd c16 (can_b hi (n := acts[k].n) (fun h => by have h9 := h.1; omega)).2
                · try simp at c16
                  refine awp_skip ?_
                  refine q_then_n ?_
                  refine awp_seq ?_
                  refine awp_keep [0, 3, 4, 5, 6, 7, 8, 11, 12] (by simp only [keepL_nil, keepL_cons, envOf_sel, envOf_nil, sel_t, sel_f, Nat.reduceBEq] <;> rfl) ?_
                  refine awp_regionA (c := ⟨[4, 118], [], [], [140, 161, 61, 77, 97], [22]⟩) (by simp only [lite_cons, lite_nil] <;> rfl) fun all hall K hK => ?_
                  clear hall
                  simp (maxSteps := 1000000) (disch := first | omega | assumption) [og_at, og_put, og_at0, og_put0]
                  repeat' refine And.intro ?_ ?_
                  all_goals first | omega | exact rfl | skip
                  refine hK _ ?_
                  clear hK K
                  clear all
                  refine q_then_n ?_
                  refine awp_cond (t := false) (by simp) (fun h => by cases h) (fun _ => ?_)
                  refine awp_skip ?_
                  refine q_block_n ?_
                  refine q_block_n ?_
                  refine q_then_n ?_
                  refine awp_regionA (c := ⟨[4, 118], [], [], [140, 161, 61, 77, 97], [22]⟩) (by simp only [lite_cons, lite_nil] <;> rfl) fun all hall K hK => ?_
                  clear hall
                  simp (maxSteps := 1000000) (disch := first | omega | assumption) [og_at, og_put, og_at0, og_put0]
                  repeat' refine And.intro ?_ ?_
                  all_goals first | omega | exact rfl | skip
                  refine hK _ ?_
                  clear hK K
                  clear all
                  refine q_round (⟨k + 1, qcan q acts[k].n 2, A, G, now, came⟩) ?_ ?_ (weak_mkA rfl ?_ (by simp) (by simp))
                  · exact ⟨by dsimp only; omega, by dsimp only; omega, (can_b hi (n := acts[k].n) (fun h => by have h9 := h.1; omega)).1⟩
                  · try dsimp only
                    omega
                  · simp (maxSteps := 1000000) (disch := first | omega | assumption) [og_at, og_put, og_at0, og_put0]
            · try simp at c8
              refine awp_seq ?_
              refine awp_keep [0, 3, 4, 5, 6, 7, 8] (by simp only [keepL_nil, keepL_cons, envOf_sel, envOf_nil, sel_t, sel_f, Nat.reduceBEq] <;> rfl) ?_
              refine awp_regionA (c := ⟨[4, 118], [], [], [140, 161, 61, 77, 97], [22]⟩) (by simp only [lite_cons, lite_nil] <;> rfl) fun all hall K hK => ?_
              clear hall
              simp (maxSteps := 1000000) (disch := first | omega | assumption) [og_at, og_put, og_at0, og_put0]
              repeat' refine And.intro ?_ ?_
              all_goals first | omega | exact rfl | skip
              refine hK _ ?_
              clear hK K
              clear all
              refine q_then_n ?_
              refine awp_seq ?_
              refine awp_seq ?_
              refine awp_regionA (c := ⟨[4, 118], [], [], [140, 161, 61, 77, 97], [22]⟩) (by simp only [lite_cons, lite_nil] <;> rfl) fun all hall K hK => ?_
              clear hall
              refine vcL_split 1 fun K' hK' => ?_
              simp (maxSteps := 1000000) (disch := first | omega | assumption) [og_at, og_put, og_at0, og_put0]
              repeat' refine And.intro ?_ ?_
              all_goals first | omega | exact rfl | skip
              refine hK' _ ?_
              clear hK' K'
              simp only [List.drop_succ_cons, List.drop_zero]
              refine vcL_step fun K' hK' => ?_
              simp (maxSteps := 1000000) (disch := first | omega | assumption) [og_at, og_put, og_at0, og_put0]
              refine Ct.mono (Ct.of_le (qframeS_fn (σ.length + 1) q _ (by simp [og_at, og_put, og_at0, og_put0]) hok) (by first | exact leArgs_of rfl | (refine leArgs_of ?_; simp; done) | (refine leArgs_of ?_; simp; rfl) | (simp [leArgs, leArg]; done)) rfl) ?_
              rintro _ _ ⟨hr9, hs9⟩
              subst hr9
              replace hs9 := hs9.symm
              subst hs9
              refine hK' _ ?_
              clear hK' K'
              simp (maxSteps := 1000000) (disch := first | omega | assumption) [og_at, og_put, og_at0, og_put0]
              repeat' refine And.intro ?_ ?_
              all_goals first | omega | exact rfl | skip
              refine hK _ ?_
              clear hK K
              clear all
              refine q_then_n ?_
              refine awp_block ?_
              refine awp_keep [0, 3, 4, 5, 6, 7, 8, 41, 42, 43] (by simp only [keepL_nil, keepL_cons, envOf_sel, envOf_nil, sel_t, sel_f, Nat.reduceBEq] <;> rfl) ?_
              refine awp_loopM (fun (j : Nat) => [(43, .d (.v (.int .i64 (j : Int)))), (7, .d (.int (came + j)))]) (fun (j : Nat) => []) (fun (j : Nat) => [(σ.length + 2, (mark G (q.w0.take j)).map D.bool)]) [2, 7, 14, 43, 44, 45, 46, 47, 48, 49, 50, 51, 52, 53, 54, 55, 56, 57, 58, 59, 60, 61, 62, 63, 64, 65, 66, 67, 68, 69, 70, 71, 72, 73, 74, 75, 76, 77, 78, 79, 80] (fun (j : Nat) => j ≤ q.w0.length) (fun (j : Nat) => q.w0.length - j) (0) (by simp <;> rfl) ?_ (by simp) (by simp [mark, og_at, og_put, og_at0, og_put0]) ?_ ?_
              · simp
              · simp
              rintro j hj
              simp only [List.cons_append, List.nil_append, setL_nil, setL_cons, List.set_cons_zero, List.set_cons_succ]
              refine awp_seq ?_
              refine awp_regionA (c := ⟨[4, 118], [], [], [140, 161, 61, 77, 97], [22]⟩) (by simp only [lite_cons, lite_nil] <;> rfl) fun all hall K hK => ?_
              clear hall
              simp (maxSteps := 1000000) (disch := first | omega | assumption) [og_at, og_put, og_at0, og_put0]
              repeat' refine And.intro ?_ ?_
              all_goals first | omega | exact rfl | skip
              refine hK _ ?_
              clear hK K
              clear all
              refine q_then_n ?_
              refine awp_seq ?_
              refine awp_ifB (by simp <;> rfl) ?_
              refine ⟨fun c17 => ?_, fun c17 => ?_⟩
              · try simp at c17
                have hj0 : j < q.w0.length := by rw [wdecs_len] at c17; exact c17
                obtain ⟨t, et, ht1, ht2, ht3⟩ := hi.due j hj0
                have htl := mem_len ht2
                have hml := mark_len G (q.w0.take j)
                refine awp_skip ?_
                refine q_then_n ?_
                refine awp_seq ?_
                refine awp_block ?_
                refine awp_seq ?_
                refine awp_regionA (c := ⟨[4, 118], [], [], [140, 161, 61, 77, 97], [22]⟩) (by simp only [lite_cons, lite_nil] <;> rfl) fun all hall K hK => ?_
                clear hall
                simp (maxSteps := 1000000) (disch := first | omega | assumption) [og_at, og_put, og_at0, og_put0]
                repeat' refine And.intro ?_ ?_
                all_goals first | omega | exact rfl | skip
                refine hK _ ?_
                clear hK K
                clear all
                refine q_then_n ?_
                refine awp_seq ?_
                refine awp_seq ?_
                refine awp_keep [0, 3, 4, 5, 6, 7, 8, 14, 41, 42, 43] (by simp only [keepL_nil, keepL_cons, envOf_sel, envOf_nil, sel_t, sel_f, Nat.reduceBEq] <;> rfl) ?_
                refine awp_regionA (c := ⟨[4, 118], [], [], [140, 161, 61, 77, 97], [22]⟩) (by simp only [lite_cons, lite_nil] <;> rfl) fun all hall K hK => ?_
                have ga3 : guardOf all 3 = some 50 := hall 3
                have ga10 : guardOf all 10 = some 57 := hall 10
                have ga17 : guardOf all 17 = some 64 := hall 17
                clear hall
                refine vcL_split 4 fun K' hK' => ?_
                simp (maxSteps := 1000000) (disch := first | omega | assumption) [og_at, og_put, og_at0, og_put0, ga3, ga10, ga17]
                repeat' refine And.intro ?_ ?_
                all_goals first | omega | exact rfl | skip
                refine hK' _ ?_
                clear hK' K'
                simp only [List.drop_succ_cons, List.drop_zero]
                refine vcL_bool 50 (by simp <;> rfl) ?_
                refine ⟨fun g18 => ?_, fun g18 => ?_⟩
                · try simp at g18
                  exfalso; omega
                · try simp at g18
                  refine vcL_split 7 fun K' hK' => ?_
                  simp (maxSteps := 1000000) (disch := first | omega | assumption) [og_at, og_put, og_at0, og_put0, ga3, ga10, ga17]
                  repeat' refine And.intro ?_ ?_
                  all_goals first | omega | exact rfl | skip
                  refine hK' _ ?_
                  clear hK' K'
                  simp only [List.drop_succ_cons, List.drop_zero]
                  refine vcL_bool 57 (by simp <;> rfl) ?_
                  refine ⟨fun g19 => ?_, fun g19 => ?_⟩
                  · try simp at g19
                    exfalso; omega
                  · try simp at g19
                    refine vcL_split 7 fun K' hK' => ?_
                    simp (maxSteps := 1000000) (disch := first | omega | assumption) [og_at, og_put, og_at0, og_put0, ga3, ga10, ga17]
                    repeat' refine And.intro ?_ ?_
                    all_goals first | omega | exact rfl | skip
                    refine hK' _ ?_
                    clear hK' K'
                    simp only [List.drop_succ_cons, List.drop_zero]
                    refine vcL_bool 64 (by simp <;> rfl) ?_
                    refine ⟨fun g20 => ?_, fun g20 => ?_⟩
                    · try simp at g20
                      exfalso
                      have e9 : q.w0[j].token.toNat = t := by omega
                      simp only [e9] at g20
                      rw [List.getElem?_eq_getElem (by omega)] at ht3
                      simp [g20] at ht3
                    · try simp at g20
                      refine vcL_split 8 fun K' hK' => ?_
                      simp (maxSteps := 1000000) (disch := first | omega | assumption) [og_at, og_put, og_at0, og_put0, ga3, ga10, ga17]
                      repeat' refine And.intro ?_ ?_
                      all_goals first | omega | exact rfl | skip
                      refine hK' _ ?_
                      clear hK' K'
                      simp only [List.drop_succ_cons, List.drop_zero]
                      simp (maxSteps := 1000000) (disch := first | omega | assumption) [og_at, og_put, og_at0, og_put0, ga3, ga10, ga17]
                      repeat' refine And.intro ?_ ?_
                      all_goals first | omega | exact rfl | skip
                      refine hK _ ?_
                      clear hK K
                      clear ga3 ga10 ga17
                      clear all
                      refine q_then_n ?_
                      refine awp_ifB (by simp <;> rfl) ?_
                      refine ⟨fun c21 => ?_, fun c21 => ?_⟩
                      · try simp at c21
                        exfalso
                        have e9 : q.w0[j].token.toNat = t := by omega
                        simp only [e9] at c21
                        rw [List.getElem?_eq_getElem (by omega)] at ht2
                        simp at ht2
                        omega
                      · try simp at c21
                        refine awp_skip ?_
                        refine q_then_n ?_
                        refine awp_seq ?_
                        refine awp_keep [0, 3, 4, 5, 6, 7, 8, 14, 41, 42, 43] (by simp only [keepL_nil, keepL_cons, envOf_sel, envOf_nil, sel_t, sel_f, Nat.reduceBEq] <;> rfl) ?_
                        refine awp_regionA (c := ⟨[4, 118], [], [], [140, 161, 61, 77, 97], [22]⟩) (by simp only [lite_cons, lite_nil] <;> rfl) fun all hall K hK => ?_
                        clear hall
                        simp (maxSteps := 1000000) (disch := first | omega | assumption) [og_at, og_put, og_at0, og_put0]
                        repeat' refine And.intro ?_ ?_
                        all_goals first | omega | exact rfl | skip
                        refine hK _ ?_
                        clear hK K
                        clear all
                        refine q_then_n ?_
                        refine awp_keep [0, 3, 4, 5, 6, 7, 8, 41, 42, 43] (by simp only [keepL_nil, keepL_cons, envOf_sel, envOf_nil, sel_t, sel_f, Nat.reduceBEq] <;> rfl) ?_
                        refine awp_regionA (c := ⟨[4, 118], [], [], [140, 161, 61, 77, 97], [22]⟩) (by simp only [lite_cons, lite_nil] <;> rfl) fun all hall K hK => ?_
                        clear hall
                        simp (maxSteps := 1000000) (disch := first | omega | assumption) [og_at, og_put, og_at0, og_put0]
                        repeat' refine And.intro ?_ ?_
                        all_goals first | omega | exact rfl | skip
                        refine hK _ ?_
                        clear hK K
                        clear all
                        refine q_block_n ?_
                        refine q_then_n ?_
                        refine awp_keep [0, 3, 4, 5, 6, 7, 8, 41, 42, 43] (by simp only [keepL_nil, keepL_cons, envOf_sel, envOf_nil, sel_t, sel_f, Nat.reduceBEq] <;> rfl) ?_
                        refine awp_regionA (c := ⟨[4, 118], [], [], [140, 161, 61, 77, 97], [22]⟩) (by simp only [lite_cons, lite_nil] <;> rfl) fun all hall K hK => ?_
                        clear hall
                        simp (maxSteps := 1000000) (disch := first | omega | assumption) [og_at, og_put, og_at0, og_put0]
                        repeat' refine And.intro ?_ ?_
                        all_goals first | omega | exact rfl | skip
                        refine hK _ ?_
                        clear hK K
                        clear all
                        refine q_round (j + 1) ?_ ?_ (weak_mkA rfl ?_ (by simp) (by simp [mark_take G q.w0 j hj0]))
                        · omega
                        · try dsimp only
                          omega
                        · simp (maxSteps := 1000000) (disch := first | omega | assumption) [og_at, og_put, og_at0, og_put0, Int.add_assoc]
              · try simp at c17
                obtain rfl : j = q.w0.length := by rw [wdecs_len] at c17; omega
                rw [List.take_length]
                have hml := mark_len G q.w0
                refine awp_exit ?_
                refine q_then_e ?_
                refine q_loop_e ?_
                refine q_block_e ?_
                refine q_then_n ?_
                refine awp_seq ?_
                refine awp_regionA (c := ⟨[4, 118], [], [], [140, 161, 61, 77, 97], [22]⟩) (by simp only [lite_cons, lite_nil] <;> rfl) fun all hall K hK => ?_
                clear hall
                simp (maxSteps := 1000000) (disch := first | omega | assumption) [og_at, og_put, og_at0, og_put0]
                repeat' refine And.intro ?_ ?_
                all_goals first | omega | exact rfl | skip
                refine hK _ ?_
                clear hK K
                clear all
                refine q_then_n ?_
                refine awp_block ?_
                refine awp_keep [0, 3, 4, 5, 6, 7, 8, 15] (by simp only [keepL_nil, keepL_cons, envOf_sel, envOf_nil, sel_t, sel_f, Nat.reduceBEq] <;> rfl) ?_
                refine awp_loopE (fun (n : Nat) => [(15, .d (.int n))]) [2, 15, 81, 82, 83, 84, 85, 86, 87, 88, 89, 90, 91, 92, 93, 94, 95, 96, 97, 98, 99, 100] (fun (n : Nat) => 1 ≤ n ∧ n ≤ A.length) (fun (n : Nat) => A.length - n) (1) (by simp <;> rfl) ?_ ?_ ?_
                · simp
                · exact ⟨by simp, by simpa using ha1⟩
                rintro n ⟨hn1, hn⟩
                simp only [List.cons_append, List.nil_append]
                refine awp_seq ?_
                refine awp_seq ?_
                refine awp_regionA (c := ⟨[4, 118], [], [], [140, 161, 61, 77, 97], [22]⟩) (by simp only [lite_cons, lite_nil] <;> rfl) fun all hall K hK => ?_
                clear hall
                simp (maxSteps := 1000000) (disch := first | omega | assumption) [og_at, og_put, og_at0, og_put0]
                repeat' refine And.intro ?_ ?_
                all_goals first | omega | exact rfl | skip
                refine hK _ ?_
                clear hK K
                clear all
                refine q_then_n ?_
                refine awp_ifB (by simp <;> rfl) ?_
                refine ⟨fun c22 => ?_, fun c22 => ?_⟩
                · try simp at c22
                  refine awp_skip ?_
                  refine q_then_n ?_
                  refine awp_seq ?_
                  refine awp_block ?_
                  refine awp_seq ?_
                  refine awp_keep [0, 3, 4, 5, 6, 7, 8, 15] (by simp only [keepL_nil, keepL_cons, envOf_sel, envOf_nil, sel_t, sel_f, Nat.reduceBEq] <;> rfl) ?_
                  refine awp_regionA (c := ⟨[4, 118], [], [], [140, 161, 61, 77, 97], [22]⟩) (by simp only [lite_cons, lite_nil] <;> rfl) fun all hall K hK => ?_
                  have ga7 : guardOf all 7 = some 94 := hall 7
                  clear hall
                  refine vcL_split 8 fun K' hK' => ?_
                  simp (maxSteps := 1000000) (disch := first | omega | assumption) [og_at, og_put, og_at0, og_put0, ga7]
                  repeat' refine And.intro ?_ ?_
                  all_goals first | omega | exact rfl | skip
                  refine hK' _ ?_
                  clear hK' K'
                  simp only [List.drop_succ_cons, List.drop_zero]
                  refine vcL_bool 94 (by simp <;> rfl) ?_
                  refine ⟨fun g23 => ?_, fun g23 => ?_⟩
                  · try simp at g23
                    simp (maxSteps := 1000000) (disch := first | omega | assumption) [og_at, og_put, og_at0, og_put0, ga7]
                    repeat' refine And.intro ?_ ?_
                    all_goals first | omega | exact rfl | skip
                    refine hK _ ?_
                    clear hK K
                    clear ga7
                    clear all
                    refine q_then_n ?_
                    refine awp_ifB (by simp <;> rfl) ?_
                    refine ⟨fun c24 => ?_, fun c24 => ?_⟩
                    · try simp at c24
                      exfalso
                      have h9 := hi.allOld (by omega) hn1 (List.getElem?_eq_getElem (show n < A.length by omega)) (by omega)
                      rw [List.getElem?_eq_getElem (by omega), c24] at h9
                      simp at h9
                    · try simp at c24
                      refine awp_skip ?_
                      refine q_block_n ?_
                      refine q_then_n ?_
                      refine awp_keep [0, 3, 4, 5, 6, 7, 8, 15] (by simp only [keepL_nil, keepL_cons, envOf_sel, envOf_nil, sel_t, sel_f, Nat.reduceBEq] <;> rfl) ?_
                      refine awp_regionA (c := ⟨[4, 118], [], [], [140, 161, 61, 77, 97], [22]⟩) (by simp only [lite_cons, lite_nil] <;> rfl) fun all hall K hK => ?_
                      clear hall
                      simp (maxSteps := 1000000) (disch := first | omega | assumption) [og_at, og_put, og_at0, og_put0]
                      repeat' refine And.intro ?_ ?_
                      all_goals first | omega | exact rfl | skip
                      refine hK _ ?_
                      clear hK K
                      clear all
                      refine q_round (n + 1) ?_ ?_ (weak_mkA rfl ?_ (by simp) (by simp))
                      · omega
                      · try dsimp only
                        omega
                      · simp (maxSteps := 1000000) (disch := first | omega | assumption) [og_at, og_put, og_at0, og_put0]
                  · try simp at g23
                    simp (maxSteps := 1000000) (disch := first | omega | assumption) [og_at, og_put, og_at0, og_put0, ga7]
                    repeat' refine And.intro ?_ ?_
                    all_goals first | omega | exact rfl | skip
                    refine hK _ ?_
                    clear hK K
                    clear ga7
                    clear all
                    refine q_then_n ?_
                    refine awp_cond (t := false) (by simp) (fun h => by cases h) (fun _ => ?_)
                    refine awp_skip ?_
                    refine q_block_n ?_
                    refine q_then_n ?_
                    refine awp_keep [0, 3, 4, 5, 6, 7, 8, 15] (by simp only [keepL_nil, keepL_cons, envOf_sel, envOf_nil, sel_t, sel_f, Nat.reduceBEq] <;> rfl) ?_
                    refine awp_regionA (c := ⟨[4, 118], [], [], [140, 161, 61, 77, 97], [22]⟩) (by simp only [lite_cons, lite_nil] <;> rfl) fun all hall K hK => ?_
                    clear hall
                    simp (maxSteps := 1000000) (disch := first | omega | assumption) [og_at, og_put, og_at0, og_put0]
                    repeat' refine And.intro ?_ ?_
                    all_goals first | omega | exact rfl | skip
                    refine hK _ ?_
                    clear hK K
                    clear all
                    refine q_round (n + 1) ?_ ?_ (weak_mkA rfl ?_ (by simp) (by simp))
                    · omega
                    · try dsimp only
                      omega
                    · simp (maxSteps := 1000000) (disch := first | omega | assumption) [og_at, og_put, og_at0, og_put0]
                · try simp at c22
                  refine awp_exit ?_
                  refine q_then_e ?_
                  refine q_loop_e ?_
                  refine q_block_e ?_
                  refine q_block_n ?_
                  refine q_block_n ?_
                  refine q_then_n ?_
                  refine awp_keep [0, 3, 4, 5, 6, 7, 8] (by simp only [keepL_nil, keepL_cons, envOf_sel, envOf_nil, sel_t, sel_f, Nat.reduceBEq] <;> rfl) ?_
                  refine awp_regionA (c := ⟨[4, 118], [], [], [140, 161, 61, 77, 97], [22]⟩) (by simp only [lite_cons, lite_nil] <;> rfl) fun all hall K hK => ?_
                  clear hall
                  simp (maxSteps := 1000000) (disch := first | omega | assumption) [og_at, og_put, og_at0, og_put0]
                  repeat' refine And.intro ?_ ?_
                  all_goals first | omega | exact rfl | skip
                  refine hK _ ?_
                  clear hK K
                  clear all
                  refine q_round (⟨k + 1, qnext q, A, mark G q.w0, now + 1, came + q.w0.length⟩) ?_ ?_ (weak_mkA rfl ?_ (by simp) (by simp))
                  · exact ⟨by dsimp only; omega, by dsimp only; omega, sinv_frame hi (by omega)⟩
                  · try dsimp only
                    omega
                  · simp (maxSteps := 1000000) (disch := first | omega | assumption) [og_at, og_put, og_at0, og_put0]
        · try simp at c4
          refine awp_exit ?_
          refine q_then_e ?_
          refine q_loop_e ?_
          refine q_block_e ?_
          refine q_then_n ?_
          refine awp_seq ?_
          refine awp_keep [3, 4, 7] (by simp only [keepL_nil, keepL_cons, envOf_sel, envOf_nil, sel_t, sel_f, Nat.reduceBEq] <;> rfl) ?_
          refine awp_regionA (c := ⟨[4, 118], [], [], [140, 161, 61, 77, 97], [22]⟩) (by simp only [lite_cons, lite_nil] <;> rfl) fun all hall K hK => ?_
          clear hall
          refine vcL_split 1 fun K' hK' => ?_
          simp (maxSteps := 1000000) (disch := first | omega | assumption) [og_at, og_put, og_at0, og_put0]
          repeat' refine And.intro ?_ ?_
          all_goals first | omega | exact rfl | skip
          refine hK' _ ?_
          clear hK' K'
          simp only [List.drop_succ_cons, List.drop_zero]
          refine vcL_step fun K' hK' => ?_
          simp (maxSteps := 1000000) (disch := first | omega | assumption) [og_at, og_put, og_at0, og_put0]
          refine Ct.mono (Ct.of_le (qlen_fn (σ.length + 1) q _ (by simp [og_at, og_put, og_at0, og_put0]) hok) (by first | exact leArgs_of rfl | (refine leArgs_of ?_; simp; done) | (refine leArgs_of ?_; simp; rfl) | (simp [leArgs, leArg]; done)) rfl) ?_
          rintro _ _ ⟨hr9, hs9⟩
          subst hr9
          replace hs9 := hs9.symm
          subst hs9
          refine hK' _ ?_
          clear hK' K'
          simp (maxSteps := 1000000) (disch := first | omega | assumption) [og_at, og_put, og_at0, og_put0]
          repeat' refine And.intro ?_ ?_
          all_goals first | omega | exact rfl | skip
          refine hK _ ?_
          clear hK K
          clear all
          refine q_then_n ?_
          refine awp_ret ?_
          simp [endQ]
          exact hi.cnt
      · try simp at g3
        simp (maxSteps := 1000000) (disch := first | omega | assumption) [og_at, og_put, og_at0, og_put0, ga4]
        repeat' refine And.intro ?_ ?_
        all_goals first | omega | exact rfl | skip
        refine hK _ ?_
        clear hK K
        clear ga4
        clear all
        refine q_then_n ?_
        refine awp_cond (t := false) (by simp) (fun h => by cases h) (fun _ => ?_)
        refine awp_exit ?_
        refine q_then_e ?_
        refine q_loop_e ?_
        refine q_block_e ?_
        refine q_then_n ?_
        refine awp_seq ?_
        refine awp_keep [3, 4, 7] (by simp only [keepL_nil, keepL_cons, envOf_sel, envOf_nil, sel_t, sel_f, Nat.reduceBEq] <;> rfl) ?_
        refine awp_regionA (c := ⟨[4, 118], [], [], [140, 161, 61, 77, 97], [22]⟩) (by simp only [lite_cons, lite_nil] <;> rfl) fun all hall K hK => ?_
        clear hall
        refine vcL_split 1 fun K' hK' => ?_
        simp (maxSteps := 1000000) (disch := first | omega | assumption) [og_at, og_put, og_at0, og_put0]
        repeat' refine And.intro ?_ ?_
        all_goals first | omega | exact rfl | skip
        refine hK' _ ?_
        clear hK' K'
        simp only [List.drop_succ_cons, List.drop_zero]
        refine vcL_step fun K' hK' => ?_
        simp (maxSteps := 1000000) (disch := first | omega | assumption) [og_at, og_put, og_at0, og_put0]
        refine Ct.mono (Ct.of_le (qlen_fn (σ.length + 1) q _ (by simp [og_at, og_put, og_at0, og_put0]) hok) (by first | exact leArgs_of rfl | (refine leArgs_of ?_; simp; done) | (refine leArgs_of ?_; simp; rfl) | (simp [leArgs, leArg]; done)) rfl) ?_
        rintro _ _ ⟨hr9, hs9⟩
        subst hr9
        replace hs9 := hs9.symm
        subst hs9
        refine hK' _ ?_
        clear hK' K'
        simp (maxSteps := 1000000) (disch := first | omega | assumption) [og_at, og_put, og_at0, og_put0]
        repeat' refine And.intro ?_ ?_
        all_goals first | omega | exact rfl | skip
        refine hK _ ?_
        clear hK K
        clear all
        refine q_then_n ?_
        refine awp_ret ?_
        simp [endQ]
        exact hi.cnt

end Go.Proofs.Ythieajadepfeoaa
