import Derived.Test.YtnlokhfcgaikiaaVmX1
namespace Go.Vm
open Go
section
variable {P : Program}
theorem flatD_get {k : Nat} (hk : 0 < k) : ∀ (es : List D), (∀ d ∈ es, d.cells.length = k) → ∀ j, (es.flatMap D.cells)[j]? = (es[j / k]?).bind fun d => d.cells[j % k]?
 | [], _, j => by simp
 | d :: es, h, j => by
  have hd := h d (by simp)
  have ih := flatD_get hk es fun x hx => h x (by simp [hx])
  rw [List.flatMap_cons]
  by_cases hj : j < k
  ·rw [List.getElem?_append_left (by omega), Nat.div_eq_of_lt hj, Nat.mod_eq_of_lt hj]; rfl
  ·rw [List.getElem?_append_right (by omega), hd, ih]
   have e1 : j / k = (j - k) / k + 1 := by
    have := Nat.add_div_right (j - k) hk
    rw [show j - k + k = j by omega] at this; exact this
   have e2 : j % k = (j - k) % k := by
    have := Nat.add_mod_right (j - k) k
    rw [show j - k + k = j by omega] at this; exact this
   rw [e1, e2]; rfl
theorem flatD_len {k : Nat} : ∀ (es : List D), (∀ d ∈ es, d.cells.length = k) → (es.flatMap D.cells).length = es.length * k
 | [], _ => by simp
 | d :: es, h => by
  rw [List.flatMap_cons, List.length_append, h d (by simp), flatD_len es fun x hx => h x (by simp [hx]), List.length_cons, Nat.add_mul]; omega
theorem flatD_at {k : Nat} (hk : 0 < k) (es : List D) (h : ∀ d ∈ es, d.cells.length = k) {i j : Nat} {d c : D} (hd : es[i]? = some d) (hc : d.cells[j]? = some c) : (es.flatMap D.cells)[i * k + j]? = some c := by
 have hj : j < k := by rw [← h d (List.mem_of_getElem? hd)]; exact (List.getElem?_eq_some_iff.1 hc).1
 rw [flatD_get hk es h, Nat.add_comm, Nat.add_mul_div_right _ _ hk, Nat.div_eq_of_lt hj, Nat.zero_add, hd, Nat.add_mul_mod_self_right, Nat.mod_eq_of_lt hj]
 exact hc
def setTag (b : Nat) (t : Tag) (X : Nat → Option Tag) : Nat → Option Tag := fun b' => if b' = b then some t else X b'
theorem Ok.openX {w : World} {g : Gh} {st : St} {val : Nat → Value} (h : Ok w g st val) (ts k : Nat) (es : List D) (hs : st.env ts = .d (.xs k es)) (hk0 : 0 < k) :
  ∃ (cap : Nat) (rest : List D) (g' : Gh), es.length ≤ cap ∧ cap ≤ maxLen ∧ rest.length = (cap - es.length) * k ∧ 0 < k ∧ (∀ d ∈ es, d.ncells = k ∧ d.arr = true) ∧ g'.bl = g.bl ∧ Fr w g w g' ∧
   Ok w g' { st.set ts (.d (.slo st.obj.length 0 es.length cap)) with obj := st.obj ++ [es.flatMap D.cells ++ rest] } val := by
 have hsl := h.slot ts
 rw [hs] at hsl
 obtain ⟨hr, ho⟩ := hsl
 have hO : OwnX w g.M g.bs g.X (.slot ts, []) k es (val ts) := by
  cases ho with
  | xs p k es v ho => exact ho
  | flat p d v hf => simp [D.flat] at hf
 rcases hO with ⟨rfl, _⟩ | ⟨b, n, cap, cur, E, hv, o1, o2, o3, o4, o5, o6, o7, o8, o9, o10, o11⟩
 ·rename_i hv0
  obtain ⟨a, hv⟩ := hv0
  have hbs : ∀ (n b' : Nat), g.bs[n]? = some b' → (g.bs ++ [0])[n]? = some b' := fun n b' hb => by
   rw [List.getElem?_append_left (by exact (List.getElem?_eq_some_iff.1 hb).1)]; exact hb
  have other : ∀ (hd : Holder) (b' : Nat) (q : List Nat), g.X b' = some (hd, q) → w.heap[b']? = w.heap[b']? ∧ (∀ o, g.M b' o = none → g.M b' o = none) ∧ g.X b' = some (hd, q) := fun hd b' q hx => ⟨rfl, fun _ h => h, hx⟩
  refine ⟨0, [], { g with bs := g.bs ++ [0] }, by simp, by simp, by simp, hk0, by simp, rfl, ⟨rfl, rfl, rfl, Nat.le_refl _, fun b' hb' hx => ⟨rfl, hx, fun _ => rfl⟩, fun _ _ _ h => h, hbs⟩, ?_⟩
  refine ⟨h.mem, h.xlt, fun u => ?_, h.ll, fun n b' cs h1 h2 => (h.loc n b' cs h1 h2).keep (fun _ _ _ h => h) hbs (other _), by simp [h.ol], fun n b' cs h1 h2 => ?_⟩
  ·simp only [St.set]
   by_cases hu : u = ts
   ·subst hu
    simp only [if_true]
    rw [hv]
    exact ⟨.slo _ 0 _ 0 _ (fun h => absurd h (by simp)) (by simp) (by simp), .flat _ _ _ rfl⟩
   ·simp only [hu, if_false]
    exact (h.slot u).keep (fun _ _ _ h => h) hbs (fun _ _ h => h) (other _)
  ·by_cases hn : n < st.obj.length
   ·have h1' : g.bs[n]? = some b' := by rw [List.getElem?_append_left (by rw [h.ol]; exact hn)] at h1; exact h1
    have h2' : st.obj[n]? = some cs := by rw [List.getElem?_append_left hn] at h2; exact h2
    exact (h.obj n b' cs h1' h2').keep (fun _ _ _ h => h) hbs (other _)
   ·have hlt := (List.getElem?_eq_some_iff.1 h2).1
    simp at hlt
    have hn' : n = st.obj.length := by omega
    subst hn'
    exact .inl (by simpa using h2.symm)
 subst o5
 have hlen : ∀ d ∈ es, d.cells.length = k := fun d hd => by
  obtain ⟨i, hi⟩ := List.getElem?_of_mem hd
  rw [ncells_cells]; exact (o10 i d hi).1
 have hfl := flatD_len es hlen
 have hbs : ∀ (n b' : Nat), g.bs[n]? = some b' → (g.bs ++ [b])[n]? = some b' := fun n b' hb => by
  rw [List.getElem?_append_left (by exact (List.getElem?_eq_some_iff.1 hb).1)]; exact hb
 have hsub : es.length * k + (cap - es.length) * k = cap * k := by rw [← Nat.add_mul]; congr 1; omega
 have other : ∀ (hd : Holder), hd ≠ .slot ts → ∀ (b' : Nat) (q : List Nat), g.X b' = some (hd, q) → w.heap[b']? = w.heap[b']? ∧ (∀ o, g.M b' o = none → g.M b' o = none) ∧ setTag b (.obj st.obj.length, []) g.X b' = some (hd, q) := by
  intro hd hne b' q hx
  refine ⟨rfl, fun _ h => h, ?_⟩
  have : b' ≠ b := by intro e; subst e; rw [o1] at hx; simp only [Option.some.injEq, Prod.mk.injEq] at hx; exact hne hx.1.symm
  simp only [setTag, if_neg this]; exact hx
 refine ⟨cap, List.replicate ((cap - es.length) * k) .any, { g with X := setTag b (.obj st.obj.length, []) g.X, bs := g.bs ++ [b] }, o6, o7, by simp, o3, fun d hd => by
  obtain ⟨i, hi⟩ := List.getElem?_of_mem hd
  exact o10 i d hi, rfl, ⟨rfl, rfl, rfl, Nat.le_refl _, fun b' hb' hx => ⟨rfl, ?_, fun _ => rfl⟩, fun _ _ _ h => h, hbs⟩, ?_⟩
 ·have : b' ≠ b := by intro e; subst e; rw [o1] at hx; cases hx
  show setTag b (.obj st.obj.length, []) g.X b' = none
  simp only [setTag, if_neg this]; exact hx
 ·refine ⟨h.mem, fun b' t hx => ?_, fun u => ?_, h.ll, fun n b' cs h1 h2 => (h.loc n b' cs h1 h2).keep (fun _ _ _ h => h) hbs (other _ (by simp)), by simp [h.ol], fun n b' cs h1 h2 => ?_⟩
  ·by_cases e : b' = b
   ·subst e; exact h.xlt _ _ o1
   ·simp only [setTag, if_neg e] at hx; exact h.xlt b' t hx
  ·simp only [St.set]
   by_cases hu : u = ts
   ·subst hu
    simp only [if_true]
    rw [hv]
    exact ⟨.slo _ 0 _ cap _ (fun _ => ⟨b, by rw [← h.ol]; simp, rfl⟩) o6 o7, .flat _ _ _ rfl⟩
   ·simp only [hu, if_false]
    exact (h.slot u).keep (fun _ _ _ h => h) hbs (fun _ _ h => h) (other _ (by simp [hu]))
  ·by_cases hn : n < st.obj.length
   ·have h1' : g.bs[n]? = some b' := by rw [List.getElem?_append_left (by rw [h.ol]; exact hn)] at h1; exact h1
    have h2' : st.obj[n]? = some cs := by rw [List.getElem?_append_left hn] at h2; exact h2
    exact (h.obj n b' cs h1' h2').keep (fun _ _ _ h => h) hbs (other _ (by simp))
   ·have hlt := (List.getElem?_eq_some_iff.1 h2).1
    simp at hlt
    have hn' : n = st.obj.length := by omega
    subst hn'
    have e1 : b' = b := by
     have h1' := h1
     rw [← h.ol] at h1'
     simpa using h1'.symm
    have e2 : cs = es.flatMap D.cells ++ List.replicate ((cap - es.length) * k) .any := by simpa using h2.symm
    subst e1; subst e2
    refine .inr ⟨cur, E, o2, ?_, by simp [setTag], o8, fun i d x a1 a2 => ?_⟩
    ·rw [List.length_append, hfl, List.length_replicate, hsub, o4]
    ·have h1c := o9 i x a2
     by_cases hi : i < es.length * k
     ·rw [List.getElem?_append_left (by rw [hfl]; exact hi), flatD_get o3 es hlen, Option.bind_eq_some_iff] at a1
      obtain ⟨d0, b1, b2⟩ := a1
      obtain ⟨y, y1, y2⟩ := o11 _ d0 _ d b1 b2
      have : i / k * k + i % k = i := by rw [Nat.mul_comm]; exact Nat.div_add_mod i k
      rw [this, a2] at y1
      have hyx : y = x := by simpa using y1.symm
      subst hyx
      have harr := (o10 _ d0 b1).2
      have hf : d.flat = true := by
       unfold D.arr at harr
       rw [List.all_eq_true] at harr
       exact harr d (List.mem_of_getElem? b2)
      exact ⟨y2.mono (fun _ _ _ h => h) hbs, .flat _ _ _ hf, h1c⟩
     ·rw [List.getElem?_append_right (by rw [hfl]; omega)] at a1
      have hd : d = .any := List.eq_of_mem_replicate (List.mem_of_getElem? a1)
      subst hd
      exact ⟨.any _, .flat _ _ _ rfl, h1c⟩
theorem Ok.closeX {w : World} {g : Gh} {st : St} {val : Nat → Value} (h : Ok w g st val) (ts k m len cap : Nat) (es cs : List D) (hs : st.env ts = .d (.slo m 0 len cap)) (hm : st.obj[m]? = some cs) (hk : 0 < k) (hcs : cs.length = cap * k) (hl : es.length = len)
  (hes : ∀ d ∈ es, d.ncells = k ∧ d.arr = true) (he : es.flatMap D.cells <+: cs) :
  ∃ g', g'.bl = g.bl ∧ Fr w g w g' ∧ Ok w g' { st.set ts (.d (.xs k es)) with obj := st.obj.set m [] } val := by
 have hsl := h.slot ts
 rw [hs] at hsl
 obtain ⟨hr, _⟩ := hsl
 generalize hv : val ts = v at hr
 cases hr with
 | slo _ _ _ _ x hb hc hmx =>
 have hml0 : m < st.obj.length := (List.getElem?_eq_some_iff.1 hm).1
 rcases Nat.eq_zero_or_pos cap with hc0 | hcap0
 ·subst hc0
  have hl0 : len = 0 := by omega
  subst hl0
  have hes0 : es = [] := List.eq_nil_of_length_eq_zero hl
  subst hes0
  have other : ∀ (hd : Holder) (b' : Nat) (q : List Nat), g.X b' = some (hd, q) → w.heap[b']? = w.heap[b']? ∧ (∀ o, g.M b' o = none → g.M b' o = none) ∧ g.X b' = some (hd, q) := fun hd b' q hx => ⟨rfl, fun _ h => h, hx⟩
  refine ⟨g, rfl, Fr.refl w g, h.mem, h.xlt, fun u => ?_, h.ll, h.loc, by simp [h.ol], fun n b' cs' h1 h2 => ?_⟩
  ·simp only [St.set]
   by_cases hu : u = ts
   ·subst hu
    simp only [if_true]
    rw [hv]
    exact ⟨.xs k [] _ _ 0 rfl (Nat.le_refl _) hmx (fun _ => ⟨rfl, rfl⟩), .xs _ _ _ _ (.inl ⟨rfl, _, rfl⟩)⟩
   ·simp only [hu, if_false]
    exact h.slot u
  ·rw [List.getElem?_set] at h2
   split at h2
   ·simp only [Option.some.injEq] at h2
    exact .inl (by simpa [hml0] using h2.symm)
   ·exact h.obj n b' cs' h1 h2
 have hne : cs ≠ [] := by
  intro e
  rw [e] at hcs
  have : 0 < cap * k := Nat.mul_pos hcap0 hk
  simp at hcs
  omega
 obtain ⟨b, hb2, rfl⟩ := hb hcap0
 obtain ⟨cur, E, o1, o2, o3, o4, o5⟩ := (h.obj m b cs hb2 hm).resolve_left hne
 have hlen : ∀ d ∈ es, d.cells.length = k := fun d hd => by rw [ncells_cells]; exact (hes d hd).1
 have hml : m < st.obj.length := (List.getElem?_eq_some_iff.1 hm).1
 have other : ∀ (hd : Holder), hd ≠ .obj m → ∀ (b' : Nat) (q : List Nat), g.X b' = some (hd, q) → w.heap[b']? = w.heap[b']? ∧ (∀ o, g.M b' o = none → g.M b' o = none) ∧ setTag b (.slot ts, []) g.X b' = some (hd, q) := by
  intro hd hne b' q hx
  refine ⟨rfl, fun _ h => h, ?_⟩
  have : b' ≠ b := by intro e; subst e; rw [o3] at hx; simp only [Option.some.injEq, Prod.mk.injEq] at hx; exact hne hx.1.symm
  simp only [setTag, if_neg this]; exact hx
 refine ⟨{ g with X := setTag b (.slot ts, []) g.X }, rfl, ⟨rfl, rfl, rfl, Nat.le_refl _, fun b' hb' hx => ⟨rfl, ?_, fun _ => rfl⟩, fun _ _ _ h => h, fun _ _ h => h⟩, ?_⟩
 ·have : b' ≠ b := by intro e; subst e; rw [o3] at hx; cases hx
  show setTag b (.slot ts, []) g.X b' = none
  simp only [setTag, if_neg this]; exact hx
 ·refine ⟨h.mem, fun b' t hx => ?_, fun u => ?_, h.ll, fun n b' cs h1 h2 => (h.loc n b' cs h1 h2).keep (fun _ _ _ h => h) (fun _ _ h => h) (other _ (by simp)), by simp [h.ol], fun n b' cs' h1 h2 => ?_⟩
  ·by_cases e : b' = b
   ·subst e; exact h.xlt _ _ o3
   ·simp only [setTag, if_neg e] at hx; exact h.xlt b' t hx
  ·simp only [St.set]
   by_cases hu : u = ts
   ·subst hu
    simp only [if_true]
    rw [hv]
    refine ⟨.xs k es _ _ cap hl.symm (by omega) hmx (by simp), .xs _ _ _ _ (.inr ⟨b, len, cap, cur, E, rfl, by simp [setTag], o1, hk, by rw [o2, hcs], hl.symm, hc, hmx, o4, fun o c ho => ?_, fun i d hi => hes d (List.mem_of_getElem? hi), fun i d j e a1 a2 => ?_⟩)⟩
    ·have hlt := (Array.getElem?_eq_some_iff.1 ho).1
     rw [o2] at hlt
     exact (o5 o _ c (List.getElem?_eq_getElem hlt) ho).2.2
    ·have hcell := flatD_at hk es hlen a1 a2
     obtain ⟨rest, hrest⟩ := he
     have hcc : cs[i * k + j]? = some e := by
      rw [← hrest, List.getElem?_append_left (by exact (List.getElem?_eq_some_iff.1 hcell).1)]; exact hcell
     have hlt := (List.getElem?_eq_some_iff.1 hcc).1
     rw [← o2] at hlt
     exact ⟨_, Array.getElem?_eq_getElem hlt, (o5 _ e _ hcc (Array.getElem?_eq_getElem hlt)).1⟩
   ·simp only [hu, if_false]
    exact (h.slot u).keep (fun _ _ _ h => h) (fun _ _ h => h) (fun _ _ h => h) (other _ (by simp))
  ·rw [List.getElem?_set] at h2
   split at h2
   ·simp only [Option.some.injEq] at h2
    exact .inl (by simpa [hml] using h2.symm)
   ·rename_i e
    exact (h.obj n b' cs' h1 h2).keep (fun _ _ _ h => h) (fun _ _ h => h) (other _ (by simp; exact fun e' => e e'.symm))
end
end Go.Vm
