import Derived.Test.YtighdhfgcdjmeaaGreatDoorVmX1
namespace Go.Vm
open Go
set_option linter.all false
section
variable {P : Program}
theorem lM {k : Nat} (hk : 0 < k) : ∀ (es : List D), (∀ d ∈ es, d.cells.length = k) → ∀ j, (es.flatMap D.cells)[j]? = (es[j / k]?).bind fun d => d.cells[j % k]?
 | [], _, j => by simp
 | d :: es, h, j => by
  have hd := h d (by simp);have ih := lM hk es fun x hx => h x (by simp [hx]);rw [List.flatMap_cons];by_cases hj : j < k
  ·rw [List.getElem?_append_left (by omega), Nat.div_eq_of_lt hj, Nat.mod_eq_of_lt hj]; rfl
  ·rw [List.getElem?_append_right (by omega), hd, ih];have e1 : j / k = (j - k) / k + 1 := by
    have := Nat.add_div_right (j - k) hk;rw [show j - k + k = j by omega] at this; exact this
   have e2 : j % k = (j - k) % k := by
    have := Nat.add_mod_right (j - k) k;rw [show j - k + k = j by omega] at this; exact this
   rw [e1, e2]; rfl
theorem jH {k : Nat} : ∀ (es : List D), (∀ d ∈ es, d.cells.length = k) → (es.flatMap D.cells).length = es.length * k
 | [], _ => by simp
 | d :: es, h => by
  rw [List.flatMap_cons, List.length_append, h d (by simp), jH es fun x hx => h x (by simp [hx]), List.length_cons, Nat.add_mul]; omega
theorem Am {k : Nat} (hk : 0 < k) (es : List D) (h : ∀ d ∈ es, d.cells.length = k) {i j : Nat} {d c : D} (hd : es[i]? = some d) (hc : d.cells[j]? = some c) : (es.flatMap D.cells)[i * k + j]? = some c := by
 have hj : j < k := by rw [← h d (List.mem_of_getElem? hd)]; exact (List.getElem?_eq_some_iff.1 hc).1
 rw [lM hk es h, Nat.add_comm, Nat.add_mul_div_right _ _ hk, Nat.div_eq_of_lt hj, Nat.zero_add, hd, Nat.add_mul_mod_self_right, Nat.mod_eq_of_lt hj];exact hc
def fU (b : Nat) (t : fO) (X : Nat → Option fO) : Nat → Option fO := fun b' => if b' = b then some t else X b'
theorem Ok.openX2 {w : World} {g : Gh} {st : St} {val : Nat → Value} (h : Ok w g st val) (ts k : Nat) (es : List D) (hs : st.env ts = .d (.xs k es)) (hk0 : 0 < k) :
  ∃ (cap : Nat) (rest : List D) (g' : Gh), es.length ≤ cap ∧ cap ≤ maxLen ∧ rest = List.replicate ((cap - es.length) * k) .any ∧ 0 < k ∧ (∀ d ∈ es, d.ncells = k ∧ d.arr = true) ∧ g'.bl = g.bl ∧ Fr w g w g' ∧
   Ok w g' { st.set ts (.d (.slo st.obj.length 0 es.length cap)) with obj := st.obj ++ [es.flatMap D.cells ++ rest] } val := by
 have hsl := h.slot ts;rw [hs] at hsl;obtain ⟨hr, ho⟩ := hsl;have hO : Oc w g.M g.bs g.X (.slot ts, []) k es (val ts) := by
  cases ho with
  | xs p k es v ho => exact ho
  | flat p d v hf => simp [D.flat] at hf
 rcases hO with ⟨rfl, _⟩ | ⟨b, n, cap, cur, E, hv, o1, o2, o3, o4, o5, o6, o7, o8, o9, o10, o11⟩
 ·rename_i hv0;obtain ⟨a, hv⟩ := hv0;have hbs : ∀ (n b' : Nat), g.bs[n]? = some b' → (g.bs ++ [0])[n]? = some b' := fun n b' hb => by
   rw [List.getElem?_append_left (by exact (List.getElem?_eq_some_iff.1 hb).1)]; exact hb
  have other : ∀ (hd : Holder) (b' : Nat) (q : List Nat), g.X b' = some (hd, q) → w.heap[b']? = w.heap[b']? ∧ (∀ o, g.M b' o = none → g.M b' o = none) ∧ g.X b' = some (hd, q) := fun hd b' q hx => ⟨rfl, fun _ h => h, hx⟩;refine ⟨0, [], { g with bs := g.bs ++ [0] }, by simp, by simp, by simp, hk0, by simp, rfl, ⟨rfl, rfl, rfl, Nat.le_refl _, fun b' hb' hx => ⟨rfl, hx, fun _ => rfl⟩, fun _ _ _ h => h, hbs⟩, ?_⟩;refine ⟨h.mem, h.xlt, fun u => ?_, h.ll, fun n b' cs h1 h2 => (h.loc n b' cs h1 h2).keep (fun _ _ _ h => h) hbs (other _), by simp [h.ol], fun n b' cs h1 h2 => ?_⟩
  ·simp only [St.set];by_cases hu : u = ts
   ·subst hu;simp only [if_true];rw [hv];exact ⟨.slo _ 0 _ 0 _ (fun h => absurd h (by simp)) (by simp) (by simp), .flat _ _ _ rfl⟩
   ·simp only [hu, if_false];exact (h.slot u).keep (fun _ _ _ h => h) hbs (fun _ _ h => h) (other _)
  ·by_cases hn : n < st.obj.length
   ·have h1' : g.bs[n]? = some b' := by rw [List.getElem?_append_left (by rw [h.ol]; exact hn)] at h1; exact h1
    have h2' : st.obj[n]? = some cs := by rw [List.getElem?_append_left hn] at h2; exact h2
    exact (h.obj n b' cs h1' h2').keep (fun _ _ _ h => h) hbs (other _)
   ·have hlt := (List.getElem?_eq_some_iff.1 h2).1;simp at hlt;have hn' : n = st.obj.length := by omega
    subst hn';exact .inl (by simpa using h2.symm)
 subst o5;have hlen : ∀ d ∈ es, d.cells.length = k := fun d hd => by
  obtain ⟨i, hi⟩ := List.getElem?_of_mem hd;rw [cB]; exact (o10 i d hi).1
 have hfl := jH es hlen;have hbs : ∀ (n b' : Nat), g.bs[n]? = some b' → (g.bs ++ [b])[n]? = some b' := fun n b' hb => by
  rw [List.getElem?_append_left (by exact (List.getElem?_eq_some_iff.1 hb).1)]; exact hb
 have hsub : es.length * k + (cap - es.length) * k = cap * k := by rw [← Nat.add_mul]; congr 1; omega
 have other : ∀ (hd : Holder), hd ≠ .slot ts → ∀ (b' : Nat) (q : List Nat), g.X b' = some (hd, q) → w.heap[b']? = w.heap[b']? ∧ (∀ o, g.M b' o = none → g.M b' o = none) ∧ fU b (.obj st.obj.length, []) g.X b' = some (hd, q) := by
  intro hd hne b' q hx;refine ⟨rfl, fun _ h => h, ?_⟩;have : b' ≠ b := by intro e; subst e; rw [o1] at hx; simp only [Option.some.injEq, Prod.mk.injEq] at hx; exact hne hx.1.symm
  simp only [fU, if_neg this]; exact hx
 refine ⟨cap, List.replicate ((cap - es.length) * k) .any, { g with X := fU b (.obj st.obj.length, []) g.X, bs := g.bs ++ [b] }, o6, o7, rfl, o3, fun d hd => by
  obtain ⟨i, hi⟩ := List.getElem?_of_mem hd;exact o10 i d hi, rfl, ⟨rfl, rfl, rfl, Nat.le_refl _, fun b' hb' hx => ⟨rfl, ?_, fun _ => rfl⟩, fun _ _ _ h => h, hbs⟩, ?_⟩
 ·have : b' ≠ b := by intro e; subst e; rw [o1] at hx; cases hx
  show fU b (.obj st.obj.length, []) g.X b' = none
  simp only [fU, if_neg this]; exact hx
 ·refine ⟨h.mem, fun b' t hx => ?_, fun u => ?_, h.ll, fun n b' cs h1 h2 => (h.loc n b' cs h1 h2).keep (fun _ _ _ h => h) hbs (other _ (by simp)), by simp [h.ol], fun n b' cs h1 h2 => ?_⟩
  ·by_cases e : b' = b
   ·subst e; exact h.xlt _ _ o1
   ·simp only [fU, if_neg e] at hx; exact h.xlt b' t hx
  ·simp only [St.set];by_cases hu : u = ts
   ·subst hu;simp only [if_true];rw [hv];exact ⟨.slo _ 0 _ cap _ (fun _ => ⟨b, by rw [← h.ol]; simp, rfl⟩) o6 o7, .flat _ _ _ rfl⟩
   ·simp only [hu, if_false];exact (h.slot u).keep (fun _ _ _ h => h) hbs (fun _ _ h => h) (other _ (by simp [hu]))
  ·by_cases hn : n < st.obj.length
   ·have h1' : g.bs[n]? = some b' := by rw [List.getElem?_append_left (by rw [h.ol]; exact hn)] at h1; exact h1
    have h2' : st.obj[n]? = some cs := by rw [List.getElem?_append_left hn] at h2; exact h2
    exact (h.obj n b' cs h1' h2').keep (fun _ _ _ h => h) hbs (other _ (by simp))
   ·have hlt := (List.getElem?_eq_some_iff.1 h2).1;simp at hlt;have hn' : n = st.obj.length := by omega
    subst hn';have e1 : b' = b := by
     have h1' := h1;rw [← h.ol] at h1';simpa using h1'.symm
    have e2 : cs = es.flatMap D.cells ++ List.replicate ((cap - es.length) * k) .any := by simpa using h2.symm
    subst e1; subst e2;refine .inr ⟨cur, E, o2, ?_, by simp [fU], o8, fun i d x a1 a2 => ?_⟩
    ·rw [List.length_append, hfl, List.length_replicate, hsub, o4]
    ·have h1c := o9 i x a2;by_cases hi : i < es.length * k
     ·rw [List.getElem?_append_left (by rw [hfl]; exact hi), lM o3 es hlen, Option.bind_eq_some_iff] at a1;obtain ⟨d0, b1, b2⟩ := a1;obtain ⟨y, y1, y2⟩ := o11 _ d0 _ d b1 b2;have : i / k * k + i % k = i := by rw [Nat.mul_comm]; exact Nat.div_add_mod i k
      rw [this, a2] at y1;have hyx : y = x := by simpa using y1.symm
      subst hyx;have harr := (o10 _ d0 b1).2;have hf : d.flat = true := by
       unfold D.arr at harr;rw [List.all_eq_true] at harr;exact harr d (List.mem_of_getElem? b2)
      exact ⟨y2.mono (fun _ _ _ h => h) hbs, .flat _ _ _ hf, h1c⟩
     ·rw [List.getElem?_append_right (by rw [hfl]; omega)] at a1;have hd : d = .any := List.eq_of_mem_replicate (List.mem_of_getElem? a1);subst hd;exact ⟨.any _, .flat _ _ _ rfl, h1c⟩
theorem Ok.openX {w : World} {g : Gh} {st : St} {val : Nat → Value} (h : Ok w g st val) (ts k : Nat) (es : List D) (hs : st.env ts = .d (.xs k es)) (hk0 : 0 < k) :
  ∃ (cap : Nat) (rest : List D) (g' : Gh), es.length ≤ cap ∧ cap ≤ maxLen ∧ rest.length = (cap - es.length) * k ∧ 0 < k ∧ (∀ d ∈ es, d.ncells = k ∧ d.arr = true) ∧ g'.bl = g.bl ∧ Fr w g w g' ∧
   Ok w g' { st.set ts (.d (.slo st.obj.length 0 es.length cap)) with obj := st.obj ++ [es.flatMap D.cells ++ rest] } val := by
 obtain ⟨cap, rest, g', a1, a2, a3, a4, a5, a6, a7, a8⟩ := h.openX2 ts k es hs hk0;exact ⟨cap, rest, g', a1, a2, by rw [a3, List.length_replicate], a4, a5, a6, a7, a8⟩
theorem Ok.closeX {w : World} {g : Gh} {st : St} {val : Nat → Value} (h : Ok w g st val) (ts k m len cap : Nat) (es cs : List D) (hs : st.env ts = .d (.slo m 0 len cap)) (hm : st.obj[m]? = some cs) (hk : 0 < k) (hcs : cs.length = cap * k) (hl : es.length = len)
  (hes : ∀ d ∈ es, d.ncells = k ∧ d.arr = true) (he : es.flatMap D.cells <+: cs) :
  ∃ g', g'.bl = g.bl ∧ Fr w g w g' ∧ Ok w g' { st.set ts (.d (.xs k es)) with obj := st.obj.set m [] } val := by
 have hsl := h.slot ts;rw [hs] at hsl;obtain ⟨hr, _⟩ := hsl;generalize hv : val ts = v at hr;cases hr with
 | slo _ _ _ _ x hb hc hmx =>
 have hml0 : m < st.obj.length := (List.getElem?_eq_some_iff.1 hm).1;rcases Nat.eq_zero_or_pos cap with hc0 | hcap0
 ·subst hc0;have hl0 : len = 0 := by omega
  subst hl0;have hes0 : es = [] := List.eq_nil_of_length_eq_zero hl;subst hes0;have other : ∀ (hd : Holder) (b' : Nat) (q : List Nat), g.X b' = some (hd, q) → w.heap[b']? = w.heap[b']? ∧ (∀ o, g.M b' o = none → g.M b' o = none) ∧ g.X b' = some (hd, q) := fun hd b' q hx => ⟨rfl, fun _ h => h, hx⟩;refine ⟨g, rfl, Fr.refl w g, h.mem, h.xlt, fun u => ?_, h.ll, h.loc, by simp [h.ol], fun n b' cs' h1 h2 => ?_⟩
  ·simp only [St.set];by_cases hu : u = ts
   ·subst hu;simp only [if_true];rw [hv];exact ⟨.xs k [] _ _ 0 rfl (Nat.le_refl _) hmx (fun _ => ⟨rfl, rfl⟩), .xs _ _ _ _ (.inl ⟨rfl, _, rfl⟩)⟩
   ·simp only [hu, if_false];exact h.slot u
  ·rw [List.getElem?_set] at h2;split at h2
   ·simp only [Option.some.injEq] at h2;exact .inl (by simpa [hml0] using h2.symm)
   ·exact h.obj n b' cs' h1 h2
 have hne : cs ≠ [] := by
  intro e;rw [e] at hcs;have : 0 < cap * k := Nat.mul_pos hcap0 hk;simp at hcs;omega
 obtain ⟨b, hb2, rfl⟩ := hb hcap0;obtain ⟨cur, E, o1, o2, o3, o4, o5⟩ := (h.obj m b cs hb2 hm).resolve_left hne;have hlen : ∀ d ∈ es, d.cells.length = k := fun d hd => by rw [cB]; exact (hes d hd).1
 have hml : m < st.obj.length := (List.getElem?_eq_some_iff.1 hm).1;have other : ∀ (hd : Holder), hd ≠ .obj m → ∀ (b' : Nat) (q : List Nat), g.X b' = some (hd, q) → w.heap[b']? = w.heap[b']? ∧ (∀ o, g.M b' o = none → g.M b' o = none) ∧ fU b (.slot ts, []) g.X b' = some (hd, q) := by
  intro hd hne b' q hx;refine ⟨rfl, fun _ h => h, ?_⟩;have : b' ≠ b := by intro e; subst e; rw [o3] at hx; simp only [Option.some.injEq, Prod.mk.injEq] at hx; exact hne hx.1.symm
  simp only [fU, if_neg this]; exact hx
 refine ⟨{ g with X := fU b (.slot ts, []) g.X }, rfl, ⟨rfl, rfl, rfl, Nat.le_refl _, fun b' hb' hx => ⟨rfl, ?_, fun _ => rfl⟩, fun _ _ _ h => h, fun _ _ h => h⟩, ?_⟩
 ·have : b' ≠ b := by intro e; subst e; rw [o3] at hx; cases hx
  show fU b (.slot ts, []) g.X b' = none
  simp only [fU, if_neg this]; exact hx
 ·refine ⟨h.mem, fun b' t hx => ?_, fun u => ?_, h.ll, fun n b' cs h1 h2 => (h.loc n b' cs h1 h2).keep (fun _ _ _ h => h) (fun _ _ h => h) (other _ (by simp)), by simp [h.ol], fun n b' cs' h1 h2 => ?_⟩
  ·by_cases e : b' = b
   ·subst e; exact h.xlt _ _ o3
   ·simp only [fU, if_neg e] at hx; exact h.xlt b' t hx
  ·simp only [St.set];by_cases hu : u = ts
   ·subst hu;simp only [if_true];rw [hv];refine ⟨.xs k es _ _ cap hl.symm (by omega) hmx (by simp), .xs _ _ _ _ (.inr ⟨b, len, cap, cur, E, rfl, by simp [fU], o1, hk, by rw [o2, hcs], hl.symm, hc, hmx, o4, fun o c ho => ?_, fun i d hi => hes d (List.mem_of_getElem? hi), fun i d j e a1 a2 => ?_⟩)⟩
    ·have hlt := (Array.getElem?_eq_some_iff.1 ho).1;rw [o2] at hlt;exact (o5 o _ c (List.getElem?_eq_getElem hlt) ho).2.2
    ·have hcell := Am hk es hlen a1 a2;obtain ⟨rest, hrest⟩ := he;have hcc : cs[i * k + j]? = some e := by
      rw [← hrest, List.getElem?_append_left (by exact (List.getElem?_eq_some_iff.1 hcell).1)]; exact hcell
     have hlt := (List.getElem?_eq_some_iff.1 hcc).1;rw [← o2] at hlt;exact ⟨_, Array.getElem?_eq_getElem hlt, (o5 _ e _ hcc (Array.getElem?_eq_getElem hlt)).1⟩
   ·simp only [hu, if_false];exact (h.slot u).keep (fun _ _ _ h => h) (fun _ _ h => h) (fun _ _ h => h) (other _ (by simp))
  ·rw [List.getElem?_set] at h2;split at h2
   ·simp only [Option.some.injEq] at h2;exact .inl (by simpa [hml] using h2.symm)
   ·rename_i e;exact (h.obj n b' cs' h1 h2).keep (fun _ _ _ h => h) (fun _ _ h => h) (other _ (by simp; exact fun e' => e e'.symm))
end
end Go.Vm
namespace Go.Vm
open Go
set_option linter.all false
section
variable {P : Program}
def Ay (cur : Array Value) (k i : Nat) : D → Value
 | .agg _ => .agg (cur.extract (i * k) (i * k + k))
 | _ => cur.getD (i * k) undef
theorem Mx {M : Mem} {bs : List Nat} {cur : Array Value} {k i : Nat} {d : D} (hd : d.ncells = k) (ha : d.arr = true) (hfit : i * k + k ≤ cur.size) (h1 : ∀ (o : Nat) (c : Value), cur[o]? = some c → c.oneCell' = true)
  (hr : ∀ (j : Nat) (e : D), d.cells[j]? = some e → ∃ x, cur[i * k + j]? = some x ∧ R M bs e x) (hk : 0 < k) :
  R M bs d (Ay cur k i d) ∧ (Ay cur k i d).cells.size = k ∧ ∀ (j : Nat) (c : Value), (Ay cur k i d).cells[j]? = some c → j < k ∧ cur[i * k + j]? = some c := by
 by_cases hag : ∃ cs, d = .agg cs
 ·obtain ⟨cs, rfl⟩ := hag;have hsz : (cur.extract (i * k) (i * k + k)).size = k := by rw [Array.size_extract]; omega
  have hget : ∀ j, j < k → (cur.extract (i * k) (i * k + k))[j]? = cur[i * k + j]? := fun j hj => by
   rw [Array.getElem?_extract];rw [if_pos (by omega)]
  have hcs : cs.length = k := hd;refine ⟨.agg cs _ (by rw [hsz, hcs]) (fun j e x a1 a2 => ?_) (fun j x a2 => ?_), hsz, fun j c hj => ?_⟩
  ·have hj : j < k := by rw [← hcs]; exact (List.getElem?_eq_some_iff.1 a1).1
   rw [hget j hj] at a2;obtain ⟨y, y1, y2⟩ := hr j e a1;rw [a2] at y1;have : y = x := by simpa using y1.symm
   subst this; exact y2
  ·have hj : j < k := by rw [← hsz]; exact (Array.getElem?_eq_some_iff.1 a2).1
   rw [hget j hj] at a2;exact h1 _ x a2
  ·have hj' : j < k := by
    have := (Array.getElem?_eq_some_iff.1 hj).1;simp only [Ay, Value.cells] at this;omega
   exact ⟨hj', by rw [← hget j hj']; exact hj⟩
 ·have hc : d.cells = [d] := by cases d <;> first | rfl | exact absurd ⟨_, rfl⟩ hag
  have hk1 : k = 1 := by rw [← hd, ← cB, hc]; rfl
  subst hk1;obtain ⟨x, x1, x2⟩ := hr 0 d (by rw [hc]; rfl);have he : Ay cur 1 i d = x := by
   have : Ay cur 1 i d = cur.getD (i * 1) undef := by cases d <;> first | rfl | exact absurd ⟨_, rfl⟩ hag
   rw [this, Array.getD_eq_getD_getElem?];have x1' : cur[i * 1]? = some x := by simpa using x1
   rw [x1']; rfl
  have h1x := h1 _ x x1;rw [he];refine ⟨x2, by rw [Value.cells_one h1x]; rfl, fun j c hj => ?_⟩;rw [Value.cells_one h1x] at hj
  match j with
  | 0 => simp at hj; subst hj; exact ⟨by omega, x1⟩
  | j + 1 => simp at hj
theorem Ok.freezeX {w : World} {g : Gh} {st : St} {val : Nat → Value} (h : Ok w g st val) (ts k : Nat) (es : List D) (hs : st.env ts = .d (.xs k es)) :
  ∃ g', g'.bl = g.bl ∧ Fr w g w g' ∧ Ok w g' (st.set ts (.d (.sl false es))) val := by
 have hsl := h.slot ts;rw [hs] at hsl;obtain ⟨hr, ho⟩ := hsl;have hO : Oc w g.M g.bs g.X (.slot ts, []) k es (val ts) := by
  cases ho with
  | xs p k es v ho => exact ho
  | flat p d v hf => simp [D.flat] at hf
 have valset : (fun u => if u = ts then val ts else val u) = val := by funext u; split <;> simp_all
 by_cases hes : es = []
 ·subst hes;generalize hv : val ts = v at hr;cases hr with
  | xs _ _ a n cap hn hc hm ha =>
  have hn0 : n = 0 := by simpa using hn
  subst hn0;refine ⟨g, rfl, Fr.refl w g, ?_⟩;have := h.set ts (.d (.sl false [])) (val ts) ⟨by
   rw [hv];cases a with
   | none => obtain ⟨_, rfl⟩ := ha rfl; exact .nil _
   | some a => exact .emp _ a cap hm, .flat _ _ _ rfl⟩
  rwa [valset] at this
 ·rcases hO with ⟨rfl, _⟩ | ⟨b, n, cap, cur, E, hv, o1, o2, o3, o4, o5, o6, o7, o8, o9, o10, o11⟩
  ·exact absurd rfl hes
  subst o5
  let M' : Mem := fun b' o => if b' = b then (if o < es.length * k then cur[o]? else none) else g.M b' o
  have hle : g.M.le M' := fun b' o c hc => by
   by_cases e : b' = b
   ·subst e; rw [o8] at hc; cases hc
   ·simp only [M', if_neg e]; exact hc
  have other : ∀ (hd : Holder), hd ≠ .slot ts → ∀ (b' : Nat) (q : List Nat), g.X b' = some (hd, q) → w.heap[b']? = w.heap[b']? ∧ (∀ o, g.M b' o = none → M' b' o = none) ∧ g.X b' = some (hd, q) := by
   intro hd hne b' q hx;have : b' ≠ b := by intro e; subst e; rw [o1] at hx; simp only [Option.some.injEq, Prod.mk.injEq] at hx; exact hne hx.1.symm
   exact ⟨rfl, fun o ho => by simp only [M', if_neg this]; exact ho, hx⟩
  refine ⟨{ g with M := M' }, rfl, ⟨rfl, rfl, rfl, Nat.le_refl _, fun b' hb' hx => ⟨rfl, hx, fun o => ?_⟩, hle, fun _ _ h => h⟩, ⟨fun b' o c hc => ?_, h.xlt, fun u => ?_, h.ll, fun n b' cs h1 h2 => (h.loc n b' cs h1 h2).keep hle (fun _ _ h => h) (other _ (by simp)), h.ol, fun n b' cs h1 h2 => (h.obj n b' cs h1 h2).keep hle (fun _ _ h => h) (other _ (by simp))⟩⟩
  ·have : b' ≠ b := by intro e; subst e; rw [o1] at hx; cases hx
   show M' b' o = _
   simp only [M', if_neg this]
  ·by_cases e : b' = b
   ·subst e;simp only [M', if_true] at hc;split at hc
    ·rw [cell_of_row w b' o cur E (0, 0) o2]; exact hc
    ·cases hc
   ·simp only [M', if_neg e] at hc; exact h.mem b' o c hc
  ·simp only [St.set];by_cases hu : u = ts
   ·subst hu;simp only [if_true];rw [hv];refine ⟨?_, .flat _ _ _ rfl⟩;have hfit : ∀ i, i < es.length → i * k + k ≤ es.length * k := fun i hi => by
     have : (i + 1) * k ≤ es.length * k := Nat.mul_le_mul_right _ hi;rw [Nat.add_mul] at this; omega
    have hcap : es.length * k ≤ cur.size := by rw [o4]; exact Nat.mul_le_mul_right _ o6
    have el : ∀ (i : Nat) (d : D), es[i]? = some d → R M' g.bs d (Ay cur k i d) ∧ (Ay cur k i d).cells.size = k ∧ ∀ (j : Nat) (c : Value), (Ay cur k i d).cells[j]? = some c → j < k ∧ cur[i * k + j]? = some c := by
     intro i d hi;have hil := (List.getElem?_eq_some_iff.1 hi).1;have := hfit i hil;obtain ⟨r1, r2, r3⟩ := Mx (M := g.M) (bs := g.bs) (o10 i d hi).1 (o10 i d hi).2 (by omega) o9 (fun j e hj => o11 i d j e hi hj) o3;exact ⟨r1.mono hle (fun _ _ h => h), r2, r3⟩
    have hvs : ∀ (i : Nat) (x : Value), (es.mapIdx fun i d => Ay cur k i d)[i]? = some x → ∃ d, es[i]? = some d ∧ x = Ay cur k i d := by
     intro i x hi;rw [List.getElem?_mapIdx, Option.map_eq_some_iff] at hi;obtain ⟨d, h1, h2⟩ := hi;exact ⟨d, h1, h2.symm⟩
    refine .sl false es b 0 _ cap k (es.mapIdx fun i d => Ay cur k i d) (by simp) rfl o3 o6 o7 (fun i d x a1 a2 => ?_) (fun i d hi => (o10 i d hi).1) (fun i x a2 => ?_)
    ·obtain ⟨d', h1, rfl⟩ := hvs i x a2;rw [a1] at h1;have : d = d' := by simpa using h1
     subst this; exact (el i d a1).1
    ·obtain ⟨d', h1, rfl⟩ := hvs i x a2;obtain ⟨r1, r2, r3⟩ := el i d' h1;refine ⟨r2, fun j c hj => ?_⟩;obtain ⟨hj1, hj2⟩ := r3 j c hj;have := hfit i (List.getElem?_eq_some_iff.1 h1).1;refine ⟨o9 _ c hj2, ?_⟩;simp only [M', if_true, Nat.zero_add];rw [if_pos (by omega)]; exact hj2
   ·simp only [hu, if_false];exact (h.slot u).keep hle (fun _ _ h => h) (fun _ _ h => h) (other _ (by simp [hu]))
theorem Ct.freeze {f : FuncId} {args : List D} {σ : List (List D)} {Q : D → List (List D) → Prop} {k : Nat} {es : List D} {Z : List (List D) → Prop} (h : Ct P f args σ Q) (hq : ∀ r σ', Q r σ' → r = .xs k es ∧ Z σ') : Ct P f args σ (fun r σ' => r = .sl false es ∧ Z σ') := by
 refine ⟨h.1, fun w g vs hs hb ho => (h.2 w g vs hs hb ho).mono ?_⟩;rintro e w' ⟨r, σ', x, g', rfl, hQ, hb', hf, hk⟩;obtain ⟨rfl, hz⟩ := hq r σ' hQ;obtain ⟨g2, b1, b2, b3⟩ := hk.freezeX 0 k es rfl;refine ⟨_, σ', x, g2, rfl, ⟨rfl, hz⟩, b1.trans hb', hf.trans b2, ?_⟩;have e : (St.ofRes (.xs k es) σ').set 0 (.d (.sl false es)) = St.ofRes (.sl false es) σ' := by
  simp only [St.ofRes, St.set];congr 1;funext u
  match u with
  | 0 => rfl
  | u + 1 => rfl
 rwa [e] at b3
end
end Go.Vm

