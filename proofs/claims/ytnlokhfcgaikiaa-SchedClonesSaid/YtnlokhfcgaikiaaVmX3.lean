import Derived.Test.YtnlokhfcgaikiaaVmX2
namespace Go.Vm
open Go
section
variable {P : Program}
def elV (cur : Array Value) (k i : Nat) : D → Value
 | .agg _ => .agg (cur.extract (i * k) (i * k + k))
 | _ => cur.getD (i * k) undef
theorem elV_ok {M : Mem} {bs : List Nat} {cur : Array Value} {k i : Nat} {d : D} (hd : d.ncells = k) (ha : d.arr = true) (hfit : i * k + k ≤ cur.size) (h1 : ∀ (o : Nat) (c : Value), cur[o]? = some c → c.oneCell' = true)
  (hr : ∀ (j : Nat) (e : D), d.cells[j]? = some e → ∃ x, cur[i * k + j]? = some x ∧ R M bs e x) (hk : 0 < k) :
  R M bs d (elV cur k i d) ∧ (elV cur k i d).cells.size = k ∧ ∀ (j : Nat) (c : Value), (elV cur k i d).cells[j]? = some c → j < k ∧ cur[i * k + j]? = some c := by
 by_cases hag : ∃ cs, d = .agg cs
 ·obtain ⟨cs, rfl⟩ := hag
  have hsz : (cur.extract (i * k) (i * k + k)).size = k := by rw [Array.size_extract]; omega
  have hget : ∀ j, j < k → (cur.extract (i * k) (i * k + k))[j]? = cur[i * k + j]? := fun j hj => by
   rw [Array.getElem?_extract]
   rw [if_pos (by omega)]
  have hcs : cs.length = k := hd
  refine ⟨.agg cs _ (by rw [hsz, hcs]) (fun j e x a1 a2 => ?_) (fun j x a2 => ?_), hsz, fun j c hj => ?_⟩
  ·have hj : j < k := by rw [← hcs]; exact (List.getElem?_eq_some_iff.1 a1).1
   rw [hget j hj] at a2
   obtain ⟨y, y1, y2⟩ := hr j e a1
   rw [a2] at y1
   have : y = x := by simpa using y1.symm
   subst this; exact y2
  ·have hj : j < k := by rw [← hsz]; exact (Array.getElem?_eq_some_iff.1 a2).1
   rw [hget j hj] at a2
   exact h1 _ x a2
  ·have hj' : j < k := by
    have := (Array.getElem?_eq_some_iff.1 hj).1
    simp only [elV, Value.cells] at this
    omega
   exact ⟨hj', by rw [← hget j hj']; exact hj⟩
 ·have hc : d.cells = [d] := by cases d <;> first | rfl | exact absurd ⟨_, rfl⟩ hag
  have hk1 : k = 1 := by rw [← hd, ← ncells_cells, hc]; rfl
  subst hk1
  obtain ⟨x, x1, x2⟩ := hr 0 d (by rw [hc]; rfl)
  have he : elV cur 1 i d = x := by
   have : elV cur 1 i d = cur.getD (i * 1) undef := by cases d <;> first | rfl | exact absurd ⟨_, rfl⟩ hag
   rw [this, Array.getD_eq_getD_getElem?]
   have x1' : cur[i * 1]? = some x := by simpa using x1
   rw [x1']; rfl
  have h1x := h1 _ x x1
  rw [he]
  refine ⟨x2, by rw [Value.cells_one h1x]; rfl, fun j c hj => ?_⟩
  rw [Value.cells_one h1x] at hj
  match j with
  | 0 => simp at hj; subst hj; exact ⟨by omega, x1⟩
  | j + 1 => simp at hj
theorem Ok.freezeX {w : World} {g : Gh} {st : St} {val : Nat → Value} (h : Ok w g st val) (ts k : Nat) (es : List D) (hs : st.env ts = .d (.xs k es)) :
  ∃ g', g'.bl = g.bl ∧ Fr w g w g' ∧ Ok w g' (st.set ts (.d (.sl false es))) val := by
 have hsl := h.slot ts
 rw [hs] at hsl
 obtain ⟨hr, ho⟩ := hsl
 have hO : OwnX w g.M g.bs g.X (.slot ts, []) k es (val ts) := by
  cases ho with
  | xs p k es v ho => exact ho
  | flat p d v hf => simp [D.flat] at hf
 have valset : (fun u => if u = ts then val ts else val u) = val := by funext u; split <;> simp_all
 by_cases hes : es = []
 ·subst hes
  generalize hv : val ts = v at hr
  cases hr with
  | xs _ _ a n cap hn hc hm ha =>
  have hn0 : n = 0 := by simpa using hn
  subst hn0
  refine ⟨g, rfl, Fr.refl w g, ?_⟩
  have := h.set ts (.d (.sl false [])) (val ts) ⟨by
   rw [hv]
   cases a with
   | none => obtain ⟨_, rfl⟩ := ha rfl; exact .nil _
   | some a => exact .emp _ a cap hm, .flat _ _ _ rfl⟩
  rwa [valset] at this
 ·rcases hO with ⟨rfl, _⟩ | ⟨b, n, cap, cur, E, hv, o1, o2, o3, o4, o5, o6, o7, o8, o9, o10, o11⟩
  ·exact absurd rfl hes
  subst o5
  let M' : Mem := fun b' o => if b' = b then (if o < es.length * k then cur[o]? else none) else g.M b' o
  have hle : g.M.le M' := fun b' o c hc => by
   by_cases e : b' = b
   ·subst e; rw [o8] at hc; cases hc
   ·simp only [M', if_neg e]; exact hc
  have other : ∀ (hd : Holder), hd ≠ .slot ts → ∀ (b' : Nat) (q : List Nat), g.X b' = some (hd, q) → w.heap[b']? = w.heap[b']? ∧ (∀ o, g.M b' o = none → M' b' o = none) ∧ g.X b' = some (hd, q) := by
   intro hd hne b' q hx
   have : b' ≠ b := by intro e; subst e; rw [o1] at hx; simp only [Option.some.injEq, Prod.mk.injEq] at hx; exact hne hx.1.symm
   exact ⟨rfl, fun o ho => by simp only [M', if_neg this]; exact ho, hx⟩
  refine ⟨{ g with M := M' }, rfl, ⟨rfl, rfl, rfl, Nat.le_refl _, fun b' hb' hx => ⟨rfl, hx, fun o => ?_⟩, hle, fun _ _ h => h⟩, ⟨fun b' o c hc => ?_, h.xlt, fun u => ?_, h.ll, fun n b' cs h1 h2 => (h.loc n b' cs h1 h2).keep hle (fun _ _ h => h) (other _ (by simp)), h.ol, fun n b' cs h1 h2 => (h.obj n b' cs h1 h2).keep hle (fun _ _ h => h) (other _ (by simp))⟩⟩
  ·have : b' ≠ b := by intro e; subst e; rw [o1] at hx; cases hx
   show M' b' o = _
   simp only [M', if_neg this]
  ·by_cases e : b' = b
   ·subst e
    simp only [M', if_true] at hc
    split at hc
    ·rw [cell_of_row w b' o cur E (0, 0) o2]; exact hc
    ·cases hc
   ·simp only [M', if_neg e] at hc; exact h.mem b' o c hc
  ·simp only [St.set]
   by_cases hu : u = ts
   ·subst hu
    simp only [if_true]
    rw [hv]
    refine ⟨?_, .flat _ _ _ rfl⟩
    have hfit : ∀ i, i < es.length → i * k + k ≤ es.length * k := fun i hi => by
     have : (i + 1) * k ≤ es.length * k := Nat.mul_le_mul_right _ hi
     rw [Nat.add_mul] at this; omega
    have hcap : es.length * k ≤ cur.size := by rw [o4]; exact Nat.mul_le_mul_right _ o6
    have el : ∀ (i : Nat) (d : D), es[i]? = some d → R M' g.bs d (elV cur k i d) ∧ (elV cur k i d).cells.size = k ∧ ∀ (j : Nat) (c : Value), (elV cur k i d).cells[j]? = some c → j < k ∧ cur[i * k + j]? = some c := by
     intro i d hi
     have hil := (List.getElem?_eq_some_iff.1 hi).1
     have := hfit i hil
     obtain ⟨r1, r2, r3⟩ := elV_ok (M := g.M) (bs := g.bs) (o10 i d hi).1 (o10 i d hi).2 (by omega) o9 (fun j e hj => o11 i d j e hi hj) o3
     exact ⟨r1.mono hle (fun _ _ h => h), r2, r3⟩
    have hvs : ∀ (i : Nat) (x : Value), (es.mapIdx fun i d => elV cur k i d)[i]? = some x → ∃ d, es[i]? = some d ∧ x = elV cur k i d := by
     intro i x hi
     rw [List.getElem?_mapIdx, Option.map_eq_some_iff] at hi
     obtain ⟨d, h1, h2⟩ := hi
     exact ⟨d, h1, h2.symm⟩
    refine .sl false es b 0 _ cap k (es.mapIdx fun i d => elV cur k i d) (by simp) rfl o3 o6 o7 (fun i d x a1 a2 => ?_) (fun i d hi => (o10 i d hi).1) (fun i x a2 => ?_)
    ·obtain ⟨d', h1, rfl⟩ := hvs i x a2
     rw [a1] at h1
     have : d = d' := by simpa using h1
     subst this; exact (el i d a1).1
    ·obtain ⟨d', h1, rfl⟩ := hvs i x a2
     obtain ⟨r1, r2, r3⟩ := el i d' h1
     refine ⟨r2, fun j c hj => ?_⟩
     obtain ⟨hj1, hj2⟩ := r3 j c hj
     have := hfit i (List.getElem?_eq_some_iff.1 h1).1
     refine ⟨o9 _ c hj2, ?_⟩
     simp only [M', if_true, Nat.zero_add]
     rw [if_pos (by omega)]; exact hj2
   ·simp only [hu, if_false]
    exact (h.slot u).keep hle (fun _ _ h => h) (fun _ _ h => h) (other _ (by simp [hu]))
theorem Ct.freeze {f : FuncId} {args : List D} {σ : List (List D)} {Q : D → List (List D) → Prop} {k : Nat} {es : List D} {Z : List (List D) → Prop} (h : Ct P f args σ Q) (hq : ∀ r σ', Q r σ' → r = .xs k es ∧ Z σ') : Ct P f args σ (fun r σ' => r = .sl false es ∧ Z σ') := by
 refine ⟨h.1, fun w g vs hs hb ho => (h.2 w g vs hs hb ho).mono ?_⟩
 rintro e w' ⟨r, σ', x, g', rfl, hQ, hb', hf, hk⟩
 obtain ⟨rfl, hz⟩ := hq r σ' hQ
 obtain ⟨g2, b1, b2, b3⟩ := hk.freezeX 0 k es rfl
 refine ⟨_, σ', x, g2, rfl, ⟨rfl, hz⟩, b1.trans hb', hf.trans b2, ?_⟩
 have e : (St.ofRes (.xs k es) σ').set 0 (.d (.sl false es)) = St.ofRes (.sl false es) σ' := by
  simp only [St.ofRes, St.set]
  congr 1
  funext u
  match u with
  | 0 => rfl
  | u + 1 => rfl
 rwa [e] at b3
end
end Go.Vm
