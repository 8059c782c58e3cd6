import Derived.Test.YtnlokhfcgaikiaaVmX5
namespace Go.Vm
open Go
section
variable {P : Program}
theorem Ct.toX {f : FuncId} {args : List D} {σ : List (List D)} {Q : D → List (List D) → Prop} {k : Nat} {es : List D} {Z : List (List D) → Prop} (h : Ct P f args σ Q) (hq : ∀ r σ', Q r σ' → baseX k es r ∧ Z σ') : Ct P f args σ (fun r σ' => r = .xs k es ∧ Z σ') := by
 refine ⟨h.1, fun w g vs hs hb ho => (h.2 w g vs hs hb ho).mono ?_⟩
 rintro e w' ⟨r, σ', x, g', rfl, hQ, hb', hf, hk⟩
 obtain ⟨hbase, hz⟩ := hq r σ' hQ
 have hsl := hk.slot 0
 have hsl' : SlotOk w' g' 0 (.d r) x := hsl
 obtain ⟨hO, _, a, n, cap, rfl, hn, ha⟩ := base_own hbase hsl'
 refine ⟨_, σ', _, g', rfl, ⟨rfl, hz⟩, hb', hf, ?_⟩
 have hR : R g'.M g'.bs (.xs k es) (.slice a n cap) := by
  rcases hO with ⟨rfl, a', e1⟩ | ⟨b, n', cap', cur, E, e1, o1, o2, o3, o4, o5, o6, o7, _⟩
  ·simp only [Value.slice.injEq] at e1
   obtain ⟨rfl, rfl, rfl⟩ := e1
   exact .xs k [] a 0 0 rfl (Nat.le_refl _) (Nat.zero_le _) (fun _ => ⟨rfl, rfl⟩)
  ·simp only [Value.slice.injEq] at e1
   obtain ⟨rfl, rfl, rfl⟩ := e1
   exact .xs k es _ _ _ o5 o6 o7 (by simp)
 have b3 := hk.set 0 (.d (.xs k es)) (.slice a n cap) ⟨hR, .xs _ _ _ _ hO⟩
 have e : (St.ofRes r σ').set 0 (.d (.xs k es)) = St.ofRes (.xs k es) σ' := by
  simp only [St.ofRes, St.set]
  congr 1
  funext u
  match u with
  | 0 => rfl
  | u + 1 => rfl
 rw [e] at b3
 have ev' : (fun u => if u = 0 then Value.slice a n cap else if u = 0 then Value.slice a n cap else undef) = fun t => if t = 0 then Value.slice a n cap else undef := by
  funext u; by_cases h : u = 0 <;> simp [h]
 rw [ev'] at b3
 exact b3
theorem Ct.strip {f : FuncId} {args : List D} {σ : List (List D)} {Q Q' : D → List (List D) → Prop} (h : Ct P f args σ Q) (hq : ∀ r σ', Q r σ' → r.plain = true ∧ Q' r.strip σ') : Ct P f args σ Q' := by
 refine ⟨h.1, fun w g vs hs hb ho => (h.2 w g vs hs hb ho).mono ?_⟩
 rintro e w' ⟨r, σ', x, g', rfl, hQ, hb', hf, hk⟩
 obtain ⟨hp, hz⟩ := hq r σ' hQ
 have hsl : SlotOk w' g' 0 (.d r) x := hk.slot 0
 refine ⟨_, σ', x, g', rfl, hz, hb', hf, ?_⟩
 have b3 := hk.set 0 (.d r.strip) x ⟨hsl.1.strip, own_strip hsl.1 (plain_spec hp)⟩
 have e : (St.ofRes r σ').set 0 (.d r.strip) = St.ofRes r.strip σ' := by
  simp only [St.ofRes, St.set]
  congr 1
  funext u
  match u with
  | 0 => rfl
  | u + 1 => rfl
 rw [e] at b3
 have ev' : (fun u => if u = 0 then x else if u = 0 then x else undef) = fun t => if t = 0 then x else undef := by
  funext u; by_cases h : u = 0 <;> simp [h]
 rw [ev'] at b3
 exact b3
theorem row_get {α : Type} (f : α → D) (l : List α) (rest : List D) (i : Nat) (h : i < l.length) : (l.map f ++ rest)[i]? = some (f l[i]) := by
 rw [List.getElem?_append_left (by simpa using h)]; simp [h]
theorem row_set {α : Type} (f : α → D) (l : List α) (rest : List D) (i : Nat) (x : α) (h : i < l.length) : List.take i (l.map f ++ rest) ++ [f x] ++ List.drop (i + 1) (l.map f ++ rest) = (l.set i x).map f ++ rest := by
 apply List.ext_getElem?
 intro j
 have hs := splice_get (cs := l.map f ++ rest) (ds := [f x]) (off := i) (i := j) (by simp; omega)
 simp only [List.length_cons, List.length_nil, Nat.zero_add] at hs
 rw [hs]
 by_cases hj : j < l.length
 ·rw [List.getElem?_append_left (by simpa using hj), List.getElem?_append_left (by simpa using hj), List.getElem?_map, List.getElem?_map, List.getElem?_set]
  by_cases h1 : j < i
  ·rw [if_pos h1, if_neg (by omega)]
  ·rw [if_neg h1]
   by_cases h2 : j = i
   ·subst h2; simp [h]
   ·rw [if_neg (by omega), if_neg (by omega)]
 ·rw [List.getElem?_append_right (by simpa using hj), List.getElem?_append_right (by simpa using hj), if_neg (by omega), if_neg (by omega)]
  simp
end
end Go.Vm
