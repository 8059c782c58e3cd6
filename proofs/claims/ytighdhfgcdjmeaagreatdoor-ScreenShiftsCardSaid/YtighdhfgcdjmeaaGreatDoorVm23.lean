import Derived.Test.YtighdhfgcdjmeaaGreatDoorVm22
import Derived.ProofKit
namespace Go.Vm
open Go Go.RowKit
set_option linter.all false
def mA (w : World) : Mem := fun b o => w.cell? ⟨b, o, none⟩
def CellsAt (w : World) (ds : List D) (cs : List Value) : Prop :=
 ds.length = cs.length ∧ ∀ (i : Nat) (c : D) (y : Value), ds[i]? = some c → cs[i]? = some y → R (mA w) [] c y ∧ y.oneCell' = true ∧ c.flat = true
def OpenAt (w : World) (d : D) (cs : List Value) : Prop := CellsAt w d.cells cs ∧ d ≠ .any
def Opens (P : Program) (t : TypeId) {α : Type} (f : α → D) (p : α → Prop) : Prop :=
 ∀ (H : Type) (enc : TypeId × Value → H) (w : World) (spare : Nat → Bool) (held : Bool) (fuel : Nat) (cs : List Value) (x : DataW H × List MemPlace), DataW.trod enc P w 0 spare held fuel t cs = some x → ∃ a, p a ∧ OpenAt w (f a) cs
theorem OpenAt.one {w : World} {d : D} {y : Value} (hd : d.cells = [d]) (hr : R (mA w) [] d y) (h1 : y.oneCell' = true) (hf : d.flat = true) (ha : d ≠ .any) : OpenAt w d [y] := by
 refine ⟨⟨by rw [hd]; rfl, fun i c z h2 h3 => ?_⟩, ha⟩;rw [hd] at h2
 match i with
 | 0 => simp at h2 h3; subst h2; subst h3; exact ⟨hr, h1, hf⟩
 | i + 1 => simp at h2
section
variable {P : Program} {t : TypeId}
theorem Cs (ht : P.underlying t = some .bool) : Opens P t D.bool (fun _ => True) := by
 intro H enc w spare held fuel cs x h;obtain ⟨b, rfl, _⟩ := DataW.trod_bool ht h;exact ⟨b, trivial, .one rfl (.v _ rfl) rfl rfl (by simp)⟩
theorem Hl (ht : P.underlying t = some (.int .i64)) : Opens P t D.int (fun n => -9223372036854775808 ≤ n ∧ n ≤ 9223372036854775807) := by
 intro H enc w spare held fuel cs x h;obtain ⟨n, rfl, _, hw⟩ := DataW.trod_int ht h;refine ⟨n, ?_, .one rfl (.v _ rfl) rfl rfl (by simp)⟩;have h1 : IntKind.i64.min = -9223372036854775808 := rfl;have h2 : IntKind.i64.max = 9223372036854775807 := rfl;simp only [Lit.wf, Bool.and_eq_true, decide_eq_true_eq] at hw;omega
theorem Hf (ht : P.underlying t = some .string) : Opens P t D.str (fun s => s.size ≤ maxLen) := by
 intro H enc w spare held fuel cs x h;obtain ⟨s, rfl, _, hw⟩ := DataW.trod_string ht h;exact ⟨s, hw, .one rfl (.v _ rfl) rfl rfl (by simp)⟩
theorem OpenAt.value {w : World} {d : D} {cs : List Value} (h : OpenAt w d cs) : ∃ x : Value, x.cells.toList = cs ∧ R (mA w) [] d x := by
 have gen : d.cells = [d] → ∃ x : Value, x.cells.toList = cs ∧ R (mA w) [] d x := by
  intro hd;have hl := h.1.1;rw [hd] at hl;obtain ⟨y, rfl⟩ := List.length_eq_one_iff.1 hl.symm;have := h.1.2 0 d y (by rw [hd]; rfl) rfl;exact ⟨y, by rw [Value.cells_one this.2.1], this.1⟩
 cases d with
 | agg ds =>
  refine ⟨.agg cs.toArray, by simp [Value.cells], .agg ds cs.toArray (by have := h.1.1; simp [D.cells] at this; simp [this]) (fun i e y a1 a2 => (h.1.2 i e y a1 (by simpa using a2)).1) (fun i y a2 => ?_)⟩;have a2' : cs[i]? = some y := by simpa using a2
  have hi := (List.getElem?_eq_some_iff.1 a2').1;have hl := h.1.1;have hi2 : i < (D.cells (.agg ds)).length := by omega
  exact (h.1.2 i _ y (List.getElem?_eq_getElem hi2) a2').2.1
 | _ => exact gen rfl
theorem qV {α : Type} {n : Nat} {Q : Nat → α → Prop} (h : ∀ i, i < n → ∃ a, Q i a) : ∃ l : List α, l.length = n ∧ ∀ i a, l[i]? = some a → Q i a := by
 induction n with
 | zero => exact ⟨[], rfl, by simp⟩
 | succ n ih =>
  obtain ⟨l, hl, hq⟩ := ih (fun i hi => h i (by omega));obtain ⟨a, ha⟩ := h n (by omega);refine ⟨l ++ [a], by simp [hl], fun i b hb => ?_⟩;by_cases hi : i < l.length
  ·rw [List.getElem?_append_left hi] at hb; exact hq i b hb
  ·rw [List.getElem?_append_right (by omega)] at hb;have h0 : i - l.length = 0 := by
    have := (List.getElem?_eq_some_iff.1 hb).1; simp at this; omega
   rw [h0] at hb;simp at hb;subst hb;rw [show i = n by omega]; exact ha
theorem Dp {d : D} : d.ncells = d.cells.length := by cases d <;> rfl
theorem gQ {e : TypeId} {α : Type} {f : α → D} {p : α → Prop} (ht : P.underlying t = some (.slice e)) (h : Opens P e f p) (hk : 0 < P.cellsOf e) : Opens P t (fun l : List α => .sl false (l.map f)) (fun l => l.length ≤ maxLen ∧ ∀ a ∈ l, p a) := by
 intro H enc w spare held fuel cs x hx;rcases DataW.trod_slice ht hx with ⟨rfl, _⟩ | ⟨a, len, cap, elems, rest, n, _, rfl, _, _, hlc, hcm, hlen, hel, _, _⟩
 ·exact ⟨[], ⟨by simp, by simp⟩, .one rfl (.nil false) rfl rfl (by simp)⟩
 by_cases h0 : len = 0
 ·subst h0; exact ⟨[], ⟨by simp, by simp⟩, .one rfl (.emp false a cap hcm) rfl rfl (by simp)⟩
 have each : ∀ i, i < len → ∃ b : α × List Value, p b.1 ∧ OpenAt w (f b.1) b.2 ∧ w.cells? 0 (a.add (i * P.cellsOf e)) (P.cellsOf e) = some b.2 := by
  intro i hi;have hi' : i < elems.length := by omega
  have := hel i hi;rw [List.getElem?_eq_getElem hi', Option.bind_eq_some_iff] at this;obtain ⟨ds, h1, h2⟩ := this;obtain ⟨b, hb, ho⟩ := h H enc w spare held n ds _ h2;exact ⟨(b, ds), hb, ho, h1⟩
 obtain ⟨L, hL, hq⟩ := qV each;have each2 : ∀ i, i < len → ∃ v : Value, ∃ b, L[i]? = some b ∧ v.cells.toList = b.2 ∧ R (mA w) [] (f b.1) v := by
  intro i hi;have hi' : i < L.length := by omega
  have hb : L[i]? = some L[i] := List.getElem?_eq_getElem hi';obtain ⟨v, h1, h2⟩ := (hq i _ hb).2.1.value;exact ⟨v, _, hb, h1, h2⟩
 obtain ⟨V, hV, hv⟩ := qV each2;have hspot : a.spot = none := by
  have hi' : 0 < L.length := by omega
  have h1 := (hq 0 _ (List.getElem?_eq_getElem hi')).2.2;obtain ⟨_, hl, hc⟩ := World.cells?_some h1;have h2 := hc 0 hk;rw [List.getElem?_eq_getElem (by omega)] at h2;simpa [Addr.add] using World.cell?_spot h2
 obtain ⟨b, off, spot⟩ := a;simp only at hspot;subst hspot;refine ⟨L.map (·.1), ⟨by rw [List.length_map, hL]; exact Nat.le_trans hlc hcm, fun y hy => ?_⟩, .one rfl ?_ rfl rfl (by simp)⟩
 ·obtain ⟨z, hz, rfl⟩ := List.mem_map.1 hy;obtain ⟨i, hi⟩ := List.getElem?_of_mem hz;exact (hq i z hi).1
 ·refine .sl false _ b off len cap (P.cellsOf e) V (by simp [hV, hL]) (by simp [hL]) hk hlc hcm (fun i d x h1 h2 => ?_) (fun i d h1 => ?_) (fun i x h1 => ?_)
  ·obtain ⟨z, hz, h3, h4⟩ := hv i x h2;simp only [List.getElem?_map, hz, Option.map_some, Option.some.injEq] at h1;subst h1;exact h4
  ·simp only [List.getElem?_map, Option.map_map, Option.map_eq_some_iff] at h1;obtain ⟨z, hz, rfl⟩ := h1;obtain ⟨_, h5, h6⟩ := hq i z hz;show (f z.1).ncells = _
   rw [Dp, h5.1.1];exact (World.cells?_some h6).2.1
  ·obtain ⟨z, hz, h3, h4⟩ := hv i x h1;obtain ⟨_, h5, h6⟩ := hq i z hz;obtain ⟨_, h7, h8⟩ := World.cells?_some h6;have hsz : x.cells.size = P.cellsOf e := by rw [← h7, ← h3, Array.length_toList]
   refine ⟨hsz, fun j c hj => ?_⟩;have hjl : j < P.cellsOf e := by rw [← hsz]; exact (Array.getElem?_eq_some_iff.1 hj).1
   have hj2 : z.2[j]? = some c := by rw [← h3]; simpa using hj
   have hj3 : j < (f z.1).cells.length := by rw [h5.1.1]; omega
   refine ⟨(h5.1.2 j _ c (List.getElem?_eq_getElem hj3) hj2).2.1, ?_⟩;have := h8 j hjl;rw [Addr.add_none, Addr.add_none, hj2] at this;show w.cell? _ = _
   rw [show off + (i * P.cellsOf e + j) = off + i * P.cellsOf e + j by omega];exact this
theorem CellsAt.append {w : World} {a b : List D} {x y : List Value} (h1 : CellsAt w a x) (h2 : CellsAt w b y) : CellsAt w (a ++ b) (x ++ y) := by
 refine ⟨by simp [h1.1, h2.1], fun i c v e1 e2 => ?_⟩;by_cases hi : i < a.length
 ·rw [List.getElem?_append_left hi] at e1;rw [List.getElem?_append_left (by have := h1.1; omega)] at e2;exact h1.2 i c v e1 e2
 ·rw [List.getElem?_append_right (by omega)] at e1;rw [List.getElem?_append_right (by have := h1.1; omega)] at e2;rw [← h1.1] at e2;exact h2.2 _ c v e1 e2
def wX (P : Program) (fs : List Field) (k n : Nat) {α : Type} (f : α → List D) (p : α → Prop) : Prop :=
 ∀ (H : Type) (enc : TypeId × Value → H) (w : World) (spare : Nat → Bool) (held : Bool) (fuel : Nat) (cs : List Value), cs.length = n →
  (∀ fl ∈ fs, ∃ x : DataW H × List MemPlace, DataW.trod enc P w 0 spare held fuel fl.type ((cs.drop fl.offset).take (P.cellsOf fl.type)) = some x) → ∃ a, p a ∧ CellsAt w (f a) (cs.drop k)
theorem gO {n : Nat} : wX P [] n n (fun _ : Unit => []) (fun _ => True) := by
 intro H enc w spare held fuel cs hn _;refine ⟨(), trivial, ?_, fun i c y h => by simp at h⟩;rw [List.drop_eq_nil_of_le (by omega)];rfl
theorem bF {fl : Field} {fs : List Field} {k n m : Nat} {α β : Type} {f : α → D} {p : α → Prop} {g : β → List D} {q : β → Prop} (ho : fl.offset = k) (hc : P.cellsOf fl.type = m) (h1 : Opens P fl.type f p) (h2 : wX P fs (k + m) n g q) :
  wX P (fl :: fs) k n (fun ab : α × β => (f ab.1).cells ++ g ab.2) (fun ab => p ab.1 ∧ q ab.2) := by
 intro H enc w spare held fuel cs hn hall;obtain ⟨x, hx⟩ := hall fl (by simp);obtain ⟨a, ha, hoa⟩ := h1 H enc w spare held fuel _ x hx;obtain ⟨b, hb, hob⟩ := h2 H enc w spare held fuel cs hn (fun fl' h' => hall fl' (by simp [h']));refine ⟨(a, b), ⟨ha, hb⟩, ?_⟩;have e : cs.drop k = (cs.drop k).take m ++ cs.drop (k + m) := by
  rw [← List.drop_drop]; exact (List.take_append_drop m _).symm
 rw [e];rw [ho, hc] at hoa;exact hoa.1.append hob
theorem eZ {fs : Array Field} {α : Type} {f : α → List D} {p : α → Prop} (ht : P.underlying t = some (.struct fs)) (h : wX P fs.toList 0 (P.cellsOf t) f p) : Opens P t (fun a => .agg (f a)) p := by
 intro H enc w spare held fuel cs x hx;obtain ⟨xs, n, _, _, hl, hxl, hall⟩ := DataW.trod_struct ht hx;obtain ⟨a, ha, hc⟩ := h H enc w spare held n cs hl (fun fl hfl => by
  obtain ⟨i, hi⟩ := List.getElem?_of_mem hfl;rw [Array.getElem?_toList] at hi;have h1 := hall i fl hi;have hi2 : i < xs.length := by rw [hxl]; exact (Array.getElem?_eq_some_iff.1 hi).1
  rw [List.getElem?_eq_getElem hi2] at h1;exact ⟨_, h1⟩)
 rw [List.drop_zero] at hc;exact ⟨a, ha, hc, by simp⟩
theorem Opens.map {α β : Type} {f : α → D} {p : α → Prop} {g : β → D} {q : β → Prop} (h : Opens P t f p) (φ : α → β) (hφ : ∀ a, f a = g (φ a)) (hq : ∀ a, p a → q (φ a)) : Opens P t g q := by
 intro H enc w spare held fuel cs x hx;obtain ⟨a, ha, ho⟩ := h H enc w spare held fuel cs x hx;exact ⟨φ a, hq a ha, by rw [← hφ]; exact ho⟩
theorem yC {H : Type} {enc : TypeId × Value → H} {α : Type} {f : α → D} {p : α → Prop} {w : World} {spare : Nat → Bool} {held : Bool} {v : Value} {d : DataW H} {ps : List MemPlace} (h : Opens P t f p) (hf : ∀ a, (f a).cells = [f a]) (hv : v.oneCell' = true) (ht : DataW.Trod enc P w 0 spare held t v d ps) :
  ∃ a, p a ∧ R (mA w) [] (f a) v ∧ ∀ X h q, Own w (mA w) [] X h q (f a) v := by
 obtain ⟨fuel, hx⟩ := ht;obtain ⟨a, ha, ho⟩ := h H enc w spare held fuel _ _ hx;rw [Value.cells_one hv] at ho;have := ho.1.2 0 (f a) v (by rw [hf]; rfl) rfl;exact ⟨a, ha, this.1, fun X h q => .flat q _ _ this.2.2⟩
theorem Tp {N : FuncId} {ds : List D} {vs : Array Value} {W : World} (hct : Ct P N ds [] (fun r _ => r = .bool true)) (hl : vs.size = ds.length)
  (ha : ∀ (i : Nat) (d : D) (v : Value), ds[i]? = some d → vs[i]? = some v → R (mA W) [] d v ∧ ∀ X h q, Own W (mA W) [] X h q d v) :
  Calls P N vs W fun e W' => e = .returned (.bool true) ∧ Below W.heap.size W W' := by
 refine (hct.2 W ⟨mA W, fun _ => none, [], []⟩ vs hl rfl ⟨fun b o c h => h, fun b t h => by simp at h, fun t => ?_, rfl, fun n b cs h => by simp at h, rfl, fun n b cs h => by simp at h⟩).mono ?_
 ·show SlotOk W _ t (bZ ds t) (aU vs t)
  cases hd : ds[t]? with
  | none =>
   simp only [bZ, hd];exact ⟨.any _, .flat _ _ _ rfl⟩
  | some d =>
   have hlt : t < vs.size := by rw [hl]; exact (List.getElem?_eq_some_iff.1 hd).1
   have hv : vs[t]? = some vs[t] := Array.getElem?_eq_getElem hlt;have hvv : aU vs t = vs[t] := by simp [aU, hlt]
   rw [kG hd, hvv];obtain ⟨h1, h2⟩ := ha t d _ hd hv;exact ⟨h1, h2 _ _ _⟩
 ·rintro e W' ⟨r, σ', x, g', rfl, rfl, _, hf, hok⟩;have hs := hok.slot 0;have hs' : R g'.M g'.bs (.bool true) x := hs.1;exact ⟨by rw [hs'.vEq], hf.os, hf.tape, hf.output, hf.size, fun k hk => (hf.keep k hk rfl).1⟩
end
end Go.Vm

