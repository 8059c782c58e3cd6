import Derived.Test.YtighdhfgcdjmeaaGreatDoorVm4
namespace Go.Vm
open Go
set_option linter.all false
def Tg : TypeDesc → Bool
 | .struct _ | .array _ _ => true
 | _ => false
def eR (P : Program) (t : TypeId) : Option (Bool × Nat) :=
 match P.underlying t, P.info? t with
 | some d, some i => some (Tg d, i.size)
 | _, _ => none
def bW (P : Program) (s : TypeId) (f : Nat) : Option (Nat × Bool × Nat) :=
 match P.underlying s with
 | some (.struct fs) => match fs[f]? with
  | some fd => match eR P fd.type with
   | some (a, n) => if n = 0 then none else some (fd.offset, a, n)
   | none => none
  | none => none
 | _ => none
def eP (P : Program) (t : TypeId) : Option (TypeId × Nat × Nat × Array Value) :=
 match P.underlying t with
 | some (.slice e) => match P.info? e with
  | some i => match i.zero with
   | some z => if z.cells.size = i.size ∧ 0 < i.size then some (e, i.size, i.bytes, z.cells) else none
   | none => none
  | none => none
 | _ => none
def Da (P : Program) (t : TypeId) : Option (Nat × Nat) :=
 match P.underlying t with
 | some (.array n e) => match P.info? e with
  | some i => some (n, i.size)
  | none => none
 | _ => none
section
variable {P : Program}
theorem gR {t : TypeId} {a : Bool} {n : Nat} (h : eR P t = some (a, n)) : ∃ d i, P.underlying t = some d ∧ P.info? t = some i ∧ Tg d = a ∧ i.size = n := by
 unfold eR at h;split at h
 ·rename_i d i h1 h2;simp only [Option.some.injEq, Prod.mk.injEq] at h;exact ⟨d, i, h1, h2, h.1, h.2⟩
 ·cases h
theorem dD {t e : TypeId} {k by_ : Nat} {z : Array Value} (h : eP P t = some (e, k, by_, z)) : ∃ i zv, P.underlying t = some (.slice e) ∧ P.info? e = some i ∧ i.zero = some zv ∧ zv.cells = z ∧ i.size = k ∧ i.bytes = by_ ∧ z.size = k ∧ 0 < k := by
 unfold eP at h;split at h
 ·rename_i e' h1;split at h
  ·rename_i i h2;split at h
   ·rename_i zv h3;split at h
    ·rename_i h4;simp only [Option.some.injEq, Prod.mk.injEq] at h;obtain ⟨rfl, rfl, rfl, rfl⟩ := h;exact ⟨i, zv, h1, h2, h3, rfl, rfl, rfl, h4.1, h4.2⟩
    ·cases h
   ·cases h
  ·cases h
 ·cases h
theorem fN {t : TypeId} {d : TypeDesc} (h : P.underlying t = some d) (w : World) : (isAgg t).run P w = .ok (Tg d) w := by
 unfold isAgg;simp only [Sem.run_bind, run_underlying h, Result.andThen_ok];cases d <;> rfl
theorem aR {t : TypeId} {i : TypeInfo} (h : P.info? t = some i) (w : World) : (sizeOf t).run P w = .ok i.size w := by
 simp [sizeOf, typeInfo, h]
theorem qR (w : World) : (program).run P w = .ok P w := rfl
theorem kX {w : World} {b off : Nat} {x : Value} (h : w.cell? ⟨b, off, none⟩ = some x) : (load ⟨b, off, none⟩).run P w = .ok x w := by
 rw [run_load, h]
def CV (w : World) (g : Gh) (b off : Nat) (cs : List D) : Prop :=
 ∀ (i : Nat) (d : D), cs[i]? = some d → ∃ x, w.cell? ⟨b, off + i, none⟩ = some x ∧ R g.M g.bs d x ∧ x.oneCell' = true
def lD (a : Bool) (n : Nat) (cs : List D) : Option D :=
 if a then (if n ≤ cs.length then some (.agg (cs.take n)) else none) else cs.head?
theorem CV.list {w : World} {g : Gh} {b off : Nat} : ∀ {cs : List D}, CV w g b off cs → ∃ xs : List Value, xs.length = cs.length ∧ (∀ (i : Nat) (x : Value), xs[i]? = some x → w.cell? ⟨b, off + i, none⟩ = some x ∧ x.oneCell' = true) ∧ ∀ (i : Nat) (d : D) (x : Value), cs[i]? = some d → xs[i]? = some x → R g.M g.bs d x := by
 intro cs h;induction cs generalizing off with
 | nil => exact ⟨[], rfl, fun i x h => by simp at h, fun i d x h => by simp at h⟩
 | cons c cs ih =>
  obtain ⟨x, h1, h2, h3⟩ := h 0 c rfl;obtain ⟨xs, h4, h5, h6⟩ := ih (off := off + 1) (fun i d hi => by
   obtain ⟨y, a1, a2, a3⟩ := h (i + 1) d (by simpa using hi);exact ⟨y, by rw [show off + 1 + i = off + (i + 1) by omega]; exact a1, a2, a3⟩)
  refine ⟨x :: xs, by simp [h4], fun i y hi => ?_, fun i d y hd hi => ?_⟩
  ·match i with
   | 0 => simp at hi; subst hi; exact ⟨h1, h3⟩
   | i + 1 => rw [show off + (i + 1) = off + 1 + i by omega]; exact h5 i y (by simpa using hi)
  ·match i with
   | 0 => simp at hi hd; subst hi; subst hd; exact h2
   | i + 1 => exact h6 i d y (by simpa using hd) (by simpa using hi)
theorem Addr.add_none (b off n : Nat) : (⟨b, off, none⟩ : Addr).add n = ⟨b, off + n, none⟩ := by
 unfold Addr.add; split <;> simp_all
theorem lH {w : World} {g : Gh} {b off : Nat} {cs : List D} {t : TypeId} {a : Bool} {n : Nat} {d : D} (hc : CV w g b off cs) (ht : eR P t = some (a, n)) (hd : lD a n cs = some d) :
  ∃ v, (loadVar t ⟨b, off, none⟩).run P w = .ok v w ∧ R g.M g.bs d v := by
 obtain ⟨td, ti, h1, h2, h3, h4⟩ := gR ht;unfold lD at hd;cases a with
 | true =>
  simp only [if_true] at hd;split at hd
  ·rename_i hn;simp only [Option.some.injEq] at hd;obtain ⟨xs, e1, e2, e3⟩ := CV.list (cs := cs.take n) (w := w) (g := g) (b := b) (off := off) (fun i d hi => hc i d (by rw [List.getElem?_take] at hi; split at hi <;> simp_all));have hlen : xs.length = n := by rw [e1, List.length_take]; omega
   refine ⟨.agg xs.toArray, ?_, ?_⟩
   ·have hl := run_loadCells_list (P := P) w ⟨b, off, none⟩ xs (fun j v hj => by rw [Addr.add_none]; exact (e2 j v hj).1);rw [hlen] at hl;simp [loadVar, fN h1, h3, aR h2, h4, hl]
   ·rw [← hd];exact .agg _ _ (by simpa using e1) (fun i d x a1 a2 => e3 i d x a1 (by simpa using a2)) (fun i x a1 => (e2 i x (by simpa using a1)).2)
  ·cases hd
 | false =>
  simp only [Bool.false_eq_true, if_false] at hd;cases cs with
  | nil => simp at hd
  | cons c cs =>
   simp at hd;subst hd;obtain ⟨x, a1, a2, a3⟩ := hc 0 c rfl;refine ⟨x, ?_, a2⟩;simp only [loadVar, Sem.run_bind, fN h1, h3, Result.andThen_ok, Bool.false_eq_true, if_false];exact kX a1
theorem Ux {w : World} {g : Gh} {st : St} {val : Nat → Value} (h : Ok w g st val) {cs : List D} {b off : Nat} (hr : R g.M g.bs (.adr cs) (.pointer (some ⟨b, off, none⟩))) : CV w g b off cs := by
 intro i d hi;cases hr with
 | adr cs b off vs hl hr hx =>
  have hlt : i < vs.length := by rw [hl]; exact (List.getElem?_eq_some_iff.1 hi).1
  have hv : vs[i]? = some vs[i] := List.getElem?_eq_getElem hlt;exact ⟨vs[i], h.mem _ _ _ (hx i _ hv).2, hr i d _ hi hv, (hx i _ hv).1⟩
theorem pN {w : World} {g : Gh} {hd : Holder} {b : Nat} {cs : List D} (h : BoxOk w g hd b cs) (off : Nat) : CV w g b off (cs.drop off) := by
 rcases h with rfl | ⟨cur, E, h1, h2, h3, h4, h5⟩
 ·intro i d hi; simp at hi
 intro i d hi;rw [List.getElem?_drop] at hi;have hlt : off + i < cur.size := by rw [h2]; exact (List.getElem?_eq_some_iff.1 hi).1
 have hv : cur[off + i]? = some cur[off + i] := Array.getElem?_eq_getElem hlt;obtain ⟨a1, a2, a3⟩ := h5 _ d _ hi hv;exact ⟨_, by rw [cell_of_row w b (off + i) cur E (0, 0) h1]; exact hv, a1, a3⟩
def St.cellsAt (st : St) : Slot → Option (List D)
 | .lref n off => (st.loc[n]?).map (·.drop off)
 | .d (.adr cs) => some cs
 | .d (.ref n off) => (st.obj[n]?).map (·.drop off)
 | _ => none
theorem Ok.cellsAt {w : World} {g : Gh} {st : St} {tmps : Array Value} (h : Ok w g st (aU tmps)) {x : Operand} {cs : List D} (hc : st.cellsAt (st.rdS x) = some cs) : ∃ b off, ev tmps x = .pointer (some ⟨b, off, none⟩) ∧ CV w g b off cs := by
 cases hs : st.rdS x with
 | lref n off =>
  rw [hs] at hc;simp only [St.cellsAt, Option.map_eq_some_iff] at hc;obtain ⟨ds, h1, rfl⟩ := hc;obtain ⟨b, hb, hv⟩ := h.rdL hs;exact ⟨b, off, hv, pN (h.loc n b ds hb h1) off⟩
 | d d =>
  have hr := h.rd x;simp only [St.rd, hs] at hr;rw [hs] at hc;generalize ev tmps x = v at hr;cases hr <;> simp [St.cellsAt] at hc
  case adr cs' b off vs hl hx hy =>
   subst hc;exact ⟨b, off, rfl, Ux h (.adr _ b off vs hl hx hy)⟩
  case ref n off b hb =>
   obtain ⟨ds, h1, rfl⟩ := hc;exact ⟨b, off, rfl, pN (h.obj n b ds hb h1) off⟩
def dL (P : Program) (dst : Option Tmp) (t : TypeId) (x : Operand) (st : St) (K : St → Prop) : Prop :=
 match eR P t, st.cellsAt (st.rdS x) with
 | some (a, n), some cs => match lD a n cs with
  | some d => K (st.put dst (.d d.s2))
  | none => False
 | _, _ => False
theorem lP {w : World} {g : Gh} {d : D} {v : Value} (h : R g.M g.bs d v) (hp : ∀ cs, d ≠ .tup cs) : ∀ t, SlotOk w g t (.d d.s2) v :=
 fun _ => ⟨h.s2, jM h hp⟩
theorem iW {w : World} {g : Gh} {b off : Nat} {cs : List D} {a : Bool} {n : Nat} {d : D} (hc : CV w g b off cs) (hd : lD a n cs = some d) : ∀ ds, d ≠ .tup ds := by
 intro ds e;subst e;unfold lD at hd;split at hd
 ·split at hd <;> simp at hd
 ·cases cs with
  | nil => simp at hd
  | cons c cs =>
   simp at hd;subst hd;obtain ⟨x, _, hr, h1⟩ := hc 0 _ rfl;exact (hr.one h1).2 _ rfl
theorem Gj {o : Oper} {st : St} {K : St → Prop} (t : TypeId) (x : Operand) (hd : bL o st) (ho : o.op = .load t x) (h : dL P o.dst t x st K) : Does P o st K := by
 unfold dL at h;split at h
 ·rename_i a n cs ht hcs;split at h
  ·rename_i d hld;refine aT hd _ (fun w g tmps hok => ?_) h;obtain ⟨b, off, hv, hcv⟩ := hok.cellsAt hcs;obtain ⟨v, hrun, hr⟩ := lH (P := P) hcv ht hld;refine ⟨v, ?_, lP hr (iW hcv hld)⟩;simp [execOp, ho, Instr.loadAt, hv, Instr.sureAddr, hrun]
  ·exact h.elim
 ·exact h.elim
def Slot.plus (k : Nat) : Slot → Slot
 | .lref n off => .lref n (off + k)
 | .d (.adr cs) => .d (.adr (cs.drop k))
 | .d (.ref n off) => .d (.ref n (off + k))
 | _ => .any
def Slot.isAddr : Slot → Bool
 | .lref _ _ | .d (.adr _) | .d (.ref _ _) => true
 | _ => false
theorem Ok.plus {w : World} {g : Gh} {st : St} {tmps : Array Value} (h : Ok w g st (aU tmps)) {x : Operand} (k : Nat) (hx : (st.rdS x).isAddr = true) :
  ∃ b off, ev tmps x = .pointer (some ⟨b, off, none⟩) ∧ ∀ t, SlotOk w g t ((st.rdS x).plus k) (.pointer (some ⟨b, off + k, none⟩)) := by
 cases hs : st.rdS x with
 | lref n off =>
  obtain ⟨b, hb, hv⟩ := h.rdL hs;exact ⟨b, off, hv, fun t => ⟨b, hb, rfl⟩⟩
 | d d =>
  have hr := h.rd x;simp only [St.rd, hs] at hr;rw [hs] at hx;generalize ev tmps x = v at hr;cases hr <;> simp [Slot.isAddr] at hx
  case adr cs b off vs hl hr hy =>
   refine ⟨b, off, rfl, fun t => ⟨?_, .flat _ _ _ rfl⟩⟩;refine .adr _ b (off + k) (vs.drop k) (by simp [hl]) (fun i d x h1 h2 => ?_) (fun i x h1 => ?_)
   ·rw [List.getElem?_drop] at h1 h2;exact hr _ d x h1 h2
   ·rw [List.getElem?_drop] at h1;have := hy _ x h1;rw [show off + k + i = off + (k + i) by omega];exact this
  case ref n off b hb => exact ⟨b, off, rfl, fun t => ⟨.ref n (off + k) b hb, .flat _ _ _ rfl⟩⟩
def eW (P : Program) (dst : Option Tmp) (s : TypeId) (x : Operand) (f : Nat) (st : St) (K : St → Prop) : Prop :=
 match bW P s f with
 | some (off, _, _) => (st.rdS x).isAddr = true ∧ K (st.put dst ((st.rdS x).plus off))
 | none => False
theorem vC {s : TypeId} {f off n : Nat} {a : Bool} (h : bW P s f = some (off, a, n)) : ∃ fs fd, P.underlying s = some (.struct fs) ∧ fs[f]? = some fd ∧ eR P fd.type = some (a, n) ∧ n ≠ 0 ∧ fd.offset = off := by
 unfold bW at h;split at h
 ·rename_i fs h1;split at h
  ·rename_i fd h2;split at h
   ·rename_i a' n' h3;split at h
    ·cases h
    ·rename_i h4;simp only [Option.some.injEq, Prod.mk.injEq] at h;obtain ⟨rfl, rfl, rfl⟩ := h;exact ⟨fs, fd, h1, h2, h3, h4, rfl⟩
   ·cases h
  ·cases h
 ·cases h
theorem sA {o : Oper} {st : St} {K : St → Prop} (s : TypeId) (x : Operand) (f : Nat) (hd : bL o st) (ho : o.op = .fieldAddr s x f) (h : eW P o.dst s x f st K) : Does P o st K := by
 unfold eW at h;split at h
 ·rename_i off a n hf;obtain ⟨fs, fd, h1, h2, h3, h4, h5⟩ := vC hf;obtain ⟨td, ti, i1, i2, i3, i4⟩ := gR h3;refine aT hd _ (fun w g tmps hok => ?_) h.2;obtain ⟨b, o', hv, hs⟩ := hok.plus off h.1;refine ⟨_, ?_, hs⟩;simp [execOp, ho, Instr.fieldAt, run_underlying h1, h2, hv, Instr.sureAddr, fieldPlace, aR i2, i4, h4, h5, Addr.add_none]
 ·exact h.elim
theorem zM {w : World} {M : Mem} {bs : List Nat} {cs : List D} {vs : Array Value} {t : TypeId} {a : Bool} {n off : Nat} {d : D} (hl : vs.size = cs.length)
  (hr : ∀ (i : Nat) (d : D) (x : Value), cs[i]? = some d → vs[i]? = some x → R M bs d x) (h1 : ∀ (i : Nat) (x : Value), vs[i]? = some x → x.oneCell' = true)
  (ht : eR P t = some (a, n)) (hd : lD a n (cs.drop off) = some d) : ∃ v, (part t vs off).run P w = .ok v w ∧ R M bs d v := by
 obtain ⟨td, ti, i1, i2, i3, i4⟩ := gR ht;unfold lD at hd;cases a with
 | true =>
  simp only [if_true] at hd;split at hd
  ·rename_i hn;simp only [Option.some.injEq] at hd;refine ⟨.agg (vs.extract off (off + n)), ?_, ?_⟩
   ·simp [part, fN i1, i3, aR i2, i4]
   ·rw [← hd];rw [List.length_drop] at hn;refine .agg _ _ ?_ (fun i d x a1 a2 => ?_) (fun i x a1 => ?_)
    ·simp; omega
    ·rw [List.getElem?_take] at a1;split at a1
     ·rw [List.getElem?_drop] at a1;rw [Array.getElem?_extract] at a2;split at a2
      ·exact hr _ d x a1 a2
      ·cases a2
     ·cases a1
    ·rw [Array.getElem?_extract] at a1;split at a1
     ·exact h1 _ x a1
     ·cases a1
  ·cases hd
 | false =>
  simp only [Bool.false_eq_true, if_false, List.head?_drop] at hd;have hlt : off < vs.size := by rw [hl]; exact (List.getElem?_eq_some_iff.1 hd).1
  have hv : vs[off]? = some vs[off] := Array.getElem?_eq_getElem hlt;exact ⟨vs[off], by simp [part, fN i1, i3, hlt], hr off d _ hd hv⟩
theorem qP {M : Mem} {bs : List Nat} {cs : List D} {vs : Array Value} {a : Bool} {n off : Nat} {d : D} (hl : vs.size = cs.length)
  (hr : ∀ (i : Nat) (d : D) (x : Value), cs[i]? = some d → vs[i]? = some x → R M bs d x) (h1 : ∀ (i : Nat) (x : Value), vs[i]? = some x → x.oneCell' = true) (hd : lD a n (cs.drop off) = some d) : ∀ ds, d ≠ .tup ds := by
 intro ds e;subst e;unfold lD at hd;split at hd
 ·split at hd <;> simp at hd
 ·rw [List.head?_drop] at hd;have hlt : off < vs.size := by rw [hl]; exact (List.getElem?_eq_some_iff.1 hd).1
  have hv : vs[off]? = some vs[off] := Array.getElem?_eq_getElem hlt;exact ((hr off _ _ hd hv).one (h1 off _ hv)).2 _ rfl
def jZ (P : Program) (dst : Option Tmp) (s : TypeId) (x : Operand) (f : Nat) (st : St) (K : St → Prop) : Prop :=
 match bW P s f, st.rd x with
 | some (off, a, n), .agg cs => match lD a n (cs.drop off) with
  | some d => K (st.put dst (.d d.s2))
  | none => False
 | _, _ => False
theorem Bn {o : Oper} {st : St} {K : St → Prop} (s : TypeId) (x : Operand) (f : Nat) (hd : bL o st) (ho : o.op = .field s x f) (h : jZ P o.dst s x f st K) : Does P o st K := by
 unfold jZ at h;split at h
 ·rename_i off a n cs hf hx;split at h
  ·rename_i d hld;obtain ⟨fs, fd, h1, h2, h3, h4, h5⟩ := vC hf;obtain ⟨td, ti, i1, i2, i3, i4⟩ := gR h3;refine aT hd _ (fun w g tmps hok => ?_) h;have hr := hok.rd x;rw [hx] at hr;generalize hv : ev tmps x = v at hr;cases hr with
   | agg cs vs hl hr h1' =>
    obtain ⟨y, hy, hry⟩ := zM (P := P) (w := w) hl hr h1' h3 hld;refine ⟨y, ?_, lP hry (qP hl hr h1' hld)⟩;subst h5;simp [execOp, ho, Instr.field, run_underlying h1, h2, hv, asAgg, hy]
  ·exact h.elim
 ·exact h.elim
end
end Go.Vm

