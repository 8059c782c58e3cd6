import Derived.Test.YtighdhfgcdjmeaaGreatDoorVm12
namespace Go.Vm
open Go
set_option linter.all false
section
variable {P : Program}
theorem uB {t e : TypeId} {ti : TypeInfo} (h1 : P.underlying t = some (.slice e)) (h2 : P.info? e = some ti) (a : Option Addr) (c : Nat) (ty : TypeId) (w : World) : (Builtin.append_ #[t, t] ty #[.slice none 0 0, .slice a 0 c]).run P w = .ok (.slice none 0 0) w := by
 have hfc : (Builtin.firstCells ti.size 0 (.slice a 0 c)).run P w = .ok #[] w := by
  cases a with
  | none => simp [Builtin.firstCells]
  | some a => simp [Builtin.firstCells, loadCells, loadCellsFrom]
 simp [Builtin.append_, run_underlying h1, aR h2, Builtin.lenOf, hfc]
theorem qW {w : World} {g : Gh} {st : St} {tmps : Array Value} (hok : Ok w g st (aU tmps)) {t e : TypeId} {k by_ : Nat} {ti : TypeInfo} {zv : Value} (h1 : P.underlying t = some (.slice e)) (h2 : P.info? e = some ti) (h3 : ti.zero = some zv) (h5 : ti.size = k) (h6 : ti.bytes = by_) (h7 : zv.cells.size = k) (h8 : 0 < k)
  (d : Nat) (o : Bool) (xs : List D) (vx : Value) (hvx : R g.M g.bs (.sl o xs) vx) (hb : xs.length * by_ ≤ 140737488355328) (hm : xs.length ≤ maxLen) (hxs : ∀ d ∈ xs, d.ncells = k) (ty : TypeId) :
  ∃ v w' g', (Builtin.append_ #[t, t] ty #[.slice none 0 0, vx]).run P w = .ok v w' ∧ g'.bl = g.bl ∧ Fr w g w' g' ∧ Ok w' g' (st.set d (.d (.sl true xs))) (fun u => if u = d then v else aU tmps u) := by
 subst h5; subst h6;by_cases hx0 : xs = []
 ·subst hx0;obtain ⟨a, c, rfl⟩ : ∃ a c, vx = .slice a 0 c := by
   cases hvx with
   | nil => exact ⟨_, _, rfl⟩
   | emp o a cap hm => exact ⟨_, _, rfl⟩
   | sl o' es b off n cap k vs hl hn => subst hn; exact ⟨_, _, rfl⟩
  exact ⟨_, w, g, uB h1 h2 a c ty w, rfl, Fr.refl w g, hok.set d _ _ ⟨.nil true, .sl _ _ _ (.inl ⟨_, _, rfl⟩)⟩⟩
 ·obtain ⟨bx, offx, capx, vvx, rfl, l1, l2, l3, l4, l5, l6, l7⟩ := oN hok hvx hxs hx0;have hxlen : 0 < xs.length := by cases xs <;> simp_all
  have hxsz : ∀ v ∈ vvx, v.cells.size = ti.size := fun v hv => (l6 v hv).1;have hnl : (vvx.flatMap fun v => v.cells.toList).length = xs.length * ti.size := by rw [dE vvx hxsz, l1]
  have hnews : ∀ (j : Nat) (u : Value), (vvx.flatMap fun v => v.cells.toList)[j]? = some u → w.cell? ((⟨bx, offx, none⟩ : Addr).add j) = some u := fun j u hj => (l7 j u hj).1;have hbig : xs.length ≤ 9223372036854775807 := by unfold maxLen at hm; omega
  have hge := grownCap_ge w xs.length 0 e;have hcm : grownCap w xs.length 0 e ≤ maxLen := grownCap_le_maxLen w xs.length 0 e hm;obtain ⟨g', b1, b2, b3⟩ := hok.drew.freshCap d e xs vvx ti.size (grownCap w xs.length 0 e) h8 l1 hge hcm hx0 l5 (fun i e c1 => hxs _ (List.mem_of_getElem? c1)) l6
   ((vvx.flatMap fun v => v.cells.toList).toArray ++ Builtin.zeroCells zv.cells (grownCap w xs.length 0 e - xs.length))
   (by
    rw [← hnl, Array.toList_append];exact List.take_left)
   (by
    simp only [Array.size_append, List.size_toArray, size_zeroCells, hnl, h7, ← Nat.add_mul];congr 1;omega)
  exact ⟨_, _, g', run_append_nil (P := P) w t ty e ti zv h1 h2 h3 ⟨bx, offx, none⟩ xs.length capx _ hnl hnews hxlen (by omega) (by omega), b1, (Fr.drew w g).trans b2, b3⟩
theorem yM {o : Oper} {st : St} {K : St → Prop} (t t2 : TypeId) (s x : Operand) (hd : bL o st) (ho : o.op = .call { callee := .builtin .append, args := #[s, x], argTypes := #[t, t2] }) (h : iR P o.dst t t2 s x st K) : Does P o st K := by
 unfold iR at h;split at h
 ·rename_i e k by_ z d es ow xs he hdst hs hx;obtain ⟨ti, zv, h1, h2, h3, h4, h5, h6, h7, h8⟩ := dD he;obtain ⟨⟨e2, ht2⟩, ⟨hb, hm⟩, hes, hxs, h⟩ := h;have hrun : ∀ (tmps : Array Value) (w w' : World) (v : Value), (Builtin.append_ #[t, t] o.type #[ev tmps s, ev tmps x]).run P w = .ok v w' → (execOp (ev tmps) o).run P w = .ok (.value v) w' := by
   intro tmps w w' v hr;rw [← kC (ty := o.type) h1 ht2] at hr;simp [execOp, ho, resolve, invoke, builtin, hr]
  split at h
  ·rename_i ts;obtain ⟨hne, hK⟩ := h;have hs' : st.env ts = .d (.sl true es) := by
    cases he' : st.env ts with
    | lref n off => simp [St.rd, St.rdS, he'] at hs
    | d y => simp [St.rd, St.rdS, he'] at hs; rw [hs]
   refine aP hd fun w g tmps hok => ?_;obtain ⟨v, w', g', r1, r2, r3, r4⟩ := rA hok h1 h2 h3 h5 h6 (by rw [h4]; exact h7) h8 (z := z) ts d hne ow es xs hs' (ev tmps x) (by have := hok.rd x; rwa [hx] at this) hb hm hes hxs o.type;exact ⟨v, w', g', _, .inl (hrun tmps w w' v r1), hK, r3, by rw [hdst]; exact r4, rfl, by rw [r2]; simp⟩
  ·have hes0 : es = [] := by
    simp only [St.rd, St.rdS, D.ofV, D.ofV1, D.sl.injEq] at hs;exact hs.2.symm
   subst hes0;simp only [List.nil_append, List.length_nil, Nat.zero_add] at h hb hm;refine aP hd fun w g tmps hok => ?_;obtain ⟨v, w', g', r1, r2, r3, r4⟩ := qW hok h1 h2 h3 h5 h6 (by rw [h4]; exact h7) h8 d ow xs (ev tmps x) (by have := hok.rd x; rwa [hx] at this) hb hm hxs o.type;exact ⟨v, w', g', _, .inl (hrun tmps w w' v r1), h, r3, by rw [hdst]; exact r4, rfl, by rw [r2]; simp⟩
  ·exact h.elim
 ·exact h.elim
def fC (a : Bool) (h : Holder) (off n d : Nat) : fO → fO := fun t =>
 if t.1 = h then (match t.2 with
  | i :: q => if a then (if off ≤ i ∧ i < off + n then (.slot d, (i - off) :: q) else t) else (if i = off then (.slot d, q) else t)
  | [] => t) else t
def eH (P : Program) (c : Cfg) (dst : Option Tmp) (t : TypeId) (x : Operand) (st : St) (K : St → Prop) : Prop :=
 match eR P t, dst with
 | some (a, n), some d =>
  if c.take.contains d then
   match st.rdS x with
   | .lref m off => match st.loc[m]? with
    | some cs => match lD a n (cs.drop off) with
     | some y => ((a = false → n = 1) ∧ 0 < n) ∧ off + n ≤ cs.length ∧ K (({ st with loc := st.loc.set m (bO cs off y.s2.cells) } : St).set d (.d y))
     | none => False
    | none => False
   | .d (.ref m off) => match st.obj[m]? with
    | some cs => match lD a n (cs.drop off) with
     | some y => ((a = false → n = 1) ∧ 0 < n) ∧ off + n ≤ cs.length ∧ K (({ st with obj := st.obj.set m (bO cs off y.s2.cells) } : St).set d (.d y))
     | none => False
    | none => False
   | _ => dL P dst t x st K
  else dL P dst t x st K
 | _, _ => dL P dst t x st K
theorem Ea {w : World} {g : Gh} {hd : Holder} {b : Nat} {cs : List D} {t : TypeId} {a : Bool} {n off : Nat} {y : D} (hbx : BoxOk w g hd b cs) (ht : eR P t = some (a, n)) (hld : lD a n (cs.drop off) = some y) (hn1 : a = false → n = 1) (hpos : 0 < n) (hfit : off + n ≤ cs.length) (d : Nat) (hhd : ∀ t, hd ≠ .slot t) :
  ∃ v, (loadVar t ⟨b, off, none⟩).run P w = .ok v w ∧ R g.M g.bs y v ∧ Own w g.M g.bs (cH (fC a hd off n d) g.X) (.slot d) [] y v ∧ BoxOk w { g with X := cH (fC a hd off n d) g.X } hd b (bO cs off y.s2.cells) := by
 obtain ⟨v, hrun, hr⟩ := lH (P := P) (pN hbx off) ht hld;have hnt := iW (pN hbx off) hld;obtain ⟨cur, E, h1, h2, h3, h4, h5⟩ := hbx.resolve_left (by intro e; rw [e] at hfit; simp at hfit; omega);have hb2 : BoxOk w g hd b cs := .inr ⟨cur, E, h1, h2, h3, h4, h5⟩;obtain ⟨td, ti, i1, i2, i3, i4⟩ := gR ht
 -- the value is the cells
 have hv : ∀ (i : Nat) (c : Value), v.cells[i]? = some c → i < n ∧ cur[off + i]? = some c := by
  intro i c hi;cases a with
  | true =>
   simp only [lD, if_true] at hld;split at hld
   ·have e1 : ∀ (j : Nat) (x : Value), ((cur.toList.drop off).take n)[j]? = some x → w.cell? ((⟨b, off, none⟩ : Addr).add j) = some x := by
     intro j x hj;rw [Addr.add_none, cell_of_row w b (off + j) cur E (0, 0) h1];rw [List.getElem?_take] at hj;split at hj
     ·rw [List.getElem?_drop, Array.getElem?_toList] at hj; exact hj
     ·cases hj
    have hlen : ((cur.toList.drop off).take n).length = n := by
     rw [List.length_take, List.length_drop, Array.length_toList, h2]; omega
    have hl := run_loadCells_list (P := P) w ⟨b, off, none⟩ ((cur.toList.drop off).take n) e1;rw [hlen] at hl;have : (loadVar t ⟨b, off, none⟩).run P w = .ok (.agg ((cur.toList.drop off).take n).toArray) w := by simp [loadVar, fN i1, i3, aR i2, i4, hl]
    rw [this] at hrun;simp only [Result.ok.injEq, and_true] at hrun;subst hrun;simp only [Value.cells] at hi;rw [List.getElem?_toArray, List.getElem?_take] at hi;split at hi
    ·rename_i hin;rw [List.getElem?_drop, Array.getElem?_toList] at hi;exact ⟨hin, hi⟩
    ·cases hi
   ·cases hld
  | false =>
   have hn := hn1 rfl;subst hn;have hlt : off < cur.size := by omega
   have : (loadVar t ⟨b, off, none⟩).run P w = .ok cur[off] w := by
    simp only [loadVar, Sem.run_bind, fN i1, i3, Result.andThen_ok, Bool.false_eq_true, if_false];exact kX (by rw [cell_of_row w b off cur E (0, 0) h1]; exact Array.getElem?_eq_getElem hlt)
   rw [this] at hrun;simp only [Result.ok.injEq, and_true] at hrun;subst hrun;have hone : cur[off].oneCell' = true := by
    have hc : off < cs.length := by omega
    exact (h5 off _ _ (List.getElem?_eq_getElem hc) (Array.getElem?_eq_getElem hlt)).2.2
   rw [Value.cells_one hone] at hi
   match i with
   | 0 => simp at hi; subst hi; exact ⟨by omega, Array.getElem?_eq_getElem hlt⟩
   | i + 1 => simp at hi
 have hyc : ∀ (i : Nat) (e : D), y.cells[i]? = some e → i < n ∧ cs[off + i]? = some e := by
  intro i e hi;cases a with
  | true =>
   simp only [lD, if_true] at hld;split at hld
   ·simp only [Option.some.injEq] at hld;subst hld;simp only [D.cells] at hi;rw [List.getElem?_take] at hi;split at hi
    ·rename_i hin; rw [List.getElem?_drop] at hi; exact ⟨hin, hi⟩
    ·cases hi
   ·cases hld
  | false =>
   have hn := hn1 rfl;subst hn;simp only [lD, Bool.false_eq_true, if_false, List.head?_drop] at hld;have hna : ∀ ds, y ≠ .agg ds := by
    intro ds e; subst e;have hlt : off < cur.size := by rw [h2]; exact (List.getElem?_eq_some_iff.1 hld).1
    have hc := h5 off _ _ hld (Array.getElem?_eq_getElem hlt);exact (hc.1.one hc.2.2).1 _ rfl
   have hc1 : y.cells = [y] := by cases y <;> first | rfl | exact absurd rfl (hna _)
   rw [hc1] at hi
   match i with
   | 0 => simp at hi; subst hi; exact ⟨by omega, hld⟩
   | i + 1 => simp at hi
 have hylen : y.cells.length = n := by
  cases a with
  | true =>
   simp only [lD, if_true] at hld;split at hld
   ·simp only [Option.some.injEq] at hld;subst hld;simp only [D.cells, List.length_take, List.length_drop]; omega
   ·cases hld
  | false =>
   have hn := hn1 rfl;subst hn;simp only [lD, Bool.false_eq_true, if_false, List.head?_drop] at hld;have hna : ∀ ds, y ≠ .agg ds := by
    intro ds e; subst e;have hlt : off < cur.size := by rw [h2]; exact (List.getElem?_eq_some_iff.1 hld).1
    have hc := h5 off _ _ hld (Array.getElem?_eq_getElem hlt);exact (hc.1.one hc.2.2).1 _ rfl
   cases y <;> first | rfl | exact absurd rfl (hna _)
 refine ⟨v, hrun, hr, ?_, ?_⟩
 ·cases a with
  | true =>
   simp only [lD, if_true] at hld;split at hld
   ·simp only [Option.some.injEq] at hld;cases hr with
    | agg ds vs hl hrr h1' =>
     refine .agg _ ds vs fun i e c a1 a2 => ?_;obtain ⟨hin, hcs⟩ := hyc i e a1;obtain ⟨_, hcu⟩ := hv i c (by simpa [Value.cells] using a2);refine (h5 _ e c hcs hcu).2.1.move (fun _ _ _ h => h) (fun _ _ h => h) _ fun b' q hb => ⟨rfl, fun _ h => h, ?_⟩;simp only [List.nil_append, List.cons_append] at hb ⊢;simp [cH, hb, fC, hin]
    | any => simp at hld
    | v => simp at hld
    | nil => simp at hld
    | emp => simp at hld
    | sl => simp at hld
    | tup => simp at hld
    | adr => simp at hld
    | ref => simp at hld
    | clo => simp at hld
    | xs => simp at hld
    | xl => simp at hld
    | slo => simp at hld
    | mref => simp at hld
    | mp => simp at hld
    | mit => simp at hld
    | ifc => simp at hld
   ·cases hld
  | false =>
   have hn := hn1 rfl;subst hn;simp only [lD, Bool.false_eq_true, if_false, List.head?_drop] at hld;have hlt : off < cur.size := by rw [h2]; exact (List.getElem?_eq_some_iff.1 hld).1
   have hc := h5 off _ _ hld (Array.getElem?_eq_getElem hlt);have hvv : v = cur[off] := by
    have := (hv 0 v (by
     have hone : v.oneCell' = true := by
      have : (loadVar t ⟨b, off, none⟩).run P w = .ok cur[off] w := by
       simp only [loadVar, Sem.run_bind, fN i1, i3, Result.andThen_ok, Bool.false_eq_true, if_false];exact kX (by rw [cell_of_row w b off cur E (0, 0) h1]; exact Array.getElem?_eq_getElem hlt)
      rw [this] at hrun;simp only [Result.ok.injEq, and_true] at hrun;rw [← hrun]; exact hc.2.2
     rw [Value.cells_one hone]; rfl)).2
    rw [Nat.add_zero, Array.getElem?_eq_getElem hlt] at this;simpa using this.symm
   rw [hvv];refine hc.2.1.move (fun _ _ _ h => h) (fun _ _ h => h) _ fun b' q hb => ⟨rfl, fun _ h => h, ?_⟩;simp only [List.nil_append, List.cons_append] at hb ⊢;simp [cH, hb, fC]
 ·refine .inr ⟨cur, E, h1, ?_, ?_, h4, fun i e c a1 a2 => ?_⟩
  ·unfold bO;rw [cU (by rw [← eK, iY, eK, hylen]; exact hfit), h2]
  ·simp [cH, h3, fC]
  ·have hs2 : y.s2.cells.length = n := by rw [← eK, iY, eK, hylen]
   unfold bO at a1;rw [bX (by rw [hs2]; exact hfit), hs2] at a1;have old : (i < off ∨ ¬ i < off + n) → cs[i]? = some e → R g.M g.bs e c ∧ Own w g.M g.bs (cH (fC a hd off n d) g.X) hd [i] e c ∧ c.oneCell' = true := by
    intro ho hi;obtain ⟨b1, b2, b3⟩ := h5 i e c hi a2;refine ⟨b1, b2.move (fun _ _ _ h => h) (fun _ _ h => h) _ fun b' q hb => ⟨rfl, fun _ h => h, ?_⟩, b3⟩;simp only [List.cons_append, List.nil_append] at hb ⊢;cases a with
    | true =>
     have : ¬ (off ≤ i ∧ i < off + n) := by omega
     simp [cH, hb, fC, this]
    | false =>
     have hn := hn1 rfl;have : ¬ i = off := by omega
     simp [cH, hb, fC, this]
   by_cases c1 : i < off
   ·simp only [c1, if_true] at a1;exact old (.inl c1) a1
   ·simp only [c1, if_false] at a1;by_cases c2 : i < off + n
    ·simp only [c2, if_true] at a1
     -- given up
     have hl : i - off < y.cells.length := by omega
     obtain ⟨_, hcs⟩ := hyc (i - off) _ (List.getElem?_eq_getElem hl);rw [show off + (i - off) = i by omega] at hcs;obtain ⟨b1, b2, b3⟩ := h5 i _ c hcs a2;have he : e = D.s1 y.cells[i - off] := by
      cases y with
      | agg ds => simp only [D.s2, D.cells, List.getElem?_map] at a1 ⊢; rw [List.getElem?_eq_getElem (by simpa [D.cells] using hl)] at a1; simp only [Option.map_some, Option.some.injEq] at a1; exact a1.symm
      | tup ds => exact absurd rfl (hnt _)
      | _ =>
       rw [D.s2_of (by intro cs h; cases h)] at a1;have h0 : i - off = 0 := by simp [D.cells] at hl; omega
       simp [D.s1, D.cells, h0] at a1 ⊢;exact a1.symm
     subst he;exact ⟨b1.s1, wF b1 b3, b3⟩
    ·simp only [c2, if_false] at a1;exact old (.inr c2) a1
theorem uN {o : Oper} {st : St} {K : St → Prop} (c : Cfg) (t : TypeId) (x : Operand) (hd : bL o st) (ho : o.op = .load t x) (h : eH P c o.dst t x st K) : Does P o st K := by
 have plain : dL P o.dst t x st K → Does P o st K := fun h => Gj t x hd ho h;unfold eH at h;split at h
 ·rename_i a n d ht hdst;split at h
  ·split at h
   ·rename_i m off hx;split at h
    ·rename_i cs hcs;split at h
     ·rename_i y hld;obtain ⟨⟨hn1, hpos⟩, hfit, hK⟩ := h;refine aP hd fun w g tmps hok => ?_;obtain ⟨b, hb, hv⟩ := hok.rdL hx;obtain ⟨v, hrun, hr, hown, hbox⟩ := Ea (hok.loc m b cs hb hcs) ht hld hn1 hpos hfit d (by simp);have hml : m < st.loc.length := (List.getElem?_eq_some_iff.1 hcs).1;have k1 := hok.parkLoc m (bO cs off y.s2.cells) (fC a (.loc m) off n d) (fun t ht => by simp [fC, ht]) hml (fun b' cs' h1 h2 h3 => by
       rw [hb] at h1; rw [hcs] at h2;simp at h1 h2;subst h1; subst h2;exact hbox)
      refine ⟨v, w, { g with X := cH (fC a (.loc m) off n d) g.X }, _, .inl ?_, hK, Fr.ren w g (fC a (.loc m) off n d), ?_, rfl, by simp⟩
      ·simp [execOp, ho, Instr.loadAt, hv, Instr.sureAddr, hrun]
      ·rw [hdst];exact k1.set d _ _ ⟨hr, hown⟩
     ·exact h.elim
    ·exact h.elim
   ·rename_i m off hx;split at h
    ·rename_i cs hcs;split at h
     ·rename_i y hld;obtain ⟨⟨hn1, hpos⟩, hfit, hK⟩ := h;refine aP hd fun w g tmps hok => ?_;have hra := hok.rd x;simp only [St.rd, hx] at hra;generalize hv : ev tmps x = va at hra;cases hra with
      | ref _ _ b hb =>
       obtain ⟨v, hrun, hr, hown, hbox⟩ := Ea (hok.obj m b cs hb hcs) ht hld hn1 hpos hfit d (by simp);have hml : m < st.obj.length := (List.getElem?_eq_some_iff.1 hcs).1;have k1 := hok.parkObj m (bO cs off y.s2.cells) (fC a (.obj m) off n d) (fun t ht => by simp [fC, ht]) hml (fun b' cs' h1 h2 h3 => by
        rw [hb] at h1; rw [hcs] at h2;simp at h1 h2;subst h1; subst h2;exact hbox)
       refine ⟨v, w, { g with X := cH (fC a (.obj m) off n d) g.X }, _, .inl ?_, hK, Fr.ren w g (fC a (.obj m) off n d), ?_, rfl, by simp⟩
       ·simp [execOp, ho, Instr.loadAt, hv, Instr.sureAddr, hrun]
       ·rw [hdst];exact k1.set d _ _ ⟨hr, hown⟩
     ·exact h.elim
    ·exact h.elim
   ·exact plain h
  ·exact plain h
 ·exact plain h
end
end Go.Vm

