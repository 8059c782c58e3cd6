import Derived.Test.YtighdhfgcdjmeaaGreatDoorVmX3
namespace Go.Vm
open Go
set_option linter.all false
section
variable {P : Program}
def qB (P : Program) (dst : Option Tmp) (t : TypeId) (x : Operand) (st : St) (K : St → Prop) : Prop :=
 (∃ e, P.underlying t = some (.slice e)) ∧ match st.rd x with
 | .xs _ es => K (st.put dst (.d (.int es.length)))
 | .xl n => K (st.put dst (.d (.int n)))
 | .slo _ _ len _ => K (st.put dst (.d (.int len)))
 | _ => False
theorem Ik {o : Oper} {st : St} {K : St → Prop} (t : TypeId) (x : Operand) (hd : bL o st) (ho : o.op = .call { callee := .builtin .len, args := #[x], argTypes := #[t] }) (h : qB P o.dst t x st K) : Does P o st K := by
 obtain ⟨⟨e, ht⟩, h⟩ := h;split at h
 ·rename_i k es hx;refine aT hd _ (fun w g tmps hok => ?_) h;have hr := hok.rd x;rw [hx] at hr;generalize hv : ev tmps x = v at hr;refine ⟨.int .i64 es.length, ?_, aM (.v _ rfl) rfl⟩;cases hr with
  | xs _ _ a n cap hn => simp [execOp, ho, resolve, invoke, builtin, Builtin.len_, hv, run_underlying ht, goInt, hn]
 ·rename_i n hx;refine aT hd _ (fun w g tmps hok => ?_) h;have hr := hok.rd x;rw [hx] at hr;generalize hv : ev tmps x = v at hr;refine ⟨.int .i64 n, ?_, aM (.v _ rfl) rfl⟩;cases hr with
  | xl a _ cap => simp [execOp, ho, resolve, invoke, builtin, Builtin.len_, hv, run_underlying ht, goInt]
 ·rename_i m a len cap hx;refine aT hd _ (fun w g tmps hok => ?_) h;have hr := hok.rd x;rw [hx] at hr;generalize hv : ev tmps x = v at hr;refine ⟨.int .i64 len, ?_, aM (.v _ rfl) rfl⟩;cases hr with
  | slo _ _ _ _ x hb hc hm => simp [execOp, ho, resolve, invoke, builtin, Builtin.len_, hv, run_underlying ht, goInt]
 ·exact h.elim
def eE (P : Program) (dst : Option Tmp) (t : TypeId) (x i : Operand) (st : St) (K : St → Prop) : Prop :=
 match st.rd i, eP P t, st.rd x with
 | .v (.int _ n), some (_, k, _, _), .slo m a len _ => (0 ≤ n ∧ n < len) ∧ K (st.put dst (.d (.ref m (a + n.toNat * k))))
 | _, _, _ => False
theorem qY {o : Oper} {st : St} {K : St → Prop} (t : TypeId) (x i : Operand) (hd : bL o st) (ho : o.op = .indexAddr t x i) (h : eE P o.dst t x i st K) : Does P o st K := by
 unfold eE at h;split at h
 ·rename_i kk n e k by_ z m a len cap hi he hx;obtain ⟨ti, zv, h1, h2, h3, h4, h5, h6, h7, h8⟩ := dD he;obtain ⟨⟨hn0, hn1⟩, hK⟩ := h;refine aT hd _ (fun w g tmps hok => ?_) hK;have hr := hok.rd x;rw [hx] at hr;have hri := hok.rd i;rw [hi] at hri;have hiv := hri.int;generalize hv : ev tmps x = v at hr;cases hr with
  | slo _ _ _ _ x hb hc hm =>
   obtain ⟨b, hb2, rfl⟩ := hb (by omega);refine ⟨.pointer (some ⟨b, a + n.toNat * k, none⟩), ?_, aM (.ref _ _ b hb2) rfl⟩;have hc2 : 0 ≤ n ∧ n < (len : Int) := ⟨hn0, hn1⟩;simp [execOp, ho, Instr.indexAt, hv, hiv, asIntOf, run_underlying h1, aR h2, h5, hc2, Addr.add_none]
 ·exact h.elim
def iK (P : Program) (dst : Option Tmp) (t : TypeId) (x : Operand) (lo hi : Option Operand) (st : St) (K : St → Prop) : Prop :=
 match eP P t, st.rd x with
 | some (_, k, _, _), .slo m a len cap => match cK st 0 lo, cK st len hi with
  | some l, some h => (0 ≤ l ∧ l ≤ h ∧ (h ≤ len ∨ h ≤ cap)) ∧ K (st.put dst (.d (.slo m (a + l.toNat * k) (h.toNat - l.toNat) (cap - l.toNat))))
  | _, _ => False
 | _, _ => False
theorem qA {w : World} {g : Gh} {st : St} {tmps : Array Value} (hok : Ok w g st (aU tmps)) {isSlice : Bool} {len cap : Nat} {lo hi : Option Operand} {l h : Int} (hcap : len ≤ cap)
  (h1 : cK st 0 lo = some l) (h2 : cK st len hi = some h) (hb : 0 ≤ l ∧ l ≤ h ∧ (h ≤ len ∨ h ≤ cap)) :
  (Instr.sliceBounds isSlice len cap (lo.map (ev tmps)) (hi.map (ev tmps)) none).run P w = .ok (l.toNat, h.toNat, cap) w := by
 obtain ⟨b1, b2, b3⟩ := hb;rcases fA hok h1 with ⟨rfl, rfl⟩ | ⟨y, k, rfl, e1⟩ <;> rcases fA hok h2 with ⟨rfl, rfl⟩ | ⟨z, k', rfl, e2⟩
 ·simp [Instr.sliceBounds]
 ·simp [Instr.sliceBounds, e2, bU (P := P) (w := w) (k := k') (i := h) (y := cap) (code := if isSlice = true then .sliceAcap else .sliceAlen) (by omega)]
 ·have := bU (P := P) (w := w) (k := k) (i := l) (y := len) (code := .sliceB) (by omega);simp [Instr.sliceBounds, e1, this]
 ·have a1 := bU (P := P) (w := w) (k := k') (i := h) (y := cap) (code := if isSlice = true then .sliceAcap else .sliceAlen) (by omega);have a2 := bU (P := P) (w := w) (k := k) (i := l) (y := h.toNat) (code := .sliceB) (by omega);simp [Instr.sliceBounds, e1, e2, a1, a2]
theorem yZ {o : Oper} {st : St} {K : St → Prop} (t : TypeId) (x : Operand) (lo hi : Option Operand) (hd : bL o st) (ho : o.op = .slice t x lo hi none) (h : iK P o.dst t x lo hi st K) : Does P o st K := by
 unfold iK at h;split at h
 ·rename_i e k by_ z m a len cap he hx;obtain ⟨ti, zv, h1, h2, h3, h4, h5, h6, h7, h8⟩ := dD he;split at h
  ·rename_i l hh e1 e2;obtain ⟨hb, hK⟩ := h;refine aT hd _ (fun w g tmps hok => ?_) hK;have hr := hok.rd x;rw [hx] at hr;generalize hv : ev tmps x = v at hr;cases hr with
   | slo _ _ _ _ x hbs hc hm =>
    have := qA (P := P) (isSlice := true) hok hc e1 e2 hb;obtain ⟨b1, b2, b3⟩ := hb;by_cases hml : cap = l.toNat
    ·refine ⟨.slice x (hh.toNat - l.toNat) (cap - l.toNat), ?_, aM ?_ rfl⟩
     ·subst hml;cases x <;> simp [execOp, ho, Instr.sliceAt, hv, run_underlying h1, Instr.slice, this, aR h2]
     ·exact .slo _ _ _ _ x (by omega) (by omega) (by omega)
    ·obtain ⟨b, hbs2, rfl⟩ := hbs (by omega);refine ⟨.slice (some ⟨b, a + l.toNat * k, none⟩) (hh.toNat - l.toNat) (cap - l.toNat), ?_, aM ?_ rfl⟩
     ·simp [execOp, ho, Instr.sliceAt, hv, run_underlying h1, Instr.slice, this, aR h2, hml, h5, Addr.add_none]
     ·exact .slo _ _ _ _ _ (fun h => ⟨b, hbs2, rfl⟩) (by omega) (by omega)
  ·exact h.elim
 ·exact h.elim
def fJ (z : Array Value) (n : Nat) : List D := (List.replicate n (z.toList.map D.ofV1)).flatten
def jJ (P : Program) (dst : Option Tmp) (t : TypeId) (x : Operand) (st : St) (K : St → Prop) : Prop :=
 dst = none ∧ match eP P t, st.rd x with
 | some (_, k, _, z), .slo m a len _ => match st.obj[m]? with
  | some cs => (a + len * k ≤ cs.length ∧ ∀ c ∈ z.toList, c.oneCell' = true) ∧ K { st with obj := st.obj.set m (bO cs a (fJ z len)) }
  | none => False
 | _, _ => False
theorem mG {z : Array Value} {k : Nat} (hz : z.size = k) : ∀ n, (fJ z n).length = n * k
 | 0 => by simp [fJ]
 | n + 1 => by
  have := mG hz n;simp only [fJ] at *;rw [List.replicate_succ, List.flatten_cons, List.length_append, this];simp [hz, Nat.add_mul, Nat.add_comm]
theorem rU {z : Array Value} (hz : 0 < z.size) (n : Nat) : (Builtin.zeroCells z (n + 1)).toList = z.toList ++ (Builtin.zeroCells z n).toList := by
 apply List.ext_getElem?;intro i;simp only [Builtin.zeroCells, Array.toList_map, Array.toList_range, List.getElem?_map];by_cases hi : i < z.size
 ·rw [List.getElem?_append_left (by simpa using hi)];have : i < (n + 1) * z.size := by rw [Nat.add_mul]; omega
  rw [List.getElem?_range this];simp [Nat.mod_eq_of_lt hi, hi]
 ·rw [List.getElem?_append_right (by simpa using hi), List.getElem?_map];by_cases h2 : i < (n + 1) * z.size
  ·have h3 : i - z.size < n * z.size := by rw [Nat.add_mul] at h2; omega
   rw [List.getElem?_range h2, Array.length_toList, List.getElem?_range h3];have : i % z.size = (i - z.size) % z.size := by
    have := Nat.add_mod_right (i - z.size) z.size;rw [show i - z.size + z.size = i by omega] at this; exact this
   simp [this]
  ·have h3 : ¬ i - z.size < n * z.size := by rw [Nat.add_mul] at h2; omega
   rw [List.getElem?_eq_none (by simpa using h2), Array.length_toList, List.getElem?_eq_none (by simpa using h3)]
theorem pP {M : Mem} {bs : List Nat} {z : Array Value} (hz : 0 < z.size) : ∀ n (i : Nat) (d : D) (x : Value), (fJ z n)[i]? = some d → (Builtin.zeroCells z n).toList[i]? = some x → d = D.ofV1 x ∧ x ∈ z.toList
 | 0, i, d, x, h, _ => by simp [fJ] at h
 | n + 1, i, d, x, h, h' => by
  rw [rU hz] at h';simp only [fJ, List.replicate_succ, List.flatten_cons] at h;by_cases hi : i < z.size
  ·rw [List.getElem?_append_left (by simpa using hi), List.getElem?_map] at h;rw [List.getElem?_append_left (by simpa using hi)] at h';rw [h'] at h;simp at h;exact ⟨h.symm, List.mem_of_getElem? h'⟩
  ·rw [List.getElem?_append_right (by simpa using hi)] at h;rw [List.getElem?_append_right (by simpa using hi)] at h';simp only [List.length_map, Array.length_toList] at h h';exact pP (M := M) (bs := bs) hz n _ d x h h'
theorem zF {o : Oper} {st : St} {K : St → Prop} (t : TypeId) (x : Operand) (hd : bL o st) (ho : o.op = .call { callee := .builtin .clear, args := #[x], argTypes := #[t] }) (h : jJ P o.dst t x st K) : Does P o st K := by
 obtain ⟨hdst, h⟩ := h;split at h
 ·rename_i e k by_ z m a len cap he hx;obtain ⟨ti, zv, h1, h2, h3, h4, h5, h6, h7, h8⟩ := dD he;split at h
  ·rename_i cs hcs;obtain ⟨⟨hfit, hz1⟩, hK⟩ := h;refine aP hd fun w g tmps hok => ?_;have hr := hok.rd x;rw [hx] at hr;generalize hv : ev tmps x = v at hr;cases hr with
   | slo _ _ _ _ xa hbs hc hm =>
   have hml : m < st.obj.length := (List.getElem?_eq_some_iff.1 hcs).1;rw [hdst];by_cases hlen : len = 0
   ·subst hlen;refine ⟨.tuple #[], w, g, _, .inl (by cases xa <;> simp [execOp, ho, resolve, invoke, builtin, Builtin.clear_, hv, run_underlying h1]), hK, Fr.refl w g, ?_, rfl, by simp⟩;have : bO cs a (fJ z 0) = cs := by simp [bO, fJ]
    rw [this];have e : ({ st with obj := st.obj.set m cs } : St) = st := by
     have : st.obj.set m cs = st.obj := by
      apply List.ext_getElem?;intro i;rw [List.getElem?_set];split
      ·rename_i e; subst e; exact hcs.symm
      ·rfl
     rw [this]
    rw [e]; exact hok
   ·obtain ⟨b, hbs2, rfl⟩ := hbs (by omega);have hne : cs ≠ [] := by
     intro e; subst e;have h0 : a + len * k ≤ 0 := by simpa using hfit
     have : 0 < len * k := Nat.mul_pos (by omega) h8;omega
    obtain ⟨cur, E, o1, o2, o3, o4, o5⟩ := (hok.obj m b cs hbs2 hcs).resolve_left hne;have hzs : z.size = k := h7;have hzl : (Builtin.zeroCells z len).toList.length = len * k := by rw [Array.length_toList, size_zeroCells, hzs]
    have hone : ∀ c ∈ (Builtin.zeroCells z len).toList, c.oneCell' = true := fun c hc => hz1 c (eL hc (by omega));have hrun := run_storeCells_at P b a E (Builtin.zeroCells z len).toList 0 cur w o1 (by rw [hzl, o2]; omega) hone;simp only [Nat.add_zero] at hrun;have hdl : (fJ z len).length = len * k := mG hzs len;have e1 : a + (fJ z len).length ≤ cs.length := by rw [hdl]; exact hfit
    have e2 : a + (Builtin.zeroCells z len).toList.length ≤ cur.toList.length := by rw [hzl, Array.length_toList, o2]; exact hfit
    obtain ⟨k6, k7⟩ := hok.writeObj m b (bO cs a (fJ z len)) (cur.toList.take a ++ (Builtin.zeroCells z len).toList ++ cur.toList.drop (a + (Builtin.zeroCells z len).toList.length)).toArray hbs2 (by rw [hcs]; simpa using hne)
     (by rw [List.size_toArray, cU e2]; unfold bO; rw [cU e1, Array.length_toList, o2])
     (fun i d y a1 a2 => by
      unfold bO at a1;rw [bX e1, hdl] at a1;rw [List.getElem?_toArray, bX e2, hzl] at a2;by_cases c1 : i < a
      ·simp only [c1, if_true] at a1 a2;exact o5 i d y a1 (by simpa using a2)
      ·simp only [c1, if_false] at a1 a2;by_cases c2 : i < a + len * k
       ·simp only [c2, if_true] at a1 a2;obtain ⟨rfl, hy⟩ := pP (M := g.M) (bs := g.bs) (by omega) len _ d y a1 a2;exact ⟨R.ofV1 _ _ _, tN y, hz1 y hy⟩
       ·simp only [c2, if_false] at a1 a2;exact o5 i d y a1 (by simpa using a2))
    refine ⟨.tuple #[], _, _, _, .inl ?_, hK, k7, k6, rfl, by simp⟩;have hlen' : ∃ n, len = n + 1 := ⟨len - 1, by omega⟩;obtain ⟨n, rfl⟩ := hlen';have hzv : (zeroValue e).run P w = .ok zv w := by simp [zeroValue, typeInfo, h2, h3]
    rw [← h4] at hrun;simp [execOp, ho, resolve, invoke, builtin, Builtin.clear_, hv, run_underlying h1, hzv, hrun];rw [h4]
  ·exact h.elim
 ·exact h.elim
def gK (P : Program) (dst : Option Tmp) (t t2 : TypeId) (s x : Operand) (st : St) (K : St → Prop) : Prop :=
 match eP P t, dst, s, st.rd x with
 | some (_, k, by_, z), some d, .tmp ts, .sl _ xs => ((∃ e2, P.underlying t2 = some (.slice e2)) ∧ (∀ c ∈ z.toList, c.oneCell' = true)) ∧ (∀ y ∈ xs, y.ncells = k ∧ y.arr = true) ∧ ts ≠ d ∧
  match st.env ts with
  | .d (.xs k' es) => (k' = k ∧ (es.length + xs.length) * by_ ≤ 140737488355328 ∧ es.length + xs.length ≤ maxLen) ∧ K ((st.set ts .any).set d (.d (.xs k (es ++ xs))))
  | .d (.sl true []) => (xs.length * by_ ≤ 140737488355328 ∧ xs.length ≤ maxLen) ∧ K ((st.set ts .any).set d (.d (.xs k xs)))
  | .d (.slo N a len cap) => ∃ ds es, (a = 0 ∧ st.obj[N]? = some ds ∧ ds.length = cap * k ∧ es.length = len ∧ (∀ d ∈ es, d.ncells = k ∧ d.arr = true) ∧ es.flatMap D.cells <+: ds ∧ (es.length + xs.length) * by_ ≤ 140737488355328 ∧ es.length + xs.length ≤ maxLen) ∧ K ((({ st with obj := st.obj.set N [] } : St).set ts .any).set d (.d (.xs k (es ++ xs))))
  | _ => False
 | _, _, _, _ => False
theorem xF {o : Oper} {st : St} {K : St → Prop} (t t2 : TypeId) (s x : Operand) (hd : bL o st) (ho : o.op = .call { callee := .builtin .append, args := #[s, x], argTypes := #[t, t2] }) (h : gK P o.dst t t2 s x st K) : Does P o st K := by
 unfold gK at h;split at h
 ·rename_i e k by_ z d ts ow xs he hdst hx;obtain ⟨ti, zv, h1, h2, h3, h4, h5, h6, h7, h8⟩ := dD he;obtain ⟨⟨⟨e2, ht2⟩, hz⟩, hxs, hne, h⟩ := h;have hrun : ∀ (tmps : Array Value) (w w' : World) (v : Value), (Builtin.append_ #[t, t] o.type #[aU tmps ts, ev tmps x]).run P w = .ok v w' → (execOp (ev tmps) o).run P w = .ok (.value v) w' := by
   intro tmps w w' v hr;rw [← kC (ty := o.type) h1 ht2] at hr;have : aU tmps ts = ev tmps (.tmp ts) := rfl;rw [this] at hr;simp [execOp, ho, resolve, invoke, builtin, hr]
  split at h
  ·rename_i k' es hs;obtain ⟨⟨rfl, hb, hm⟩, hK⟩ := h;refine aP hd fun w g tmps hok => ?_;obtain ⟨v, w', g', r1, r2, r3, r4⟩ := dH hok h1 h2 h3 h5 h6 (by rw [h4]; exact h7) h8 (by rw [h4]; exact hz) ts d hne es xs _ hs (.inl rfl) (ev tmps x) (nL hok (by have := hok.rd x; rwa [hx] at this) fun d hd => (hxs d hd).1) hb hm hxs o.type;exact ⟨v, w', g', _, .inl (hrun tmps w w' v r1), hK, r3, by rw [hdst]; exact r4, rfl, by rw [r2]; simp⟩
  ·rename_i hs;obtain ⟨⟨hb, hm⟩, hK⟩ := h;refine aP hd fun w g tmps hok => ?_;obtain ⟨v, w', g', r1, r2, r3, r4⟩ := dH hok h1 h2 h3 h5 h6 (by rw [h4]; exact h7) h8 (by rw [h4]; exact hz) ts d hne [] xs _ hs (.inr (.inl ⟨rfl, rfl⟩)) (ev tmps x) (nL hok (by have := hok.rd x; rwa [hx] at this) fun d hd => (hxs d hd).1) (by simpa using hb) (by simpa using hm) hxs o.type;exact ⟨v, w', g', _, .inl (hrun tmps w w' v r1), hK, r3, by rw [hdst]; exact r4, rfl, by rw [r2]; simp⟩
  ·rename_i N a len cap hs;obtain ⟨ds, es, ⟨rfl, hN, hdl, hel, hes, hpre, hb, hm⟩, hK⟩ := h;refine aP hd fun w g tmps hok => ?_;obtain ⟨g1, q1, q2, q3⟩ := hok.closeX ts k N len cap es ds hs hN h8 hdl hel hes hpre;have hR : R g1.M g1.bs (.sl ow xs) (ev tmps x) := by
    have := hok.rd x;rw [hx] at this;exact this.mono q2.mono q2.bs
   obtain ⟨v, w', g', r1, r2, r3, r4⟩ := dH q3 h1 h2 h3 h5 h6 (by rw [h4]; exact h7) h8 (by rw [h4]; exact hz) ts d hne es xs _ (by simp [St.set]) (.inl rfl) (ev tmps x) (nL q3 hR fun d hd => (hxs d hd).1) hb hm hxs o.type;have e : (({ st.set ts (.d (.xs k es)) with obj := st.obj.set N [] } : St).set ts .any) = ({ st with obj := st.obj.set N [] } : St).set ts .any := by
    simp only [St.set];congr 1;funext u;by_cases hu : u = ts <;> simp [hu]
   rw [e] at r4;exact ⟨v, w', g', _, .inl (hrun tmps w w' v r1), hK, q2.trans r3, by rw [hdst]; exact r4, rfl, by rw [r2, q1]; simp⟩
  ·exact h.elim
 ·exact h.elim
def Ff (P : Program) (dst : Option Tmp) (op : Op) (st : St) (K : St → Prop) : Prop := match op with
 | .call ⟨.builtin .len, args, ts⟩ => match args.toList, ts.toList with
  | [x], [t] => qB P dst t x st K
  | _, _ => False
 | .call ⟨.builtin .append, args, ts⟩ => match args.toList, ts.toList with
  | [s, x], [t, t2] => gK P dst t t2 s x st K
  | _, _ => False
 | .call ⟨.builtin .clear, args, ts⟩ => match args.toList, ts.toList with
  | [x], [t] => jJ P dst t x st K
  | _, _ => False
 | .indexAddr t x i => eE P dst t x i st K
 | .slice t x lo hi none => iK P dst t x lo hi st K
 | _ => False
theorem Uk {o : Oper} {st : St} {K : St → Prop} (hd : bL o st) (h : Ff P o.dst o.op st K) : Does P o st K := by
 have a1 : ∀ {α : Type} {a : Array α} {x : α}, a.toList = [x] → a = #[x] := fun h => Array.toList_inj.1 h;have a2 : ∀ {α : Type} {a : Array α} {x y : α}, a.toList = [x, y] → a = #[x, y] := fun h => Array.toList_inj.1 h;unfold Ff at h;split at h
 ·rename_i args ts ho;split at h
  ·rename_i x t h1 h2; rw [a1 h1, a1 h2] at ho; exact Ik t x hd ho h
  ·exact h.elim
 ·rename_i args ts ho;split at h
  ·rename_i s x t t2 h1 h2; rw [a2 h1, a2 h2] at ho; exact xF t t2 s x hd ho h
  ·exact h.elim
 ·rename_i args ts ho;split at h
  ·rename_i x t h1 h2; rw [a1 h1, a1 h2] at ho; exact zF t x hd ho h
  ·exact h.elim
 ·rename_i t x i ho; exact qY t x i hd ho h
 ·rename_i t x lo hi ho; exact yZ t x lo hi hd ho h
 ·exact h.elim
end
end Go.Vm

