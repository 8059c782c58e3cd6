import Derived.Test.YtpfmpeaekgdgnaaGreatVm13
namespace Go.Vm
open Go
set_option linter.all false

section
variable {P : Program}

def gY (xs : List Operand) (st : St) : Prop := ∀ x ∈ xs, (st.rd x).plain = true

def Wp (v : Value) : D := match v with
  | .slice none 0 0 => .v (.slice none 0 0)
  | v => (D.ofV v).strip
def rC (st : St) : Operand → D
  | .const v => Wp v
  | x => (st.rd x).strip
theorem jP {w : World} {g : Gh} {st : St} {tmps : Array Value} (hok : Ok w g st (bU tmps)) (x : Operand) (hp : (st.rd x).plain = true) : R g.M g.bs (rC st x) (ev tmps x) ∧ ∀ X h p, Own w g.M g.bs X h p (rC st x) (ev tmps x) := by
  cases x with
  | const v =>
    show R g.M g.bs (Wp v) v ∧ ∀ X h p, Own w g.M g.bs X h p (Wp v) v
    unfold Wp;split
    · exact ⟨.v _ rfl, fun X h p => .flat _ _ _ rfl⟩
    · exact ⟨(hok.rd (.const v)).strip, fun X h p => gB (hok.rd (.const v)) (fS hp)⟩
  | tmp u => exact ⟨(hok.rd (.tmp u)).strip, fun X h p => gB (hok.rd (.tmp u)) (fS hp)⟩
  | global u => exact ⟨(hok.rd (.global u)).strip, fun X h p => gB (hok.rd (.global u)) (fS hp)⟩
  | func u => exact ⟨(hok.rd (.func u)).strip, fun X h p => gB (hok.rd (.func u)) (fS hp)⟩
theorem fO {st st' : St} {x : Operand} (h : st'.rd x = st.rd x) : rC st' x = rC st x := by
  cases x <;> simp only [rC, h]

def dP (xs : List Operand) (st : St) : List D := xs.map (rC st)

def gH (P : Program) (dst : Option Tmp) (f : Operand) (args : List Operand) (st : St) (K : St → Prop) : Prop :=
  match st.rd f with
  | .clo (.func f) first caps => (∀ d ∈ first ++ caps, d.plain = true) ∧ gY args st ∧
      Ct P f (first.map D.strip ++ dP args st ++ caps.map D.strip) st.obj (fun r σ' => K (({ st with obj := σ' } : St).put dst (.d r)))
  | _ => False

def bS : Operand → Option Nat
  | .tmp s => some s
  | _ => none

def nE (st : St) : Operand → D
  | .tmp t => st.rd (.tmp t)
  | x => rC st x
theorem pY {st st' : St} {x : Operand} (h : st'.rd x = st.rd x) : nE st' x = nE st x := by
  cases x <;> simp only [nE, h, rC]

def iW (P : Program) (dst : Option Tmp) (f : FuncId) (args : List Operand) (st : St) (K : St → Prop) : Prop :=
  (args.filterMap bS).Nodup ∧ (∀ x ∈ args, pN (st.rdS x) = true ∧ (st.rd x).plain = true) ∧
    Ct P f (args.map (nE st)) st.obj (fun r σ' => K (({ st with env := dR (args.map bS) st.env, obj := σ' } : St).put dst (.d r)))

theorem rN {f : FuncId} {args : Array Value} {w : World} (h : rU P f = true) : (callFunc f args).run P w = .ok (.enter f args) w := by
  unfold rU at h;cases hf : P.funcs[f]? with
  | none => simp [hf] at h
  | some fn =>
    simp only [hf, Bool.and_eq_true, bne_iff_ne, ne_eq] at h;have h2 : fn.body.isNone = false := by
      cases hb : fn.body with
      | none => simp [hb] at h
      | some b => rfl
    have h1 : ¬ fn.name = "runtime.NumGoroutine" := h.1;have h3 : ¬ fn.body = none := by intro e; simp [e] at h2
    simp [callFunc, hf, h1, h3]

theorem qH {o : Oper} {st : St} {K : St → Prop} (hd : cL o st) (f : FuncId) (ds : List D) (ts : List (Option Nat)) (σ : List (List D)) (hσ : σ = st.obj)
    (hfn : Ct P f ds σ (fun r σ' => K (({ st with env := dR ts st.env, obj := σ' } : St).put o.dst (.d r)))) (hnt : ∀ t, some t ∈ ts → pN (st.env t) = true)
    (h : ∀ (w : World) (g : Gh) (tmps : Array Value), Ok w g st (bU tmps) → ∃ vs : Array Value, (execOp (ev tmps) o).run P w = .ok (.enter f vs) w ∧ vs.size = ds.length ∧
      ∀ (p : Nat) (d : D) (v : Value), ds[p]? = some d → vs[p]? = some v → R g.M g.bs d v ∧ ((∀ X h p, Own w g.M g.bs X h p d v) ∨ ∃ t, ts[p]? = some (some t) ∧ ts.findIdx? (· == some t) = some p ∧ st.env t = .d d ∧ bU tmps t = v)) : Does P o st K := by
  subst hσ;intro w g tmps hok hn;obtain ⟨vs, hrun, hsz, ha⟩ := h w g tmps hok;have hen := hok.enter ds vs ts hsz ha;unfold Oper.wp;rw [hrun, Oper.upon_enter];refine (hfn.2 w _ vs hsz rfl hen).mono ?_;rintro e w' ⟨r, σ', x, gr, rfl, hK, hbl, hf, hk⟩;obtain ⟨g', g1, g2, g3⟩ := hok.leave ts o.dst r x σ' hf hk hnt;have hdst : ∀ d, o.dst = some d → d < tmps.size := by
    intro d hd';have hd2 : d < st.n := by simpa [cL, hd'] using hd
    rw [hn]; exact hd2
  refine ⟨by simp [kZ], _, g', hK, g2, ?_, ?_, by rw [g1]; simp⟩
  · rw [rA tmps [] o.dst x hdst]; exact g3
  · rw [oC, Ej]; exact hn

theorem qY (n : Nat) (env : Nat → Slot) : dR (List.replicate n none) env = env := by
  funext t;have : (List.replicate n (none : Option Nat)).contains (some t) = false := by
    rw [Bool.eq_false_iff];intro h;rw [List.contains_iff_mem] at h;have := List.eq_of_mem_replicate h;cases this
  simp [dR, this]

theorem gT {o : Oper} {st : St} {K : St → Prop} (f : Operand) (args : Array Operand) (ats : Array TypeId) (hd : cL o st) (ho : o.op = .call { callee := .value f, args, argTypes := ats }) (h : gH P o.dst f args.toList st K) : Does P o st K := by
  unfold gH at h;split at h
  · rename_i fid first caps hf
    obtain ⟨hp, ha, hfn⟩ := h;refine qH hd fid (first.map D.strip ++ dP args.toList st ++ caps.map D.strip) (List.replicate (first.length + args.toList.length + caps.length) none) st.obj rfl ?_ (fun t ht => by have := List.eq_of_mem_replicate ht; cases this) fun w g tmps hok => ?_
    · rw [qY]; exact hfn
    · have hr := hok.rd f
      rw [hf] at hr;generalize hv : ev tmps f = v at hr;cases hr with
      | clo _ _ _ v1 v2 l1 l2 h1 h2 =>
        refine ⟨v1 ++ args.map (ev tmps) ++ v2, ?_, ?_, fun p d v a1 a2 => ?_⟩
        · simp [execOp, ho, resolve, hv, Deferred.ofValue, invoke, rN hfn.1]
        · simp [dP, l1, l2]
        · have strip : ∀ (y : D), y.plain = true → R g.M g.bs y v → d = y.strip → R g.M g.bs d v ∧ ∀ X h p, Own w g.M g.bs X h p d v := by
            rintro y hy hr rfl;exact ⟨hr.strip, fun X h p => gB hr (fS hy)⟩
          suffices hs : R g.M g.bs d v ∧ ∀ X h p, Own w g.M g.bs X h p d v from ⟨hs.1, .inl hs.2⟩
          rw [List.append_assoc] at a1;rw [Array.append_assoc] at a2;by_cases c1 : p < first.length
          · rw [List.getElem?_append_left (by simpa using c1), List.getElem?_map, Option.map_eq_some_iff] at a1
            obtain ⟨y, hy, rfl⟩ := a1;rw [Array.getElem?_append_left (by omega)] at a2;exact strip y (hp y (List.mem_append_left _ (List.mem_of_getElem? hy))) (h1 p y v hy a2) rfl
          · rw [List.getElem?_append_right (by simp; omega), List.length_map] at a1
            rw [Array.getElem?_append_right (by omega), l1] at a2;by_cases c2 : p - first.length < args.toList.length
            · rw [List.getElem?_append_left (by simpa [dP] using c2)] at a1
              rw [Array.getElem?_append_left (by simpa using c2)] at a2;unfold dP at a1;rw [List.getElem?_map, Option.map_eq_some_iff] at a1;obtain ⟨x, hx, rfl⟩ := a1;rw [Array.getElem?_map, Option.map_eq_some_iff] at a2;obtain ⟨x', hx', rfl⟩ := a2;rw [Array.getElem?_toList] at hx;rw [hx] at hx';simp at hx';subst hx';exact jP hok x (ha x (List.mem_of_getElem? (by rw [Array.getElem?_toList]; exact hx)))
            · rw [List.getElem?_append_right (by simpa [dP] using c2)] at a1
              rw [Array.getElem?_append_right (by simpa using c2)] at a2;rw [List.getElem?_map, Option.map_eq_some_iff] at a1;obtain ⟨y, hy, rfl⟩ := a1;simp only [dP, List.length_map, Array.size_map, Array.length_toList] at hy a2;exact strip y (hp y (List.mem_append_right _ (List.mem_of_getElem? hy))) (h2 _ y v hy a2) rfl
  · exact h.elim

def Tx (P : Program) (t : TypeId) (name : String) (f : FuncId) : Prop := ∀ (v : Value) (args : Array Value) (w : World), (callMethod (.iface t v) name args).run P w = .ok (.enter f (#[v] ++ args)) w
def lU (P : Program) (dst : Option Tmp) (recv : Operand) (name : String) (args : List Operand) (st : St) (K : St → Prop) : Prop :=
  match st.rd recv with
  | .ifc t d => d.plain = true ∧ gY args st ∧ ∃ f, Tx P t name f ∧ Ct P f (d.strip :: dP args st) st.obj (fun r σ' => K (({ st with obj := σ' } : St).put dst (.d r)))
  | _ => False

theorem Fd {o : Oper} {st : St} {K : St → Prop} (recv : Operand) (name : String) (args : Array Operand) (ats : Array TypeId) (hd : cL o st) (ho : o.op = .call { callee := .invoke recv name, args, argTypes := ats }) (h : lU P o.dst recv name args.toList st K) : Does P o st K := by
  unfold lU at h;split at h
  · rename_i t d hf
    obtain ⟨hp, ha, f, hm, hfn⟩ := h;refine qH hd f (d.strip :: dP args.toList st) (List.replicate (1 + args.toList.length) none) st.obj rfl ?_ (fun t ht => by have := List.eq_of_mem_replicate ht; cases this) fun w g tmps hok => ?_
    · rw [qY]; exact hfn
    · have hr := hok.rd recv
      rw [hf] at hr;generalize hv : ev tmps recv = v at hr;cases hr with
      | ifc _ _ x hx =>
        refine ⟨#[x] ++ args.map (ev tmps), ?_, ?_, fun p d' v a1 a2 => ?_⟩
        · have he : (args.map (ev tmps)).extract 0 args.size = args.map (ev tmps) := by
            have h1 : args.size = (args.map (ev tmps)).size := by simp
            rw [h1, Array.extract_size]
          have h0 : (#[Value.iface t x] ++ args.map (ev tmps))[0]? = some (Value.iface t x) := by
            rw [Array.getElem?_append_left (by simp)]; rfl
          simp [execOp, ho, resolve, hv, invoke, h0, he, hm x (args.map (ev tmps)) w]
        · simp [dP]; omega
        · suffices hs : R g.M g.bs d' v ∧ ∀ X h p, Own w g.M g.bs X h p d' v from ⟨hs.1, .inl hs.2⟩
          match p with
          | 0 =>
            simp only [List.getElem?_cons_zero, Option.some.injEq] at a1;subst a1;rw [Array.getElem?_append_left (by simp)] at a2;simp at a2; subst a2;exact ⟨hx.strip, fun X h p => gB hx (fS hp)⟩
          | p + 1 =>
            simp only [List.getElem?_cons_succ] at a1;rw [Array.getElem?_append_right (by simp)] at a2;simp only [List.size_toArray, List.length_cons, List.length_nil, Nat.zero_add, Nat.add_sub_cancel] at a2;unfold dP at a1;rw [List.getElem?_map, Option.map_eq_some_iff] at a1;obtain ⟨y, hy, rfl⟩ := a1;rw [Array.getElem?_map, Option.map_eq_some_iff] at a2;obtain ⟨y', hy', rfl⟩ := a2;rw [Array.getElem?_toList] at hy;rw [hy] at hy';simp at hy';subst hy';exact jP hok y (ha y (List.mem_of_getElem? (by rw [Array.getElem?_toList]; exact hy)))
  · exact h.elim

theorem pO : ∀ (xs : List Operand) (p : Nat) (t : Nat), (xs.filterMap bS).Nodup → (xs.map bS)[p]? = some (some t) → (xs.map bS).findIdx? (· == some t) = some p
  | [], p, t, _, h => by simp at h
  | x :: xs, p, t, hn, h => by
    match p with
    | 0 =>
      simp only [List.map_cons, List.getElem?_cons_zero, Option.some.injEq] at h;simp [List.findIdx?_cons, h]
    | p + 1 =>
      have h' : (xs.map bS)[p]? = some (some t) := by simpa using h
      have hne : bS x ≠ some t := by
        intro e;have hmem : t ∈ xs.filterMap bS := by
          rw [List.mem_filterMap];rw [List.getElem?_map, Option.map_eq_some_iff] at h';obtain ⟨y, hy, hy'⟩ := h';exact ⟨y, List.mem_of_getElem? hy, hy'⟩
        simp only [List.filterMap_cons, e, List.nodup_cons] at hn;exact hn.1 hmem
      have hn' : (xs.filterMap bS).Nodup := by
        simp only [List.filterMap_cons] at hn;split at hn
        · exact hn
        · exact (List.nodup_cons.1 hn).2
      have ih := pO xs p t hn' h';simp [List.findIdx?_cons, hne, ih]

theorem pX {o : Oper} {st : St} {K : St → Prop} (f : FuncId) (args : Array Operand) (ats : Array TypeId) (hd : cL o st) (ho : o.op = .call { callee := .value (.func f), args, argTypes := ats }) (h : iW P o.dst f args.toList st K) : Does P o st K := by
  obtain ⟨hnd, hx, hfn⟩ := h;refine qH hd f (args.toList.map (nE st)) (args.toList.map bS) st.obj rfl hfn (fun t ht => ?_) fun w g tmps hok => ?_
  · obtain ⟨x, hx', e⟩ := List.mem_map.1 ht
    cases x <;> simp [bS] at e;subst e;exact (hx _ hx').1
  · refine ⟨args.map (ev tmps), ?_, by simp, fun p d v a1 a2 => ?_⟩
    · have hfe : ∀ (t : Array Value), (⟨t, []⟩ : Act).eval (.func f) = .func (.func f) #[] #[] := fun _ => rfl
      simp [execOp, ho, resolve, hfe, Deferred.ofValue, invoke, rN hfn.1]
    · rw [List.getElem?_map, Option.map_eq_some_iff] at a1
      obtain ⟨x, h1, rfl⟩ := a1;rw [Array.getElem?_map, Option.map_eq_some_iff] at a2;obtain ⟨x', h2, rfl⟩ := a2;rw [Array.getElem?_toList] at h1;rw [h1] at h2;simp at h2;subst h2;have hmem : x ∈ args.toList := List.mem_of_getElem? (by rw [Array.getElem?_toList]; exact h1);have hp := (hx x hmem).2;cases x with
      | tmp s =>
        cases he : st.env s with
        | lref n off =>
          have e : st.rd (.tmp s) = .any := by simp [St.rd, St.rdS, he]
          simp only [nE, e];exact ⟨.any _, .inl fun X h p => .flat _ _ _ rfl⟩
        | d y =>
          have e : st.rd (.tmp s) = y := by simp [St.rd, St.rdS, he]
          have hpos : (args.toList.map bS)[p]? = some (some s) := by rw [List.getElem?_map, Array.getElem?_toList, h1]; rfl
          refine ⟨hok.rd (.tmp s), .inr ⟨s, hpos, pO _ p s hnd hpos, by show st.env s = .d (st.rd (.tmp s)); rw [e]; exact he, rfl⟩⟩
      | const u => exact ⟨(jP hok (.const u) hp).1, .inl (jP hok (.const u) hp).2⟩
      | func u => exact ⟨(jP hok (.func u) hp).1, .inl (jP hok (.func u) hp).2⟩
      | global u => exact ⟨(jP hok (.global u) hp).1, .inl (jP hok (.global u) hp).2⟩

end
end Go.Vm
namespace Go.Vm
open Go
set_option linter.all false

section
variable {P : Program}

theorem cW (d : D) : d.cells.length = d.ncells := by cases d <;> rfl

theorem Ok.freshX {w : World} {g : Gh} {st : St} {val : Nat → Value} (h : Ok w g st val) (d : Nat) (E : TypeId) (k cap : Nat) (es : List D) (cells : Array Value) (hk : 0 < k) (hc : es.length ≤ cap) (hm : cap ≤ maxLen) (hsize : cells.size = cap * k)
    (h1 : ∀ (o : Nat) (c : Value), cells[o]? = some c → c.oneCell' = true) (hs : ∀ (i : Nat) (d : D), es[i]? = some d → d.ncells = k ∧ d.arr = true)
    (hr : ∀ (i : Nat) (d : D) (j : Nat) (e : D), es[i]? = some d → d.cells[j]? = some e → ∃ x, cells[i * k + j]? = some x ∧ R g.M g.bs e x) :
    ∃ g', g'.bl = g.bl ∧ Fr w g (w.alloc (.cells cells E)) g' ∧ Ok (w.alloc (.cells cells E)) g' (st.set d (.d (.xs k es))) (fun u => if u = d then .slice (some ⟨w.heap.size, 0, none⟩) es.length cap else val u) := by
  obtain ⟨q1, q2⟩ := h.known cells #[] E (some (.slot d, [])) (fun o c h => by simp at h);refine ⟨{ g with M := g.M.add w.heap.size #[], X := fun b => if b = w.heap.size then some (.slot d, []) else g.X b }, rfl, q2, q1.set d _ _ ⟨.xs k es _ _ cap rfl hc hm (by simp), .xs _ _ _ _ (.inr ⟨w.heap.size, es.length, cap, cells, E, rfl, by simp, kN w _, hk, hsize, rfl, hc, hm, fun o => by simp [Mem.add], h1, hs, fun i d j e a1 a2 => ?_⟩)⟩⟩;obtain ⟨x, x1, x2⟩ := hr i d j e a1 a2;exact ⟨x, x1, x2.mono q2.mono (fun _ _ h => h)⟩

theorem Ok.forget2 {w : World} {g : Gh} {st : St} {val : Nat → Value} {ts d : Nat} {A B : Slot} (h : Ok w g ((st.set ts A).set d B) val) (hne : ts ≠ d) : Ok w g ((st.set ts .any).set d B) val := by
  have := h.forget ts;have e : (((st.set ts A).set d B).set ts .any) = (st.set ts .any).set d B := by
    simp only [St.set];congr 1;funext u;by_cases h1 : u = d
    · subst h1; simp [Ne.symm hne]
    · by_cases h2 : u = ts
      · subst h2; simp [hne]
      · simp [h1, h2]
  rwa [e] at this

theorem gC {z : Array Value} {n : Nat} {c : Value} (h : c ∈ (Builtin.zeroCells z n).toList) (hz : 0 < z.size) : c ∈ z.toList := by
  simp only [Builtin.zeroCells, Array.toList_map, List.mem_map] at h;obtain ⟨i, _, rfl⟩ := h;have : i % z.size < z.size := Nat.mod_lt _ hz;simp [this]

def rV (k : Nat) (es : List D) (x : D) : Prop := x = .xs k es ∨ (x = .sl true [] ∧ es = []) ∨ (x = .v (.slice none 0 0) ∧ es = [])

theorem vQ {w : World} {g : Gh} {k ts : Nat} {es : List D} {x : D} {v : Value} (hb : rV k es x) (h : SlotOk w g ts (.d x) v) : Hh w g.M g.bs g.X (.slot ts, []) k es v ∧ (∀ cs, x ≠ .tup cs) ∧ ∃ a n cap, v = .slice a n cap ∧ n = es.length ∧ (a = none → n = 0 ∧ cap = 0) := by
  obtain ⟨hr, ho⟩ := h;rcases hb with rfl | ⟨rfl, rfl⟩ | ⟨rfl, rfl⟩
  · refine ⟨?_, by simp, ?_⟩
    · cases ho with
      | xs p k es v ho => exact ho
      | flat p d v hf => simp [D.flat] at hf
    · cases hr with
      | xs k es a n cap hn hc hm ha => exact ⟨a, n, cap, rfl, hn, ha⟩
  · have hO : Kf w g.M g.X (.slot ts, []) [] v := by
      cases ho with
      | sl p es v ho => exact ho
      | flat p d v hf => simp [D.flat] at hf
    have h0 : ∃ a, v = .slice a 0 0 := by
      rcases hO with ⟨a, n, rfl⟩ | ⟨b, n, cap, k', cur, E, _, hc, _⟩
      · cases hr with
        | nil => exact ⟨_, rfl⟩
        | emp o a' cap hm' => exact ⟨_, rfl⟩
        | sl o' es' b off n' cap k vs hl hn hk hc => have hn0 : n = 0 := by simpa using hn
                                                     subst hn0; exact ⟨_, rfl⟩
      · exact absurd rfl hc
    obtain ⟨a, rfl⟩ := h0;exact ⟨.inl ⟨rfl, a, rfl⟩, by simp, a, 0, 0, rfl, rfl, fun _ => ⟨rfl, rfl⟩⟩
  · have hv := hr.vEq
    exact ⟨.inl ⟨rfl, none, hv⟩, by simp, none, 0, 0, hv, rfl, fun _ => ⟨rfl, rfl⟩⟩

def Kr (w : World) (g : Gh) (k : Nat) (xs : List D) (vx : Value) : Prop :=
  (xs = [] → ∃ a c, vx = .slice a 0 c) ∧ (xs ≠ [] → ∃ (b off cap : Nat) (vs : List Value), vx = .slice (some ⟨b, off, none⟩) xs.length cap ∧ vs.length = xs.length ∧ (∀ (i : Nat) (d : D) (x : Value), xs[i]? = some d → vs[i]? = some x → R g.M g.bs d x) ∧
      (∀ x : Value, x ∈ vs → x.cells.size = k ∧ ∀ c : Value, c ∈ x.cells.toList → c.oneCell' = true) ∧ (∀ (j : Nat) (c : Value), (vs.flatMap fun v => v.cells.toList)[j]? = some c → w.cell? ((⟨b, off, none⟩ : Addr).add j) = some c))

theorem rJ {w : World} {g : Gh} {st : St} {val : Nat → Value} (hok : Ok w g st val) {o : Bool} {xs : List D} {vx : Value} {k : Nat} (hvx : R g.M g.bs (.sl o xs) vx) (hxs : ∀ d ∈ xs, d.ncells = k) : Kr w g k xs vx := by
  refine ⟨fun h => ?_, fun h => ?_⟩
  · subst h
    cases hvx with
    | nil => exact ⟨_, _, rfl⟩
    | emp o a cap hm => exact ⟨_, _, rfl⟩
    | sl o' es b off n cap k vs hl hn => subst hn; exact ⟨_, _, rfl⟩
  · obtain ⟨bx, offx, capx, vvx, rfl, l1, l2, l3, l4, l5, l6, l7⟩ := rQ hok hvx hxs h
    exact ⟨bx, offx, capx, vvx, rfl, l1, l5, l6, fun j c hj => (l7 j c hj).1⟩

theorem eR {w : World} {g : Gh} {st : St} {tmps : Array Value} (hok : Ok w g st (bU tmps)) {t e : TypeId} {k by_ : Nat} {ti : TypeInfo} {zv : Value} (h1 : P.underlying t = some (.slice e)) (h2 : P.info? e = some ti) (h3 : ti.zero = some zv) (h5 : ti.size = k) (h6 : ti.bytes = by_) (h7 : zv.cells.size = k) (h8 : 0 < k) (hz : ∀ c ∈ zv.cells.toList, c.oneCell' = true)
    (ts d : Nat) (hne : ts ≠ d) (es xs : List D) (x0 : D) (hs : st.env ts = .d x0) (hbase : rV k es x0) (vx : Value) (hvx : Kr w g k xs vx) (hb : (es.length + xs.length) * by_ ≤ 140737488355328) (hm : es.length + xs.length ≤ maxLen) (hxs : ∀ d ∈ xs, d.ncells = k ∧ d.arr = true) (ty : TypeId) :
    ∃ v w' g', (Builtin.append_ #[t, t] ty #[bU tmps ts, vx]).run P w = .ok v w' ∧ g'.bl = g.bl ∧ Fr w g w' g' ∧ Ok w' g' ((st.set ts .any).set d (.d (.xs k (es ++ xs)))) (fun u => if u = d then v else bU tmps u) := by
  have hsl := hok.slot ts;rw [hs] at hsl;obtain ⟨hO, hnt, a0, n0, cap0, hv0, hn0, hnil⟩ := vQ hbase hsl;generalize hv : bU tmps ts = vs at hO hv0;subst h5; subst h6;by_cases hx0 : xs = []
  · subst hx0
    have hfc : ∀ (a : Option Addr) (c : Nat) w, (Builtin.firstCells ti.size 0 (.slice a 0 c)).run P w = .ok #[] w := by
      intro a c w;cases a with
      | none => simp [Builtin.firstCells]
      | some a => simp [Builtin.firstCells, loadCells, loadCellsFrom]
    obtain ⟨a, c, rfl⟩ := hvx.1 rfl;have hrun : n0 ≤ cap0 → (Builtin.append_ #[t, t] ty #[.slice a0 n0 cap0, .slice a 0 c]).run P w = .ok (.slice a0 n0 cap0) w := by
      intro hc;cases a0 with
      | none => obtain ⟨rfl, rfl⟩ := hnil rfl; simp [Builtin.append_, run_underlying h1, bK h2, Builtin.lenOf, hfc]
      | some a0 => simp [Builtin.append_, run_underlying h1, bK h2, Builtin.lenOf, hfc, hc, storeCells]
    rw [List.append_nil];rcases hO with ⟨rfl, a1, e1⟩ | ⟨b, n, cap, cur, E, e1, o1, o2, o3, o4, o5, o6, o7, o8, o9, o10, o11⟩
    · rw [hv0] at e1
      simp only [Value.slice.injEq] at e1;obtain ⟨rfl, rfl, rfl⟩ := e1;subst hv0;refine ⟨_, w, g, hrun (Nat.le_refl _), rfl, Fr.refl w g, ?_⟩;exact (hok.forget ts).set d _ _ ⟨.xs _ [] a0 0 0 rfl (Nat.le_refl _) (Nat.zero_le _) (fun _ => ⟨rfl, rfl⟩), .xs _ _ _ _ (.inl ⟨rfl, a0, rfl⟩)⟩
    · rw [hv0] at e1
      simp only [Value.slice.injEq] at e1;obtain ⟨rfl, rfl, rfl⟩ := e1;subst hv0;refine ⟨_, w, { g with X := dS (fE (.slot ts) [] (.slot d) []) g.X }, hrun o6, rfl, Fr.ren w g (fE (.slot ts) [] (.slot d) []), ?_⟩;obtain ⟨p1, _, _⟩ := hok.park ts _ hs hnt (fE (.slot ts) [] (.slot d) []) (fun t ht => jY ht);have p2 := (p1.set d (.d (.xs ti.size es)) (.slice (some ⟨b, 0, none⟩) n0 cap0) ⟨.xs _ es _ _ _ o5 o6 o7 (by simp), .xs _ _ _ _ (.inr ⟨b, n0, cap0, cur, E, rfl, ?_, o2, o3, o4, o5, o6, o7, o8, o9, o10, o11⟩)⟩)
      · exact p2.forget2 hne
      · show dS (fE (.slot ts) [] (.slot d) []) g.X b = some (.slot d, [])
        simp [dS, o1, fE]
  · obtain ⟨bx, offx, capx, vvx, rfl, l1, l5, l6, l7⟩ := hvx.2 hx0
    have hxlen : 0 < xs.length := by cases xs <;> simp_all
    have hxsz : ∀ v ∈ vvx, v.cells.size = ti.size := fun v hv => (l6 v hv).1;have hnl : (vvx.flatMap fun v => v.cells.toList).length = xs.length * ti.size := by rw [gM vvx hxsz, l1]
    have hnews : ∀ (j : Nat) (u : Value), (vvx.flatMap fun v => v.cells.toList)[j]? = some u → w.cell? ((⟨bx, offx, none⟩ : Addr).add j) = some u := fun j u hj => l7 j u hj;have hone : ∀ u ∈ (vvx.flatMap fun v => v.cells.toList), u.oneCell' = true := by
      intro u hu;rw [List.mem_flatMap] at hu;obtain ⟨v, hv, hu⟩ := hu;exact (l6 v hv).2 u hu
    -- the new elements' cells
    have newc : ∀ (i : Nat) (x : D) (j : Nat) (y : D), xs[i]? = some x → x.cells[j]? = some y → ∃ u, (vvx.flatMap fun v => v.cells.toList)[i * ti.size + j]? = some u ∧ R g.M g.bs y u := by
      intro i x j y a1 a2;have hi : i < vvx.length := by rw [l1]; exact (List.getElem?_eq_some_iff.1 a1).1
      have hvi : vvx[i]? = some vvx[i] := List.getElem?_eq_getElem hi;have hRx := l5 i x _ a1 hvi;have hmem := List.mem_of_getElem? a1;have hsz := hxsz _ (List.mem_of_getElem? hvi);have hj : j < vvx[i].cells.size := by
        rw [hsz, ← (hxs x hmem).1, ← cW];exact (List.getElem?_eq_some_iff.1 a2).1
      refine ⟨_, oY h8 vvx hxsz hvi (Array.getElem?_eq_getElem hj), ?_⟩;by_cases hany : x = .any
      · subst hany
        have : y = .any := by
          match j with
          | 0 => simpa [D.cells] using a2.symm
          | j + 1 => simp [D.cells] at a2
        rw [this]; exact .any _
      · have hnt' : ∀ cs, x ≠ .tup cs := by
          rintro cs rfl;have := (hxs _ hmem).2;simp [D.arr, D.cells, D.flat] at this
        exact (hRx.each hany hnt' j y _ a2 (Array.getElem?_eq_getElem hj)).1
    have hxs2 : ∀ (i : Nat) (d : D), xs[i]? = some d → d.ncells = ti.size ∧ d.arr = true := fun i d h => hxs d (List.mem_of_getElem? h);have hbig : es.length + xs.length ≤ 9223372036854775807 := by unfold maxLen at hm; omega
    have hdr : Ok w.drew g (st.set ts .any) (bU tmps) := (hok.forget ts).drew;have bdef : ∀ old, old < es.length + xs.length → Builtin.nextslicecap (es.length + xs.length) old * ti.bytes ≤ 281474976710656 := fun old ho => growslice_fits ho hb
    -- a new array
    have grown : ∀ (olds : List Value) (old : Nat), olds.length = es.length * ti.size → (∀ c ∈ olds, c.oneCell' = true) → (∀ (i : Nat) (d : D), es[i]? = some d → d.ncells = ti.size ∧ d.arr = true) →
        (∀ (i : Nat) (d : D) (j : Nat) (e : D), es[i]? = some d → d.cells[j]? = some e → ∃ x, olds[i * ti.size + j]? = some x ∧ R g.M g.bs e x) →
        ∃ g', g'.bl = g.bl ∧ Fr w g (w.drew.alloc (.cells (olds.toArray ++ (vvx.flatMap fun v => v.cells.toList).toArray ++ Builtin.zeroCells zv.cells (grownCap w (es.length + xs.length) old e - (es.length + xs.length))) e)) g' ∧
          Ok (w.drew.alloc (.cells (olds.toArray ++ (vvx.flatMap fun v => v.cells.toList).toArray ++ Builtin.zeroCells zv.cells (grownCap w (es.length + xs.length) old e - (es.length + xs.length))) e)) g' ((st.set ts .any).set d (.d (.xs ti.size (es ++ xs))))
            (fun u => if u = d then .slice (some ⟨w.heap.size, 0, none⟩) (es.length + xs.length) (grownCap w (es.length + xs.length) old e) else bU tmps u) := by
      intro olds old a1 a2 a3 a4;have hge := grownCap_ge w (es.length + xs.length) old e;have hcm : grownCap w (es.length + xs.length) old e ≤ maxLen := grownCap_le_maxLen w (es.length + xs.length) old e hm;obtain ⟨g', b1, b2, b3⟩ := hdr.freshX d e ti.size (grownCap w (es.length + xs.length) old e) (es ++ xs) (olds.toArray ++ (vvx.flatMap fun v => v.cells.toList).toArray ++ Builtin.zeroCells zv.cells (grownCap w (es.length + xs.length) old e - (es.length + xs.length))) h8
        (by simpa using hge) hcm
        (by
          simp only [Array.size_append, List.size_toArray, size_zeroCells, hnl, h7, a1, ← Nat.add_mul];congr 1;omega)
        (fun o c ho => by
          have hmem : c ∈ (olds.toArray ++ (vvx.flatMap fun v => v.cells.toList).toArray ++ Builtin.zeroCells zv.cells (grownCap w (es.length + xs.length) old e - (es.length + xs.length))).toList := by
            rw [← Array.getElem?_toList] at ho; exact List.mem_of_getElem? ho
          rw [Array.toList_append, Array.toList_append] at hmem;rcases List.mem_append.1 hmem with h | h
          · rcases List.mem_append.1 h with h | h
            · exact a2 c (by simpa using h)
            · exact hone c (by simpa using h)
          · exact hz c (gC h (by omega)))
        (fun i d c1 => by
          by_cases hi : i < es.length
          · rw [List.getElem?_append_left hi] at c1; exact a3 i d c1
          · rw [List.getElem?_append_right (by omega)] at c1; exact hxs2 _ d c1)
        (fun i d j y c1 c2 => by
          have hjk : j < ti.size := by
            have hd : d.ncells = ti.size := by
              by_cases hi : i < es.length
              · rw [List.getElem?_append_left hi] at c1; exact (a3 i d c1).1
              · rw [List.getElem?_append_right (by omega)] at c1; exact (hxs2 _ d c1).1
            rw [← hd, ← cW]; exact (List.getElem?_eq_some_iff.1 c2).1
          rw [← Array.getElem?_toList, Array.toList_append, Array.toList_append];by_cases hi : i < es.length
          · rw [List.getElem?_append_left hi] at c1
            obtain ⟨x, x1, x2⟩ := a4 i d j y c1 c2;refine ⟨x, ?_, x2⟩;have hlt : i * ti.size + j < olds.length := (List.getElem?_eq_some_iff.1 x1).1;rw [List.append_assoc, List.getElem?_append_left (by simpa using hlt)];simpa using x1
          · rw [List.getElem?_append_right (by omega)] at c1
            obtain ⟨x, x1, x2⟩ := newc _ d j y c1 c2;refine ⟨x, ?_, x2⟩;have hlt : (i - es.length) * ti.size + j < (vvx.flatMap fun v => v.cells.toList).length := (List.getElem?_eq_some_iff.1 x1).1;have hsub : i * ti.size = es.length * ti.size + (i - es.length) * ti.size := by rw [← Nat.add_mul]; congr 1; omega
            rw [List.append_assoc, List.getElem?_append_right (by simp only [a1]; omega), List.getElem?_append_left (by simp only [a1] at *; simpa using (by omega : i * ti.size + j - es.length * ti.size < (vvx.flatMap fun v => v.cells.toList).length))];have : i * ti.size + j - es.length * ti.size = (i - es.length) * ti.size + j := by omega
            simp only [a1];rw [this];simpa using x1)
      have hfr : Fr w g w.drew g := Fr.drew w g;refine ⟨g', b1, hfr.trans b2, ?_⟩;simp only [List.length_append] at b3;exact b3
    rcases hO with ⟨rfl, a1, e1⟩ | ⟨b, n, cap, cur, E, e1, o1, o2, o3, o4, o5, o6, o7, o8, o9, o10, o11⟩
    · rw [hv0] at e1
      simp only [Value.slice.injEq] at e1;obtain ⟨rfl, rfl, rfl⟩ := e1;subst hv0;obtain ⟨g', b1, b2, b3⟩ := grown [] 0 (by simp) (fun c h => by simp at h) (fun i d h => by simp at h) (fun i d j e h => by simp at h);simp only [List.length_nil, Nat.zero_add, List.nil_append] at *;cases a0 with
      | none =>
        refine ⟨_, _, g', run_append_nil (P := P) w t ty e ti zv h1 h2 h3 ⟨bx, offx, none⟩ xs.length capx _ hnl hnews hxlen (by omega) (by omega), b1, ?_, ?_⟩
        · simpa using b2
        · simpa using b3
      | some a0 =>
        have hr := run_append_grow (P := P) w t ty e ti zv h1 h2 h3 a0 0 0 [] (by simp) (fun j v h => by simp at h) ⟨bx, offx, none⟩ xs.length capx _ hnl hnews (by omega) (by omega) (by simpa using bdef 0 (by omega));simp only [Nat.zero_add] at hr;exact ⟨_, _, g', hr, b1, b2, b3⟩
    · rw [hv0] at e1
      simp only [Value.slice.injEq] at e1;obtain ⟨rfl, rfl, rfl⟩ := e1;subst hv0;subst o5;have hcs : es.length * ti.size ≤ cur.size := by rw [o4]; exact Nat.mul_le_mul_right _ o6
      by_cases hroom : es.length + xs.length ≤ cap0
      · have hfit : es.length * ti.size + (vvx.flatMap fun v => v.cells.toList).length ≤ cur.size := by
          rw [hnl, o4, ← Nat.add_mul]; exact Nat.mul_le_mul_right _ hroom
        have hr := mA (P := P) w t ty e E ti h1 h2 b es.length cap0 cur o2 ⟨bx, offx, none⟩ xs.length capx _ hnl hnews hone hroom hfit;generalize hcur : (cur.toList.take (es.length * ti.size) ++ (vvx.flatMap fun v => v.cells.toList) ++ cur.toList.drop (es.length * ti.size + (vvx.flatMap fun v => v.cells.toList).length)).toArray = cur' at hr;have hget : ∀ o, cur'[o]? = if o < es.length * ti.size then cur[o]? else if o < es.length * ti.size + (vvx.flatMap fun v => v.cells.toList).length then (vvx.flatMap fun v => v.cells.toList)[o - es.length * ti.size]? else cur[o]? := by
          intro o;rw [← hcur, List.getElem?_toArray, cZ (by simpa using hfit)];simp
        have hsize : cur'.size = cur.size := by
          rw [← hcur, List.size_toArray, eB (by simpa using hfit), Array.length_toList]
        obtain ⟨p1, _, _⟩ := hok.park ts _ hs hnt (fE (.slot ts) [] (.slot d) []) (fun t ht => jY ht);have htag : dS (fE (.slot ts) [] (.slot d) []) g.X b = some (.slot d, []) := by simp [dS, o1, fE]
        obtain ⟨q1, q2⟩ := (p1.forget d).extend d b 0 cur cur' E (fun _ => none) htag (by simp [St.set]) o2 (fun o _ => o8 o) (fun o h => by omega) (fun o c h => by cases h);have q2' := (Fr.ren w g (fE (.slot ts) [] (.slot d) [])).trans q2;refine ⟨_, _, _, hr, ?_, q2', ?_⟩
        · rfl
        have hMM : ∀ o, (if o < 0 then g.M b o else none) = none := fun o => by simp
        have q3 := q1.set d (.d (.xs ti.size (es ++ xs))) (.slice (some ⟨b, 0, none⟩) (es.length + xs.length) cap0) ⟨.xs _ _ _ _ _ (by simp) hroom o7 (by simp), .xs _ _ _ _ (.inr ⟨b, _, cap0, cur', E, rfl, htag, setRow_heap w b cur cur' E (0, 0) o2, o3, by rw [hsize, o4], by simp, hroom, o7, fun o => by simp, ?_, ?_, ?_⟩)⟩
        · have e : (((st.set ts (.d x0.s2)).set d .any).set d (.d (.xs ti.size (es ++ xs)))) = (st.set ts (.d x0.s2)).set d (.d (.xs ti.size (es ++ xs))) := St.set_set st ts d _ _ _
          rw [e] at q3;exact q3.forget2 hne
        · intro o c ho
          rw [hget] at ho;split at ho
          · exact o9 o c ho
          · split at ho
            · exact hone c (List.mem_of_getElem? ho)
            · exact o9 o c ho
        · intro i d' c1
          by_cases hi : i < es.length
          · rw [List.getElem?_append_left hi] at c1; exact o10 i d' c1
          · rw [List.getElem?_append_right (by omega)] at c1; exact hxs2 _ d' c1
        · intro i d' j y c1 c2
          by_cases hi : i < es.length
          · rw [List.getElem?_append_left hi] at c1
            obtain ⟨x, x1, x2⟩ := o11 i d' j y c1 c2;have hjk : j < ti.size := by
              rw [← (o10 i d' c1).1, ← cW]; exact (List.getElem?_eq_some_iff.1 c2).1
            have hlt : i * ti.size + j < es.length * ti.size := by
              have : (i + 1) * ti.size ≤ es.length * ti.size := Nat.mul_le_mul_right _ hi;rw [Nat.add_mul] at this; omega
            refine ⟨x, by rw [hget, if_pos hlt]; exact x1, x2.mono ?_ (fun _ _ h => h)⟩;exact q2.mono
          · rw [List.getElem?_append_right (by omega)] at c1
            obtain ⟨x, x1, x2⟩ := newc _ d' j y c1 c2;have hlt : (i - es.length) * ti.size + j < (vvx.flatMap fun v => v.cells.toList).length := (List.getElem?_eq_some_iff.1 x1).1;have hsub : i * ti.size = es.length * ti.size + (i - es.length) * ti.size := by rw [← Nat.add_mul]; congr 1; omega
            have ha : ¬ (i * ti.size + j < es.length * ti.size) := by omega
            have hb' : i * ti.size + j < es.length * ti.size + (vvx.flatMap fun v => v.cells.toList).length := by omega
            refine ⟨x, by rw [hget, if_neg ha, if_pos hb', show i * ti.size + j - es.length * ti.size = (i - es.length) * ti.size + j by omega]; exact x1, x2.mono q2.mono (fun _ _ h => h)⟩
      · have hto : (cur.toList.take (es.length * ti.size)).length = es.length * ti.size := by rw [List.length_take, Array.length_toList]; exact Nat.min_eq_left hcs
        have hgt : ∀ (j : Nat) (v : Value), (cur.toList.take (es.length * ti.size))[j]? = some v → j < es.length * ti.size ∧ cur[j]? = some v := by
          intro j v hj;rw [List.getElem?_take] at hj;split at hj
          · rename_i h; exact ⟨h, by simpa using hj⟩
          · cases hj
        obtain ⟨g', b1, b2, b3⟩ := grown (cur.toList.take (es.length * ti.size)) cap0 hto (fun c hc => by
            obtain ⟨j, hj⟩ := List.getElem?_of_mem hc;exact o9 j c (hgt j c hj).2) o10 (fun i d' j y c1 c2 => by
            obtain ⟨x, x1, x2⟩ := o11 i d' j y c1 c2;have hi := (List.getElem?_eq_some_iff.1 c1).1;have hjk : j < ti.size := by
              rw [← (o10 i d' c1).1, ← cW]; exact (List.getElem?_eq_some_iff.1 c2).1
            have hlt : i * ti.size + j < es.length * ti.size := by
              have : (i + 1) * ti.size ≤ es.length * ti.size := Nat.mul_le_mul_right _ hi;rw [Nat.add_mul] at this; omega
            exact ⟨x, by rw [List.getElem?_take, if_pos hlt]; simpa using x1, x2⟩)
        have hr := run_append_grow (P := P) w t ty e ti zv h1 h2 h3 ⟨b, 0, none⟩ es.length cap0 (cur.toList.take (es.length * ti.size)) hto (fun j v hj => by
            rw [Addr.add_none, cell_of_row w b (0 + j) cur E (0, 0) o2, Nat.zero_add]; exact (hgt j v hj).2) ⟨bx, offx, none⟩ xs.length capx _ hnl hnews (by omega) (by omega) (bdef cap0 (by omega))
        exact ⟨_, _, g', hr, b1, b2, b3⟩

end
end Go.Vm

