import Derived.Test.YtighdhfgcdjmeaaGreatDoorVm13
namespace Go.Vm
open Go
set_option linter.all false
section
variable {P : Program}
def eQ (xs : List Operand) (st : St) : Prop := ∀ x ∈ xs, (st.rd x).plain = true
def Nu (v : Value) : D := match v with
 | .slice none 0 0 => .v (.slice none 0 0)
 | v => (D.ofV v).strip
def oF (st : St) : Operand → D
 | .const v => Nu v
 | x => (st.rd x).strip
theorem gS {w : World} {g : Gh} {st : St} {tmps : Array Value} (hok : Ok w g st (aU tmps)) (x : Operand) (hp : (st.rd x).plain = true) : R g.M g.bs (oF st x) (ev tmps x) ∧ ∀ X h p, Own w g.M g.bs X h p (oF st x) (ev tmps x) := by
 cases x with
 | const v =>
  show R g.M g.bs (Nu v) v ∧ ∀ X h p, Own w g.M g.bs X h p (Nu v) v
  unfold Nu;split
  ·exact ⟨.v _ rfl, fun X h p => .flat _ _ _ rfl⟩
  ·exact ⟨(hok.rd (.const v)).strip, fun X h p => eN (hok.rd (.const v)) (dZ hp)⟩
 | tmp u => exact ⟨(hok.rd (.tmp u)).strip, fun X h p => eN (hok.rd (.tmp u)) (dZ hp)⟩
 | global u => exact ⟨(hok.rd (.global u)).strip, fun X h p => eN (hok.rd (.global u)) (dZ hp)⟩
 | func u => exact ⟨(hok.rd (.func u)).strip, fun X h p => eN (hok.rd (.func u)) (dZ hp)⟩
theorem dS {st st' : St} {x : Operand} (h : st'.rd x = st.rd x) : oF st' x = oF st x := by
 cases x <;> simp only [oF, h]
def cG (xs : List Operand) (st : St) : List D := xs.map (oF st)
def eC (P : Program) (dst : Option Tmp) (f : Operand) (args : List Operand) (st : St) (K : St → Prop) : Prop :=
 match st.rd f with
 | .clo (.func f) first caps => (∀ d ∈ first ++ caps, d.plain = true) ∧ eQ args st ∧
   Ct P f (first.map D.strip ++ cG args st ++ caps.map D.strip) st.obj (fun r σ' => K (({ st with obj := σ' } : St).put dst (.d r)))
 | _ => False
def aZ : Operand → Option Nat
 | .tmp s => some s
 | _ => none
def kK (st : St) : Operand → D
 | .tmp t => st.rd (.tmp t)
 | x => oF st x
theorem nB {st st' : St} {x : Operand} (h : st'.rd x = st.rd x) : kK st' x = kK st x := by
 cases x <;> simp only [kK, h, oF]
def fX (P : Program) (dst : Option Tmp) (f : FuncId) (args : List Operand) (st : St) (K : St → Prop) : Prop :=
 (args.filterMap aZ).Nodup ∧ (∀ x ∈ args, mE (st.rdS x) = true ∧ (st.rd x).plain = true) ∧
  Ct P f (args.map (kK st)) st.obj (fun r σ' => K (({ st with env := cN (args.map aZ) st.env, obj := σ' } : St).put dst (.d r)))
theorem oH {f : FuncId} {args : Array Value} {w : World} (h : nQ P f = true) : (callFunc f args).run P w = .ok (.enter f args) w := by
 unfold nQ at h;cases hf : P.funcs[f]? with
 | none => simp [hf] at h
 | some fn =>
  simp only [hf, Bool.and_eq_true, bne_iff_ne, ne_eq] at h;have h2 : fn.body.isNone = false := by
   cases hb : fn.body with
   | none => simp [hb] at h
   | some b => rfl
  have h1 : ¬ fn.name = "runtime.NumGoroutine" := h.1;have h3 : ¬ fn.body = none := by intro e; simp [e] at h2
  simp [callFunc, hf, h1, h3]
theorem mS {o : Oper} {st : St} {K : St → Prop} (hd : bL o st) (f : FuncId) (ds : List D) (ts : List (Option Nat)) (σ : List (List D)) (hσ : σ = st.obj)
  (hfn : Ct P f ds σ (fun r σ' => K (({ st with env := cN ts st.env, obj := σ' } : St).put o.dst (.d r)))) (hnt : ∀ t, some t ∈ ts → mE (st.env t) = true)
  (h : ∀ (w : World) (g : Gh) (tmps : Array Value), Ok w g st (aU tmps) → ∃ vs : Array Value, (execOp (ev tmps) o).run P w = .ok (.enter f vs) w ∧ vs.size = ds.length ∧
   ∀ (p : Nat) (d : D) (v : Value), ds[p]? = some d → vs[p]? = some v → R g.M g.bs d v ∧ ((∀ X h p, Own w g.M g.bs X h p d v) ∨ ∃ t, ts[p]? = some (some t) ∧ ts.findIdx? (· == some t) = some p ∧ st.env t = .d d ∧ aU tmps t = v)) : Does P o st K := by
 subst hσ;intro w g tmps hok hn;obtain ⟨vs, hrun, hsz, ha⟩ := h w g tmps hok;have hen := hok.enter ds vs ts hsz ha;unfold Oper.wp;rw [hrun, Oper.upon_enter];refine (hfn.2 w _ vs hsz rfl hen).mono ?_;rintro e w' ⟨r, σ', x, gr, rfl, hK, hbl, hf, hk⟩;obtain ⟨g', g1, g2, g3⟩ := hok.leave ts o.dst r x σ' hf hk hnt;have hdst : ∀ d, o.dst = some d → d < tmps.size := by
  intro d hd';have hd2 : d < st.n := by simpa [bL, hd'] using hd
  rw [hn]; exact hd2
 refine ⟨by simp [iQ], _, g', hK, g2, ?_, ?_, by rw [g1]; simp⟩
 ·rw [nU tmps [] o.dst x hdst]; exact g3
 ·rw [kM, zC]; exact hn
theorem nS (n : Nat) (env : Nat → Slot) : cN (List.replicate n none) env = env := by
 funext t;have : (List.replicate n (none : Option Nat)).contains (some t) = false := by
  rw [Bool.eq_false_iff];intro h;rw [List.contains_iff_mem] at h;have := List.eq_of_mem_replicate h;cases this
 simp [cN, this]
theorem eM {o : Oper} {st : St} {K : St → Prop} (f : Operand) (args : Array Operand) (ats : Array TypeId) (hd : bL o st) (ho : o.op = .call { callee := .value f, args, argTypes := ats }) (h : eC P o.dst f args.toList st K) : Does P o st K := by
 unfold eC at h;split at h
 ·rename_i fid first caps hf
  obtain ⟨hp, ha, hfn⟩ := h;refine mS hd fid (first.map D.strip ++ cG args.toList st ++ caps.map D.strip) (List.replicate (first.length + args.toList.length + caps.length) none) st.obj rfl ?_ (fun t ht => by have := List.eq_of_mem_replicate ht; cases this) fun w g tmps hok => ?_
  ·rw [nS]; exact hfn
  ·have hr := hok.rd f;rw [hf] at hr;generalize hv : ev tmps f = v at hr;cases hr with
   | clo _ _ _ v1 v2 l1 l2 h1 h2 =>
    refine ⟨v1 ++ args.map (ev tmps) ++ v2, ?_, ?_, fun p d v a1 a2 => ?_⟩
    ·simp [execOp, ho, resolve, hv, Deferred.ofValue, invoke, oH hfn.1]
    ·simp [cG, l1, l2]
    ·have strip : ∀ (y : D), y.plain = true → R g.M g.bs y v → d = y.strip → R g.M g.bs d v ∧ ∀ X h p, Own w g.M g.bs X h p d v := by
      rintro y hy hr rfl;exact ⟨hr.strip, fun X h p => eN hr (dZ hy)⟩
     suffices hs : R g.M g.bs d v ∧ ∀ X h p, Own w g.M g.bs X h p d v from ⟨hs.1, .inl hs.2⟩
     rw [List.append_assoc] at a1;rw [Array.append_assoc] at a2;by_cases c1 : p < first.length
     ·rw [List.getElem?_append_left (by simpa using c1), List.getElem?_map, Option.map_eq_some_iff] at a1;obtain ⟨y, hy, rfl⟩ := a1;rw [Array.getElem?_append_left (by omega)] at a2;exact strip y (hp y (List.mem_append_left _ (List.mem_of_getElem? hy))) (h1 p y v hy a2) rfl
     ·rw [List.getElem?_append_right (by simp; omega), List.length_map] at a1;rw [Array.getElem?_append_right (by omega), l1] at a2;by_cases c2 : p - first.length < args.toList.length
      ·rw [List.getElem?_append_left (by simpa [cG] using c2)] at a1;rw [Array.getElem?_append_left (by simpa using c2)] at a2;unfold cG at a1;rw [List.getElem?_map, Option.map_eq_some_iff] at a1;obtain ⟨x, hx, rfl⟩ := a1;rw [Array.getElem?_map, Option.map_eq_some_iff] at a2;obtain ⟨x', hx', rfl⟩ := a2;rw [Array.getElem?_toList] at hx;rw [hx] at hx';simp at hx';subst hx';exact gS hok x (ha x (List.mem_of_getElem? (by rw [Array.getElem?_toList]; exact hx)))
      ·rw [List.getElem?_append_right (by simpa [cG] using c2)] at a1;rw [Array.getElem?_append_right (by simpa using c2)] at a2;rw [List.getElem?_map, Option.map_eq_some_iff] at a1;obtain ⟨y, hy, rfl⟩ := a1;simp only [cG, List.length_map, Array.size_map, Array.length_toList] at hy a2;exact strip y (hp y (List.mem_append_right _ (List.mem_of_getElem? hy))) (h2 _ y v hy a2) rfl
 ·exact h.elim
def Od (P : Program) (t : TypeId) (name : String) (f : FuncId) : Prop := ∀ (v : Value) (args : Array Value) (w : World), (callMethod (.iface t v) name args).run P w = .ok (.enter f (#[v] ++ args)) w
def iZ (P : Program) (dst : Option Tmp) (recv : Operand) (name : String) (args : List Operand) (st : St) (K : St → Prop) : Prop :=
 match st.rd recv with
 | .ifc t d => d.plain = true ∧ eQ args st ∧ ∃ f, Od P t name f ∧ Ct P f (d.strip :: cG args st) st.obj (fun r σ' => K (({ st with obj := σ' } : St).put dst (.d r)))
 | _ => False
theorem At {o : Oper} {st : St} {K : St → Prop} (recv : Operand) (name : String) (args : Array Operand) (ats : Array TypeId) (hd : bL o st) (ho : o.op = .call { callee := .invoke recv name, args, argTypes := ats }) (h : iZ P o.dst recv name args.toList st K) : Does P o st K := by
 unfold iZ at h;split at h
 ·rename_i t d hf;obtain ⟨hp, ha, f, hm, hfn⟩ := h;refine mS hd f (d.strip :: cG args.toList st) (List.replicate (1 + args.toList.length) none) st.obj rfl ?_ (fun t ht => by have := List.eq_of_mem_replicate ht; cases this) fun w g tmps hok => ?_
  ·rw [nS]; exact hfn
  ·have hr := hok.rd recv;rw [hf] at hr;generalize hv : ev tmps recv = v at hr;cases hr with
   | ifc _ _ x hx =>
    refine ⟨#[x] ++ args.map (ev tmps), ?_, ?_, fun p d' v a1 a2 => ?_⟩
    ·have he : (args.map (ev tmps)).extract 0 args.size = args.map (ev tmps) := by
      have h1 : args.size = (args.map (ev tmps)).size := by simp
      rw [h1, Array.extract_size]
     have h0 : (#[Value.iface t x] ++ args.map (ev tmps))[0]? = some (Value.iface t x) := by
      rw [Array.getElem?_append_left (by simp)]; rfl
     simp [execOp, ho, resolve, hv, invoke, h0, he, hm x (args.map (ev tmps)) w]
    ·simp [cG]; omega
    ·suffices hs : R g.M g.bs d' v ∧ ∀ X h p, Own w g.M g.bs X h p d' v from ⟨hs.1, .inl hs.2⟩
     match p with
     | 0 =>
      simp only [List.getElem?_cons_zero, Option.some.injEq] at a1;subst a1;rw [Array.getElem?_append_left (by simp)] at a2;simp at a2; subst a2;exact ⟨hx.strip, fun X h p => eN hx (dZ hp)⟩
     | p + 1 =>
      simp only [List.getElem?_cons_succ] at a1;rw [Array.getElem?_append_right (by simp)] at a2;simp only [List.size_toArray, List.length_cons, List.length_nil, Nat.zero_add, Nat.add_sub_cancel] at a2;unfold cG at a1;rw [List.getElem?_map, Option.map_eq_some_iff] at a1;obtain ⟨y, hy, rfl⟩ := a1;rw [Array.getElem?_map, Option.map_eq_some_iff] at a2;obtain ⟨y', hy', rfl⟩ := a2;rw [Array.getElem?_toList] at hy;rw [hy] at hy';simp at hy';subst hy';exact gS hok y (ha y (List.mem_of_getElem? (by rw [Array.getElem?_toList]; exact hy)))
 ·exact h.elim
theorem mC : ∀ (xs : List Operand) (p : Nat) (t : Nat), (xs.filterMap aZ).Nodup → (xs.map aZ)[p]? = some (some t) → (xs.map aZ).findIdx? (· == some t) = some p
 | [], p, t, _, h => by simp at h
 | x :: xs, p, t, hn, h => by
  match p with
  | 0 =>
   simp only [List.map_cons, List.getElem?_cons_zero, Option.some.injEq] at h;simp [List.findIdx?_cons, h]
  | p + 1 =>
   have h' : (xs.map aZ)[p]? = some (some t) := by simpa using h
   have hne : aZ x ≠ some t := by
    intro e;have hmem : t ∈ xs.filterMap aZ := by
     rw [List.mem_filterMap];rw [List.getElem?_map, Option.map_eq_some_iff] at h';obtain ⟨y, hy, hy'⟩ := h';exact ⟨y, List.mem_of_getElem? hy, hy'⟩
    simp only [List.filterMap_cons, e, List.nodup_cons] at hn;exact hn.1 hmem
   have hn' : (xs.filterMap aZ).Nodup := by
    simp only [List.filterMap_cons] at hn;split at hn
    ·exact hn
    ·exact (List.nodup_cons.1 hn).2
   have ih := mC xs p t hn' h';simp [List.findIdx?_cons, hne, ih]
theorem mJ {o : Oper} {st : St} {K : St → Prop} (f : FuncId) (args : Array Operand) (ats : Array TypeId) (hd : bL o st) (ho : o.op = .call { callee := .value (.func f), args, argTypes := ats }) (h : fX P o.dst f args.toList st K) : Does P o st K := by
 obtain ⟨hnd, hx, hfn⟩ := h;refine mS hd f (args.toList.map (kK st)) (args.toList.map aZ) st.obj rfl hfn (fun t ht => ?_) fun w g tmps hok => ?_
 ·obtain ⟨x, hx', e⟩ := List.mem_map.1 ht;cases x <;> simp [aZ] at e;subst e;exact (hx _ hx').1
 ·refine ⟨args.map (ev tmps), ?_, by simp, fun p d v a1 a2 => ?_⟩
  ·have hfe : ∀ (t : Array Value), (⟨t, []⟩ : Act).eval (.func f) = .func (.func f) #[] #[] := fun _ => rfl;simp [execOp, ho, resolve, hfe, Deferred.ofValue, invoke, oH hfn.1]
  ·rw [List.getElem?_map, Option.map_eq_some_iff] at a1;obtain ⟨x, h1, rfl⟩ := a1;rw [Array.getElem?_map, Option.map_eq_some_iff] at a2;obtain ⟨x', h2, rfl⟩ := a2;rw [Array.getElem?_toList] at h1;rw [h1] at h2;simp at h2;subst h2;have hmem : x ∈ args.toList := List.mem_of_getElem? (by rw [Array.getElem?_toList]; exact h1);have hp := (hx x hmem).2;cases x with
   | tmp s =>
    cases he : st.env s with
    | lref n off =>
     have e : st.rd (.tmp s) = .any := by simp [St.rd, St.rdS, he]
     simp only [kK, e];exact ⟨.any _, .inl fun X h p => .flat _ _ _ rfl⟩
    | d y =>
     have e : st.rd (.tmp s) = y := by simp [St.rd, St.rdS, he]
     have hpos : (args.toList.map aZ)[p]? = some (some s) := by rw [List.getElem?_map, Array.getElem?_toList, h1]; rfl
     refine ⟨hok.rd (.tmp s), .inr ⟨s, hpos, mC _ p s hnd hpos, by show st.env s = .d (st.rd (.tmp s)); rw [e]; exact he, rfl⟩⟩
   | const u => exact ⟨(gS hok (.const u) hp).1, .inl (gS hok (.const u) hp).2⟩
   | func u => exact ⟨(gS hok (.func u) hp).1, .inl (gS hok (.func u) hp).2⟩
   | global u => exact ⟨(gS hok (.global u) hp).1, .inl (gS hok (.global u) hp).2⟩
end
end Go.Vm

