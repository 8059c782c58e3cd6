import Derived.Test.YtnlokhfcgaikiaaVm2
namespace Go.Vm
open Go
def vals (tmps : Array Value) : Nat → Value := fun t => tmps.getD t undef
theorem vals_set (tmps : Array Value) (d : Nat) (v : Value) (h : d < tmps.size) : vals (tmps.setIfInBounds d v) = fun u => if u = d then v else vals tmps u := by
 funext u
 simp only [vals, Array.getD_eq_getD_getElem?, Array.getElem?_setIfInBounds]
 by_cases hu : d = u
 ·subst hu; simp [h]
 ·have : ¬ u = d := fun e => hu e.symm
  simp [hu, this]
def slotsOf (l : List D) : Nat → Slot := fun t => match l[t]? with | some d => .d d | none => .any
def St.ofArgs (args : List D) (σ : List (List D)) : St := { n := args.length, env := slotsOf args, loc := [], obj := σ }
def St.ofRes (r : D) (σ : List (List D)) : St := { n := 1, env := slotsOf [r], loc := [], obj := σ }
def callable (P : Program) (f : FuncId) : Bool := match P.funcs[f]? with | some fn => fn.name != "runtime.NumGoroutine" && fn.body.isSome | none => false
def Ct (P : Program) (f : FuncId) (args : List D) (σ : List (List D)) (Q : D → List (List D) → Prop) : Prop :=
 callable P f = true ∧ ∀ (w : World) (g : Gh) (vs : Array Value), vs.size = args.length → g.bl = [] → Ok w g (St.ofArgs args σ) (vals vs) →
  Calls P f vs w fun e w' => ∃ r σ' x g', e = .returned x ∧ Q r σ' ∧ g'.bl = [] ∧ Fr w g w' g' ∧ Ok w' g' (St.ofRes r σ') (fun t => if t = 0 then x else undef)
theorem Ct.mono {P : Program} {f : FuncId} {args : List D} {σ : List (List D)} {Q Q' : D → List (List D) → Prop} (h : Ct P f args σ Q) (hq : ∀ r σ', Q r σ' → Q' r σ') : Ct P f args σ Q' :=
 ⟨h.1, fun w g vs hs hb ho => (h.2 w g vs hs hb ho).mono fun _ _ ⟨r, σ', x, g', he, hQ, hb', hf, hk⟩ => ⟨r, σ', x, g', he, hq r σ' hQ, hb', hf, hk⟩⟩
def Does (P : Program) (o : Oper) (st : St) (K : St → Prop) : Prop :=
 ∀ (w : World) (g : Gh) (tmps : Array Value), Ok w g st (vals tmps) → tmps.size = st.n →
  o.wp P ⟨tmps, []⟩ w (fun a w' => a.defers = [] ∧ ∃ st' g', K st' ∧ Fr w g w' g' ∧ Ok w' g' st' (vals a.tmps) ∧ a.tmps.size = st'.n ∧ g'.bl.take g.bl.length = g.bl) (fun _ _ _ => False)
theorem Does.mono {P : Program} {o : Oper} {st : St} {K K' : St → Prop} (h : Does P o st K) (hk : ∀ s, K s → K' s) : Does P o st K' :=
 fun w g tmps h1 h2 => Oper.wp_mono (fun _ _ ⟨a1, st', g', a2, a3⟩ => ⟨a1, st', g', hk _ a2, a3⟩) (h w g tmps h1 h2)
def setVal (dst : Option Tmp) (v : Value) (val : Nat → Value) : Nat → Value := match dst with | some d => fun u => if u = d then v else val u | none => val
theorem vals_put (tmps : Array Value) (ds : List Deferred) (dst : Option Tmp) (v : Value) (h : ∀ d, dst = some d → d < tmps.size) : vals ((⟨tmps, ds⟩ : Act).put dst v).tmps = setVal dst v (vals tmps) := by
 cases dst with
 | none => rfl
 | some d => exact vals_set tmps d v (h d rfl)
theorem put_size (a : Act) (dst : Option Tmp) (v : Value) : (a.put dst v).tmps.size = a.tmps.size := by
 cases dst <;> simp [Act.put]
theorem put_defers (a : Act) (dst : Option Tmp) (v : Value) : (a.put dst v).defers = a.defers := by
 cases dst <;> simp [Act.put]
def dstOk (o : Oper) (st : St) : Prop := match o.dst with | some d => d < st.n | none => True
theorem does_value {P : Program} {o : Oper} {st : St} {K : St → Prop} (hd : dstOk o st)
  (h : ∀ (w : World) (g : Gh) (tmps : Array Value), Ok w g st (vals tmps) → ∃ v w' g' st', ((execOp (⟨tmps, []⟩ : Act).eval o).run P w = .ok (.value v) w' ∨ ((execOp (⟨tmps, []⟩ : Act).eval o).run P w = .ok .skip w' ∧ v = undef)) ∧
   K st' ∧ Fr w g w' g' ∧ Ok w' g' st' (setVal o.dst v (vals tmps)) ∧ st'.n = st.n ∧ g'.bl.take g.bl.length = g.bl) : Does P o st K := by
 intro w g tmps hok hn
 obtain ⟨v, w', g', st', hrun, hK, hf, hok', hn', hbl⟩ := h w g tmps hok
 have hdst : ∀ d, o.dst = some d → d < tmps.size := by
  intro d hd'
  have hd2 : d < st.n := by simpa [dstOk, hd'] using hd
  rw [hn]; exact hd2
 have e := vals_put tmps [] o.dst v hdst
 unfold Oper.wp
 rcases hrun with hrun | ⟨hrun, rfl⟩
 ·rw [hrun, Oper.upon_value]
  exact ⟨by simp [put_defers], st', g', hK, hf, by rw [e]; exact hok', by rw [put_size, hn']; exact hn, hbl⟩
 ·rw [hrun, Oper.upon_skip]
  exact ⟨by simp [put_defers], st', g', hK, hf, by rw [e]; exact hok', by rw [put_size, hn']; exact hn, hbl⟩
theorem Ok.put {w : World} {g : Gh} {st : St} {val : Nat → Value} (h : Ok w g st val) (dst : Option Tmp) (s : Slot) (v : Value) (hs : ∀ t, dst = some t → SlotOk w g t s v) : Ok w g (st.put dst s) (setVal dst v val) := by
 cases dst with
 | none => exact h
 | some d => exact h.set d s v (hs d rfl)
theorem put_n (st : St) (dst : Option Tmp) (s : Slot) : (st.put dst s).n = st.n := by cases dst <;> rfl
theorem does_pure {P : Program} {o : Oper} {st : St} {K : St → Prop} (hd : dstOk o st) (s : Slot)
  (h : ∀ (w : World) (g : Gh) (tmps : Array Value), Ok w g st (vals tmps) → ∃ v, (execOp (⟨tmps, []⟩ : Act).eval o).run P w = .ok (.value v) w ∧ ∀ t, SlotOk w g t s v) (hK : K (st.put o.dst s)) : Does P o st K := by
 refine does_value hd fun w g tmps hok => ?_
 obtain ⟨v, hrun, hs⟩ := h w g tmps hok
 exact ⟨v, w, g, _, .inl hrun, hK, Fr.refl w g, hok.put o.dst s v (fun t _ => hs t), put_n _ _ _, by simp⟩
theorem slotOk_flat {w : World} {g : Gh} {d : D} {v : Value} (h : R g.M g.bs d v) (hf : d.flat = true) : ∀ t, SlotOk w g t (.d d) v := fun _ => ⟨h, .flat _ _ _ hf⟩
def inTag (ts : List (Option Nat)) : Tag → Option Tag
 | (.slot t, q) => (ts.findIdx? (· == some t)).map fun p => (.slot p, q)
 | (.obj n, q) => some (.obj n, q)
 | (.loc _, _) => none
def outTag (dst : Option Tmp) : Tag → Option Tag
 | (.slot 0, q) => dst.map fun d => (.slot d, q)
 | (.obj n, q) => some (.obj n, q)
 | _ => none
def stripIn (ts : List (Option Nat)) (env : Nat → Slot) : Nat → Slot := fun t => if ts.contains (some t) then (match env t with | .d x => .d x.strip | s => s) else env t
theorem own_strip {w : World} {M M' : Mem} {bs bs' : List Nat} {X : Nat → Option Tag} {h : Holder} {p : List Nat} {d : D} {x : Value} (hr : R M bs d x) (hnt : ∀ cs, d = .tup cs → ∀ c ∈ cs, ∀ ds, c ≠ .tup ds) : Own w M' bs' X h p d.strip x := by
 cases d with
 | tup cs =>
  cases hr with
  | tup cs vs hl hr =>
   refine .tup p _ vs fun i d x h3 h4 => ?_
   rw [List.getElem?_map, Option.map_eq_some_iff] at h3
   obtain ⟨d', h3, rfl⟩ := h3
   exact own_s2 (hr i d' x h3 h4) (hnt cs rfl d' (List.mem_of_getElem? h3))
 | _ => rw [D.strip_of (by intro cs h; cases h)]; exact own_s2 hr (by intro cs h; cases h)
def noTup : Slot → Bool
 | .d (.tup _) => false
 | _ => true
theorem getElem?_ofArgs {args : List D} {p : Nat} {d : D} (h : args[p]? = some d) : slotsOf args p = .d d := by simp [slotsOf, h]
theorem Ok.enter {w : World} {g : Gh} {st : St} {val : Nat → Value} (h : Ok w g st val) (args : List D) (vs : Array Value) (ts : List (Option Nat)) (hl : vs.size = args.length)
  (ha : ∀ (p : Nat) (d : D) (v : Value), args[p]? = some d → vs[p]? = some v → R g.M g.bs d v ∧
   ((∀ X h p, Own w g.M g.bs X h p d v) ∨ ∃ t, ts[p]? = some (some t) ∧ ts.findIdx? (· == some t) = some p ∧ st.env t = .d d ∧ val t = v)) :
  Ok w { g with X := (fun b => (g.X b).bind (inTag ts)), bl := [] } (St.ofArgs args st.obj) (vals vs) := by
 refine ⟨h.mem, fun b t hb => ?_, fun t => ?_, rfl, fun n b cs h1 h2 => by simp at h1, h.ol, fun n b cs h1 h2 => ?_⟩
 ·simp only [Option.bind_eq_some_iff] at hb
  obtain ⟨t', hb, _⟩ := hb
  exact h.xlt b t' hb
 ·show SlotOk w _ t (slotsOf args t) (vals vs t)
  cases hd : args[t]? with
  | none =>
   simp only [slotsOf, hd]
   exact ⟨.any _, .flat _ _ _ rfl⟩
  | some d =>
   have hlt : t < vs.size := by rw [hl]; exact (List.getElem?_eq_some_iff.1 hd).1
   have hv : vs[t]? = some vs[t] := Array.getElem?_eq_getElem hlt
   have hvv : vals vs t = vs[t] := by simp [vals, hlt]
   rw [getElem?_ofArgs hd, hvv]
   obtain ⟨hr, ho⟩ := ha t d _ hd hv
   refine ⟨hr, ?_⟩
   rcases ho with hall | ⟨s, h1, h2, h3, h4⟩
   ·exact hall _ _ _
   ·have hs := h.slot s
    rw [h3, h4] at hs
    refine hs.2.move (fun _ _ _ h => h) (fun _ _ h => h) [] fun b q hb => ⟨rfl, fun _ h => h, ?_⟩
    simp only [List.nil_append] at hb ⊢
    simp [hb, inTag, h2]
 ·refine (h.obj n b cs h1 h2).keep (fun _ _ _ h => h) (fun _ _ h => h) fun b q hb => ⟨rfl, fun _ h => h, ?_⟩
  simp [hb, inTag]
theorem Ok.leave {w w' : World} {g gr : Gh} {st : St} {val : Nat → Value} (h : Ok w g st val) (ts : List (Option Nat)) (dst : Option Tmp) (r : D) (x : Value) (σ' : List (List D))
  (hf : Fr w { g with X := (fun b => (g.X b).bind (inTag ts)), bl := [] } w' gr) (hr : Ok w' gr (St.ofRes r σ') (fun t => if t = 0 then x else undef))
  (hnt : ∀ t, some t ∈ ts → noTup (st.env t) = true) :
  ∃ g', g'.bl = g.bl ∧ Fr w g w' g' ∧ Ok w' g' (({ st with env := stripIn ts st.env, obj := σ' } : St).put dst (.d r)) (setVal dst x val) := by
 let Xc : Nat → Option Tag := fun b => (g.X b).bind (inTag ts)
 let X' : Nat → Option Tag := fun b => if b < w.heap.size ∧ Xc b = none then g.X b else (gr.X b).bind (outTag dst)
 have hXc : ∀ b, b < w.heap.size → Xc b = none → w'.heap[b]? = w.heap[b]? ∧ gr.X b = none ∧ ∀ o, gr.M b o = g.M b o := hf.keep
 have hbs : ∀ (n b : Nat), g.bs[n]? = some b → gr.bs[n]? = some b := hf.bs
 have hM : g.M.le gr.M := hf.mono
 -- what did not go in is as it was
 have kept : ∀ (hd : Holder), (∀ q, inTag ts (hd, q) = none) → ∀ (b : Nat) (q : List Nat), g.X b = some (hd, q) → w'.heap[b]? = w.heap[b]? ∧ (∀ o, g.M b o = none → gr.M b o = none) ∧ X' b = some (hd, q) := by
  intro hd hin b q hb
  have hlt := h.xlt b _ hb
  have hc : Xc b = none := by simp only [Xc, hb, Option.bind_some]; exact hin q
  obtain ⟨h1, h2, h3⟩ := hXc b hlt hc
  exact ⟨h1, fun o ho => by rw [h3]; exact ho, by simp only [X', if_pos (And.intro hlt hc)]; exact hb⟩
 -- what came out has its tag
 have came : ∀ (b : Nat) (t : Tag), gr.X b = some t → X' b = outTag dst t := by
  intro b t hb
  have : ¬ (b < w.heap.size ∧ Xc b = none) := fun ⟨h1, h2⟩ => by rw [(hXc b h1 h2).2.1] at hb; cases hb
  simp only [X', if_neg this, hb, Option.bind_some]
 refine ⟨{ M := gr.M, X := X', bl := g.bl, bs := gr.bs }, rfl, ⟨hf.os, hf.tape, hf.output, hf.size, fun b hb hx => ?_, hM, hbs⟩, ?_⟩
 ·have hc : Xc b = none := by simp only [Xc, hx, Option.bind_none]
  obtain ⟨h1, h2, h3⟩ := hXc b hb hc
  exact ⟨h1, by simp only [X', if_pos (And.intro hb hc)]; exact hx, h3⟩
 ·have base : Ok w' { M := gr.M, X := X', bl := g.bl, bs := gr.bs } { st with env := stripIn ts st.env, obj := σ' } val := by
   refine ⟨hr.mem, fun b t hb => ?_, fun t => ?_, h.ll, fun n b cs h1 h2 => (h.loc n b cs h1 h2).keep hM hbs (kept _ (fun q => rfl)), hr.ol, fun n b cs h1 h2 => ?_⟩
   ·simp only [X'] at hb
    split at hb
    ·rename_i hc; have := hf.size; omega
    ·simp only [Option.bind_eq_some_iff] at hb
     obtain ⟨t', hb, _⟩ := hb
     exact hr.xlt b t' hb
   ·have hs := h.slot t
    simp only [stripIn]
    by_cases hc : ts.contains (some t) = true
    ·simp only [hc, if_true]
     have hn := hnt t (by simpa using hc)
     cases he : st.env t with
     | lref n off =>
      rw [he] at hs
      exact hs
     | d y =>
      rw [he] at hs hn
      exact ⟨(hs.1.mono hM hbs).strip, own_strip hs.1 (by intro cs e; subst e; simp [noTup] at hn)⟩
    ·simp only [hc]
     refine hs.keep hM hbs (fun _ _ h => h) (kept _ fun q => ?_)
     simp only [inTag, Option.map_eq_none_iff, List.findIdx?_eq_none_iff]
     intro y hy
     cases y with
     | none => rfl
     | some u =>
      by_cases e : u = t
      ·subst e; exact absurd (by simpa using hy) hc
      ·simp [e]
   ·exact (hr.obj n b cs h1 h2).keep (fun _ _ _ h => h) (fun _ _ h => h) fun b q hb => ⟨rfl, fun _ h => h, (came b _ hb).trans rfl⟩
  refine base.put dst (.d r) x fun t ht => ?_
  have hs := hr.slot 0
  have hs' : R gr.M gr.bs r x ∧ Own w' gr.M gr.bs gr.X (.slot 0) [] r x := hs
  refine ⟨hs'.1, hs'.2.move (fun _ _ _ h => h) (fun _ _ h => h) [] fun b q hb => ⟨rfl, fun _ h => h, ?_⟩⟩
  simp only [List.nil_append] at hb ⊢
  subst ht
  exact (came b _ hb).trans rfl
end Go.Vm
