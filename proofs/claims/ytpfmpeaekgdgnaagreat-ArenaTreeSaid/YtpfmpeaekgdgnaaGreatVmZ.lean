import Derived.Test.YtpfmpeaekgdgnaaGreatVmX10
namespace Go.Vm
open Go
set_option linter.all false
section
variable {P : Program}
theorem zf {f : FuncId} {fn : Func} {cd : Code} {args : List D} {σ : List (List D)} {Q : D → List (List D) → Prop} {n : Nat} {rs : List ResultVar} (hf : P.funcs[f]? = some fn) (hn : fn.ntmps = n) (hrs : fn.results = rs.toArray) (h : AWP P cd (endQ P rs Q) (St.mk' n (argEnv 0 args) [] σ))
  (hb : fn.body = some cd := by exact rfl) (hname : (fn.name != "runtime.NumGoroutine") = true := by exact rfl) (hle : args.length ≤ n := by simp) : Ct P f args σ Q := fn_start hf hb hname hn hrs hle h
theorem zr (c : Cfg) {id : Nat} {ops ops' : List Oper} {y : Code} {Q : Exit → St → Prop} {st : St} (h : ∀ (all : List Oper) (K : St → Prop), (∀ s, AWP P y Q s → K s) → vcL P c all ops' st K) (he : ops.map lite = ops' := by simp only [lite_cons, lite_nil] <;> rfl) : AWP P (.seq (.region id ops.toArray false) y) Q st :=
 awp_seq (awp_regionA he fun all _ K hK => h all K fun s hs => hK s (q_then_n hs))
theorem zrg (c : Cfg) {id : Nat} {ops ops' : List Oper} {y : Code} {Q : Exit → St → Prop} {st : St} (h : ∀ (all : List Oper), (∀ j, guardOf all j = guardOf ops j) → ∀ (K : St → Prop), (∀ s, AWP P y Q s → K s) → vcL P c all ops' st K) (he : ops.map lite = ops' := by simp only [lite_cons, lite_nil] <;> rfl) : AWP P (.seq (.region id ops.toArray false) y) Q st :=
 awp_seq (awp_regionA he fun all ha K hK => h all ha K fun s hs => hK s (q_then_n hs))
theorem zt (c : Cfg) {id : Nat} {ops ops' : List Oper} {Q : Exit → St → Prop} {st : St} (h : ∀ (all : List Oper) (K : St → Prop), (∀ s, Q .normal s → K s) → vcL P c all ops' st K) (he : ops.map lite = ops' := by simp only [lite_cons, lite_nil] <;> rfl) : AWP P (.region id ops.toArray false) Q st :=
 awp_regionA he fun all _ K hK => h all K hK
theorem ztg (c : Cfg) {id : Nat} {ops ops' : List Oper} {Q : Exit → St → Prop} {st : St} (h : ∀ (all : List Oper), (∀ j, guardOf all j = guardOf ops j) → ∀ (K : St → Prop), (∀ s, Q .normal s → K s) → vcL P c all ops' st K) (he : ops.map lite = ops' := by simp only [lite_cons, lite_nil] <;> rfl) : AWP P (.region id ops.toArray false) Q st :=
 awp_regionA he fun all ha K hK => h all ha K hK
theorem zr0 {id : Nat} {ops ops' : List Oper} {y : Code} {Q : Exit → St → Prop} {st : St} (h : ∀ (all : List Oper) (K : St → Prop), (∀ s, AWP P y Q s → K s) → vcL P ⟨[], [], [], [], []⟩ all ops' st K) (he : ops.map lite = ops' := by simp only [lite_cons, lite_nil] <;> rfl) : AWP P (.seq (.region id ops.toArray false) y) Q st := zr _ h he
theorem zt0 {id : Nat} {ops ops' : List Oper} {Q : Exit → St → Prop} {st : St} (h : ∀ (all : List Oper) (K : St → Prop), (∀ s, Q .normal s → K s) → vcL P ⟨[], [], [], [], []⟩ all ops' st K) (he : ops.map lite = ops' := by simp only [lite_cons, lite_nil] <;> rfl) : AWP P (.region id ops.toArray false) Q st := zt _ h he
theorem zd (c : Cfg) (ks : List DK) {id : Nat} {ops ops' : List Oper} {y : Code} {Q : Exit → St → Prop} {st : St} (h : ∀ (all : List Oper), (∀ j, guardOf all j = guardOf ops j) → ∀ (K : St → Prop), (∀ s, AWP P y Q s → K s) → vcDL P c all ops' ks st K)
  (he : ops.map lite = ops' := by simp only [lite_cons, lite_nil] <;> rfl) (hm : P.follows .mixedOrders = true := by kernel_rfl) (hok : drawOk c ops ks = true := by kernel_rfl) : AWP P (.seq (.region id ops.toArray true) y) Q st :=
 awp_seq (awp_drawA ks hm hok he fun all ha K hK => h all ha K fun s hs => hK s (q_then_n hs))
theorem ze (c : Cfg) (ks : List DK) {id : Nat} {ops ops' : List Oper} {Q : Exit → St → Prop} {st : St} (h : ∀ (all : List Oper), (∀ j, guardOf all j = guardOf ops j) → ∀ (K : St → Prop), (∀ s, Q .normal s → K s) → vcDL P c all ops' ks st K)
  (he : ops.map lite = ops' := by simp only [lite_cons, lite_nil] <;> rfl) (hm : P.follows .mixedOrders = true := by kernel_rfl) (hok : drawOk c ops ks = true := by kernel_rfl) : AWP P (.region id ops.toArray true) Q st :=
 awp_drawA ks hm hok he fun all ha K hK => h all ha K hK
theorem zk (K : List Nat) {l2 : List (Nat × Slot)} {c : Code} {n : Nat} {l : List (Nat × Slot)} {loc obj : List (List D)} {Q : Exit → St → Prop} (h : AWP P c Q (St.mk' n l2 loc obj)) (hl : keepL K l = l2 := by simp only [keepL_nil, keepL_cons, envOf_sel, envOf_nil, sel_t, sel_f, Nat.reduceBEq] <;> rfl) : AWP P c Q (St.mk' n l loc obj) := awp_keep K hl h
theorem zg {c : Cfg} {all r : List Oper} {d : Option Tmp} {op : Op} {ty : TypeId} {pos : String} {after : Array Edge} {j t : Nat} {b want : Bool} {st : St} {K : St → Prop} (hg : guardOf all j = some t) (h1 : ∀ K' : St → Prop, (∀ s, vcL P c all r s K → K' s) → dOk d st ∧ vcOp' P c d op st K')
  (hs : st.env t = .d (.v (.bool b)) := by simp <;> rfl) (hb : b = want := by exact rfl) : vcL P c all (⟨d, op, ty, pos, after, some (j, want)⟩ :: r) st K := vcL_gt hg hs hb h1
theorem zi {t : Nat} {a b : Code} {s : Slot} {n : Nat} {l : List (Nat × Slot)} {loc obj : List (List D)} {Q : Exit → St → Prop} (h : condVC s.toD (AWP P a Q (St.mk' n ((t, .d (.bool true)) :: l) loc obj)) (AWP P b Q (St.mk' n ((t, .d (.bool false)) :: l) loc obj))) (hs : envOf l t = s := by simp <;> rfl) : AWP P (.cond (.tmp t) a b) Q (St.mk' n l loc obj) := awp_ifB hs h
theorem zce {f : FuncId} {args args' : List D} {σ y : List (List D)} {x : D} {Q : D → List (List D) → Prop} (h : Ct P f args σ (fun r τ => r = x ∧ τ = y)) (k : Q x y) (hl : leArgs args' args := by first | exact leArgs_of rfl | (refine leArgs_of ?_; simp; done) | (refine leArgs_of ?_; simp; rfl) | (simp [leArgs, leArg]; done)) : Ct P f args' σ Q :=
 (h.of_le hl rfl).mono fun r τ ⟨h1, h2⟩ => by rw [h1, h2]; exact k
theorem zcm {f : FuncId} {args args' : List D} {σ : List (List D)} {Q Q' : D → List (List D) → Prop} (h : Ct P f args σ Q) (k : ∀ r τ, Q r τ → Q' r τ) (hl : leArgs args' args := by first | exact leArgs_of rfl | (refine leArgs_of ?_; simp; done) | (refine leArgs_of ?_; simp; rfl) | (simp [leArgs, leArg]; done)) : Ct P f args' σ Q' :=
 (h.of_le hl rfl).mono k
theorem zdp {f : FuncId} {args args' : List D} {r : D} {k : D → Prop} (h : ∀ σ, Ct P f args σ (fun r' τ => r' = r ∧ τ = σ)) (hk : k r) (hl : leArgs args' args := by first | exact leArgs_of rfl | (refine leArgs_of ?_; simp; done) | (refine leArgs_of ?_; simp; rfl) | (simp [leArgs, leArg]; done)) : ∃ r, (∀ σ, Ct P f args' σ fun r' σ' => r' = r ∧ σ' = σ) ∧ k r :=
 ⟨r, fun σ => (h σ).of_le hl rfl, hk⟩
theorem zdr {f : FuncId} {args args' : List D} {σ : List (List D)} {r : D} {k : D → Prop} (h : Ct P f args σ (fun r' τ => r' = r ∧ τ = σ)) (hk : k r) (hl : leArgs args' args := by first | exact leArgs_of rfl | (refine leArgs_of ?_; simp; done) | (refine leArgs_of ?_; simp; rfl) | (simp [leArgs, leArg]; done)) : ∃ r, (Ct P f args' σ fun r' σ' => r' = r ∧ σ' = σ) ∧ k r :=
 ⟨r, h.of_le hl rfl, hk⟩
theorem zdd {f : FuncId} {args args' : List D} {σ σ0 : List (List D)} {r : D} {k : D → List (List D) → Prop} (h : Ct P f args σ (fun r' τ => r' = r ∧ τ = σ0)) (hk : k r σ0) (hl : leArgs args' args := by first | exact leArgs_of rfl | (refine leArgs_of ?_; simp; done) | (refine leArgs_of ?_; simp; rfl) | (simp [leArgs, leArg]; done)) : ∃ r σ0, (Ct P f args' σ fun r' σ' => r' = r ∧ σ' = σ0) ∧ k r σ0 :=
 ⟨r, σ0, h.of_le hl rfl, hk⟩
end
end Go.Vm

