import Derived.Test.YtighdhfgcdjmeaaVmX10
namespace Go.Vm
open Go
set_option linter.all false
section
variable {P : Program}
theorem zf {f : FuncId} {fn : Func} {cd : Code} {args : List D} {σ : List (List D)} {Q : D → List (List D) → Prop} {n : Nat} {rs : List ResultVar} (hf : P.funcs[f]? = some fn) (hn : fn.ntmps = n) (hrs : fn.results = rs.toArray) (h : fM P cd (aR P rs Q) (St.mk' n (aM 0 args) [] σ))
  (hb : fn.body = some cd := by exact rfl) (hname : (fn.name != "runtime.NumGoroutine") = true := by exact rfl) (hle : args.length ≤ n := by simp) : Ct P f args σ Q := Kf hf hb hname hn hrs hle h
theorem zr (c : Cfg) {id : Nat} {ops ops' : List Oper} {y : Code} {Q : Exit → St → Prop} {st : St} (h : ∀ (all : List Oper) (K : St → Prop), (∀ s, fM P y Q s → K s) → iE P c all ops' st K) (he : ops.map iK = ops' := by simp only [gC, iC] <;> rfl) : fM P (.seq (.region id ops.toArray false) y) Q st :=
 aH (lJ he fun all _ K hK => h all K fun s hs => hK s (aE hs))
theorem Ms (c : Cfg) {id : Nat} {ops ops' : List Oper} {y : Code} {Q : Exit → St → Prop} {st : St} (h : ∀ (all : List Oper), (∀ j, bK all j = bK ops j) → ∀ (K : St → Prop), (∀ s, fM P y Q s → K s) → iE P c all ops' st K) (he : ops.map iK = ops' := by simp only [gC, iC] <;> rfl) : fM P (.seq (.region id ops.toArray false) y) Q st :=
 aH (lJ he fun all ha K hK => h all ha K fun s hs => hK s (aE hs))
theorem zt (c : Cfg) {id : Nat} {ops ops' : List Oper} {Q : Exit → St → Prop} {st : St} (h : ∀ (all : List Oper) (K : St → Prop), (∀ s, Q .normal s → K s) → iE P c all ops' st K) (he : ops.map iK = ops' := by simp only [gC, iC] <;> rfl) : fM P (.region id ops.toArray false) Q st :=
 lJ he fun all _ K hK => h all K hK
theorem bQ {id : Nat} {ops ops' : List Oper} {y : Code} {Q : Exit → St → Prop} {st : St} (h : ∀ (all : List Oper) (K : St → Prop), (∀ s, fM P y Q s → K s) → iE P ⟨[], [], [], [], []⟩ all ops' st K) (he : ops.map iK = ops' := by simp only [gC, iC] <;> rfl) : fM P (.seq (.region id ops.toArray false) y) Q st := zr _ h he
theorem Mx {id : Nat} {ops ops' : List Oper} {Q : Exit → St → Prop} {st : St} (h : ∀ (all : List Oper) (K : St → Prop), (∀ s, Q .normal s → K s) → iE P ⟨[], [], [], [], []⟩ all ops' st K) (he : ops.map iK = ops' := by simp only [gC, iC] <;> rfl) : fM P (.region id ops.toArray false) Q st := zt _ h he
theorem zd (c : Cfg) (ks : List DK) {id : Nat} {ops ops' : List Oper} {y : Code} {Q : Exit → St → Prop} {st : St} (h : ∀ (all : List Oper), (∀ j, bK all j = bK ops j) → ∀ (K : St → Prop), (∀ s, fM P y Q s → K s) → fA P c all ops' ks st K)
  (he : ops.map iK = ops' := by simp only [gC, iC] <;> rfl) (hm : P.follows .mixedOrders = true := by kernel_rfl) (hok : qU c ops ks = true := by kernel_rfl) : fM P (.seq (.region id ops.toArray true) y) Q st :=
 aH (tT ks hm hok he fun all ha K hK => h all ha K fun s hs => hK s (aE hs))
theorem ze (c : Cfg) (ks : List DK) {id : Nat} {ops ops' : List Oper} {Q : Exit → St → Prop} {st : St} (h : ∀ (all : List Oper), (∀ j, bK all j = bK ops j) → ∀ (K : St → Prop), (∀ s, Q .normal s → K s) → fA P c all ops' ks st K)
  (he : ops.map iK = ops' := by simp only [gC, iC] <;> rfl) (hm : P.follows .mixedOrders = true := by kernel_rfl) (hok : qU c ops ks = true := by kernel_rfl) : fM P (.region id ops.toArray true) Q st :=
 tT ks hm hok he fun all ha K hK => h all ha K hK
theorem zk (K : List Nat) {l2 : List (Nat × Slot)} {c : Code} {n : Nat} {l : List (Nat × Slot)} {loc obj : List (List D)} {Q : Exit → St → Prop} (h : fM P c Q (St.mk' n l2 loc obj)) (hl : oI K l = l2 := by simp only [Gk, qZ, uA, tU, Qo, Qk, Nat.reduceBEq] <;> rfl) : fM P c Q (St.mk' n l loc obj) := Lh K hl h
theorem zg {c : Cfg} {all r : List Oper} {d : Option Tmp} {op : Op} {ty : TypeId} {pos : String} {after : Array Edge} {j t : Nat} {b want : Bool} {st : St} {K : St → Prop} (hg : bK all j = some t) (h1 : ∀ K' : St → Prop, (∀ s, iE P c all r s K → K' s) → Ae d st ∧ cY P c d op st K')
  (hs : st.env t = .d (.v (.bool b)) := by simp <;> rfl) (hb : b = want := by exact rfl) : iE P c all (⟨d, op, ty, pos, after, some (j, want)⟩ :: r) st K := Rq hg hs hb h1
theorem zi {t : Nat} {a b : Code} {s : Slot} {n : Nat} {l : List (Nat × Slot)} {loc obj : List (List D)} {Q : Exit → St → Prop} (h : sB s.toD (fM P a Q (St.mk' n ((t, .d (.bool true)) :: l) loc obj)) (fM P b Q (St.mk' n ((t, .d (.bool false)) :: l) loc obj))) (hs : bU l t = s := by simp <;> rfl) : fM P (.cond (.tmp t) a b) Q (St.mk' n l loc obj) := Od hs h
theorem cD {f : FuncId} {args args' : List D} {σ y : List (List D)} {x : D} {Q : D → List (List D) → Prop} (h : Ct P f args σ (fun r τ => r = x ∧ τ = y)) (k : Q x y) (hl : gB args' args := by first | exact dM rfl | (refine dM ?_; simp; done) | (refine dM ?_; simp; rfl) | (simp [gB, tQ]; done)) : Ct P f args' σ Q :=
 (h.of_le hl rfl).mono fun r τ ⟨h1, h2⟩ => by rw [h1, h2]; exact k
theorem Tu {f : FuncId} {args args' : List D} {σ : List (List D)} {Q Q' : D → List (List D) → Prop} (h : Ct P f args σ Q) (k : ∀ r τ, Q r τ → Q' r τ) (hl : gB args' args := by first | exact dM rfl | (refine dM ?_; simp; done) | (refine dM ?_; simp; rfl) | (simp [gB, tQ]; done)) : Ct P f args' σ Q' :=
 (h.of_le hl rfl).mono k
theorem kM {f : FuncId} {args args' : List D} {r : D} {k : D → Prop} (h : ∀ σ, Ct P f args σ (fun r' τ => r' = r ∧ τ = σ)) (hk : k r) (hl : gB args' args := by first | exact dM rfl | (refine dM ?_; simp; done) | (refine dM ?_; simp; rfl) | (simp [gB, tQ]; done)) : ∃ r, (∀ σ, Ct P f args' σ fun r' σ' => r' = r ∧ σ' = σ) ∧ k r :=
 ⟨r, fun σ => (h σ).of_le hl rfl, hk⟩
theorem zdd {f : FuncId} {args args' : List D} {σ σ0 : List (List D)} {r : D} {k : D → List (List D) → Prop} (h : Ct P f args σ (fun r' τ => r' = r ∧ τ = σ0)) (hk : k r σ0) (hl : gB args' args := by first | exact dM rfl | (refine dM ?_; simp; done) | (refine dM ?_; simp; rfl) | (simp [gB, tQ]; done)) : ∃ r σ0, (Ct P f args' σ fun r' σ' => r' = r ∧ σ' = σ0) ∧ k r σ0 :=
 ⟨r, σ0, h.of_le hl rfl, hk⟩
end
end Go.Vm

