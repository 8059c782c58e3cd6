import Derived.Test.YtpfmpeaekgdgnaaGreatVmX10
namespace Go.Vm
open Go
set_option linter.all false
section
variable {P : Program}
theorem zj {α : Type} {n : Nat} (F : α → List (Nat × Slot)) (G H : α → List (List D)) (p : α → Prop) {a b : Code} {Q : Exit → St → Prop} {st : St} (h1 : fV P a (Uu (fun x => St.mk' n (F x) (G x) (H x)) p Q) st) (h2 : ∀ x, p x → fV P b Q (St.mk' n (F x) (G x) (H x))) : fV P (.seq a b) Q st := Tw _ p h1 h2
theorem zf {f : FuncId} {fn : Func} {cd : Code} {args : List D} {σ : List (List D)} {Q : D → List (List D) → Prop} {n : Nat} {rs : List ResultVar} (hf : P.funcs[f]? = some fn) (hn : fn.ntmps = n) (hrs : fn.results = rs.toArray) (h : fV P cd (aK P rs Q) (St.mk' n (aN 0 args) [] σ))
  (hb : fn.body = some cd := by exact rfl) (hname : (fn.name != "runtime.NumGoroutine") = true := by exact rfl) (hle : args.length ≤ n := by simp) : Ct P f args σ Q := Tq hf hb hname hn hrs hle h
theorem zr (c : Cfg) {id : Nat} {ops ops' : List Oper} {y : Code} {Q : Exit → St → Prop} {st : St} (h : ∀ (all : List Oper) (K : St → Prop), (∀ s, fV P y Q s → K s) → kK P c all ops' st K) (he : ops.map kP = ops' := by simp only [iQ, jT] <;> rfl) : fV P (.seq (.region id ops.toArray false) y) Q st :=
 aE (lF he fun all _ K hK => h all K fun s hs => hK s (aB hs))
theorem oE (c : Cfg) {id : Nat} {ops ops' : List Oper} {y : Code} {Q : Exit → St → Prop} {st : St} (h : ∀ (all : List Oper), (∀ j, aT all j = aT ops j) → ∀ (K : St → Prop), (∀ s, fV P y Q s → K s) → kK P c all ops' st K) (he : ops.map kP = ops' := by simp only [iQ, jT] <;> rfl) : fV P (.seq (.region id ops.toArray false) y) Q st :=
 aE (lF he fun all ha K hK => h all ha K fun s hs => hK s (aB hs))
theorem zt (c : Cfg) {id : Nat} {ops ops' : List Oper} {Q : Exit → St → Prop} {st : St} (h : ∀ (all : List Oper) (K : St → Prop), (∀ s, Q .normal s → K s) → kK P c all ops' st K) (he : ops.map kP = ops' := by simp only [iQ, jT] <;> rfl) : fV P (.region id ops.toArray false) Q st :=
 lF he fun all _ K hK => h all K hK
theorem ztg (c : Cfg) {id : Nat} {ops ops' : List Oper} {Q : Exit → St → Prop} {st : St} (h : ∀ (all : List Oper), (∀ j, aT all j = aT ops j) → ∀ (K : St → Prop), (∀ s, Q .normal s → K s) → kK P c all ops' st K) (he : ops.map kP = ops' := by simp only [iQ, jT] <;> rfl) : fV P (.region id ops.toArray false) Q st :=
 lF he fun all ha K hK => h all ha K hK
theorem aY {id : Nat} {ops ops' : List Oper} {y : Code} {Q : Exit → St → Prop} {st : St} (h : ∀ (all : List Oper) (K : St → Prop), (∀ s, fV P y Q s → K s) → kK P ⟨[], [], [], [], []⟩ all ops' st K) (he : ops.map kP = ops' := by simp only [iQ, jT] <;> rfl) : fV P (.seq (.region id ops.toArray false) y) Q st := zr _ h he
theorem uP {id : Nat} {ops ops' : List Oper} {Q : Exit → St → Prop} {st : St} (h : ∀ (all : List Oper) (K : St → Prop), (∀ s, Q .normal s → K s) → kK P ⟨[], [], [], [], []⟩ all ops' st K) (he : ops.map kP = ops' := by simp only [iQ, jT] <;> rfl) : fV P (.region id ops.toArray false) Q st := zt _ h he
theorem zd (c : Cfg) (ks : List DK) {id : Nat} {ops ops' : List Oper} {y : Code} {Q : Exit → St → Prop} {st : St} (h : ∀ (all : List Oper), (∀ j, aT all j = aT ops j) → ∀ (K : St → Prop), (∀ s, fV P y Q s → K s) → gQ P c all ops' ks st K)
  (he : ops.map kP = ops' := by simp only [iQ, jT] <;> rfl) (hm : P.follows .mixedOrders = true := by kernel_rfl) (hok : qD c ops ks = true := by kernel_rfl) : fV P (.seq (.region id ops.toArray true) y) Q st :=
 aE (zE ks hm hok he fun all ha K hK => h all ha K fun s hs => hK s (aB hs))
theorem ze (c : Cfg) (ks : List DK) {id : Nat} {ops ops' : List Oper} {Q : Exit → St → Prop} {st : St} (h : ∀ (all : List Oper), (∀ j, aT all j = aT ops j) → ∀ (K : St → Prop), (∀ s, Q .normal s → K s) → gQ P c all ops' ks st K)
  (he : ops.map kP = ops' := by simp only [iQ, jT] <;> rfl) (hm : P.follows .mixedOrders = true := by kernel_rfl) (hok : qD c ops ks = true := by kernel_rfl) : fV P (.region id ops.toArray true) Q st :=
 zE ks hm hok he fun all ha K hK => h all ha K hK
theorem zk (K : List Nat) {l2 : List (Nat × Slot)} {c : Code} {n : Nat} {l : List (Nat × Slot)} {loc obj : List (List D)} {Q : Exit → St → Prop} (h : fV P c Q (St.mk' n l2 loc obj)) (hl : qP K l = l2 := by simp only [Mj, vD, zJ, zN, aAl, aAq, Nat.reduceBEq] <;> rfl) : fV P c Q (St.mk' n l loc obj) := Su K hl h
theorem zg {c : Cfg} {all r : List Oper} {d : Option Tmp} {op : Op} {ty : TypeId} {pos : String} {after : Array Edge} {j t : Nat} {b want : Bool} {st : St} {K : St → Prop} (hg : aT all j = some t) (h1 : ∀ K' : St → Prop, (∀ s, kK P c all r s K → K' s) → Ho d st ∧ eJ P c d op st K')
  (hs : st.env t = .d (.v (.bool b)) := by simp <;> rfl) (hb : b = want := by exact rfl) : kK P c all (⟨d, op, ty, pos, after, some (j, want)⟩ :: r) st K := aCk hg hs hb h1
theorem zi {t : Nat} {a b : Code} {s : Slot} {n : Nat} {l : List (Nat × Slot)} {loc obj : List (List D)} {Q : Exit → St → Prop} (h : qB s.toD (fV P a Q (St.mk' n ((t, .d (.bool true)) :: l) loc obj)) (fV P b Q (St.mk' n ((t, .d (.bool false)) :: l) loc obj))) (hs : cV l t = s := by simp <;> rfl) : fV P (.cond (.tmp t) a b) Q (St.mk' n l loc obj) := Zk hs h
theorem bY {f : FuncId} {args args' : List D} {σ y : List (List D)} {x : D} {Q : D → List (List D) → Prop} (h : Ct P f args σ (fun r τ => r = x ∧ τ = y)) (k : Q x y) (hl : gG args' args := by first | exact dB rfl | (refine dB ?_; simp; done) | (refine dB ?_; simp; rfl) | (simp [gG, rS]; done)) : Ct P f args' σ Q :=
 (h.of_le hl rfl).mono fun r τ ⟨h1, h2⟩ => by rw [h1, h2]; exact k
theorem Ps {f : FuncId} {args args' : List D} {σ : List (List D)} {Q Q' : D → List (List D) → Prop} (h : Ct P f args σ Q) (k : ∀ r τ, Q r τ → Q' r τ) (hl : gG args' args := by first | exact dB rfl | (refine dB ?_; simp; done) | (refine dB ?_; simp; rfl) | (simp [gG, rS]; done)) : Ct P f args' σ Q' :=
 (h.of_le hl rfl).mono k
theorem Pp {f : FuncId} {args args' : List D} {r : D} {k : D → Prop} (h : ∀ σ, Ct P f args σ (fun r' τ => r' = r ∧ τ = σ)) (hk : k r) (hl : gG args' args := by first | exact dB rfl | (refine dB ?_; simp; done) | (refine dB ?_; simp; rfl) | (simp [gG, rS]; done)) : ∃ r, (∀ σ, Ct P f args' σ fun r' σ' => r' = r ∧ σ' = σ) ∧ k r :=
 ⟨r, fun σ => (h σ).of_le hl rfl, hk⟩
theorem zdr {f : FuncId} {args args' : List D} {σ : List (List D)} {r : D} {k : D → Prop} (h : Ct P f args σ (fun r' τ => r' = r ∧ τ = σ)) (hk : k r) (hl : gG args' args := by first | exact dB rfl | (refine dB ?_; simp; done) | (refine dB ?_; simp; rfl) | (simp [gG, rS]; done)) : ∃ r, (Ct P f args' σ fun r' σ' => r' = r ∧ σ' = σ) ∧ k r :=
 ⟨r, h.of_le hl rfl, hk⟩
theorem Rn {f : FuncId} {args args' : List D} {σ σ0 : List (List D)} {r : D} {k : D → List (List D) → Prop} (h : Ct P f args σ (fun r' τ => r' = r ∧ τ = σ0)) (hk : k r σ0) (hl : gG args' args := by first | exact dB rfl | (refine dB ?_; simp; done) | (refine dB ?_; simp; rfl) | (simp [gG, rS]; done)) : ∃ r σ0, (Ct P f args' σ fun r' σ' => r' = r ∧ σ' = σ0) ∧ k r σ0 :=
 ⟨r, σ0, h.of_le hl rfl, hk⟩
theorem zda {f : FuncId} {args args' : List D} {σ σ0 : List (List D)} {r : D} {F : List (List D) → List (List D)} {k : D → List (List D) → Prop} (J : List (List D)) (h : Ct P f args σ (fun r' τ => r' = r ∧ τ = σ0)) (hk : k r J) (hl : gG args' args := by first | exact dB rfl | (refine dB ?_; simp; done) | (refine dB ?_; simp; rfl) | (simp [gG, rS]; done)) (hJ : σ0 = F J := by simp) : ∃ r J, (Ct P f args' σ fun r' σ' => r' = r ∧ σ' = F J) ∧ k r J :=
 ⟨r, J, hJ ▸ h.of_le hl rfl, hk⟩
end
end Go.Vm

