import Derived.Test.YtpfmpeaekgdgnaaGreatVmX10
namespace Go.Vm
open Go
set_option linter.all false
section
variable {P : Program}
theorem zj {α : Type} {n : Nat} (F : α → List (Nat × Slot)) (G H : α → List (List D)) (p : α → Prop) {a b : Code} {Q : Exit → St → Prop} {st : St} (h1 : fW P a (Tv (fun x => St.mk' n (F x) (G x) (H x)) p Q) st) (h2 : ∀ x, p x → fW P b Q (St.mk' n (F x) (G x) (H x))) : fW P (.seq a b) Q st := Pf _ p h1 h2
theorem zf {f : FuncId} {fn : Func} {cd : Code} {args : List D} {σ : List (List D)} {Q : D → List (List D) → Prop} {n : Nat} {rs : List ResultVar} (hf : P.funcs[f]? = some fn) (hn : fn.ntmps = n) (hrs : fn.results = rs.toArray) (h : fW P cd (aN P rs Q) (St.mk' n (aQ 0 args) [] σ))
  (hb : fn.body = some cd := by exact rfl) (hname : (fn.name != "runtime.NumGoroutine") = true := by exact rfl) (hle : args.length ≤ n := by simp) : Ct P f args σ Q := Ql hf hb hname hn hrs hle h
theorem zr (c : Cfg) {id : Nat} {ops ops' : List Oper} {y : Code} {Q : Exit → St → Prop} {st : St} (h : ∀ (all : List Oper) (K : St → Prop), (∀ s, fW P y Q s → K s) → kD P c all ops' st K) (he : ops.map kS = ops' := by simp only [iL, jJ] <;> rfl) : fW P (.seq (.region id ops.toArray false) y) Q st :=
 aD (lA he fun all _ K hK => h all K fun s hs => hK s (aB hs))
theorem lH (c : Cfg) {id : Nat} {ops ops' : List Oper} {y : Code} {Q : Exit → St → Prop} {st : St} (h : ∀ (all : List Oper), (∀ j, aS all j = aS ops j) → ∀ (K : St → Prop), (∀ s, fW P y Q s → K s) → kD P c all ops' st K) (he : ops.map kS = ops' := by simp only [iL, jJ] <;> rfl) : fW P (.seq (.region id ops.toArray false) y) Q st :=
 aD (lA he fun all ha K hK => h all ha K fun s hs => hK s (aB hs))
theorem zt (c : Cfg) {id : Nat} {ops ops' : List Oper} {Q : Exit → St → Prop} {st : St} (h : ∀ (all : List Oper) (K : St → Prop), (∀ s, Q .normal s → K s) → kD P c all ops' st K) (he : ops.map kS = ops' := by simp only [iL, jJ] <;> rfl) : fW P (.region id ops.toArray false) Q st :=
 lA he fun all _ K hK => h all K hK
theorem ztg (c : Cfg) {id : Nat} {ops ops' : List Oper} {Q : Exit → St → Prop} {st : St} (h : ∀ (all : List Oper), (∀ j, aS all j = aS ops j) → ∀ (K : St → Prop), (∀ s, Q .normal s → K s) → kD P c all ops' st K) (he : ops.map kS = ops' := by simp only [iL, jJ] <;> rfl) : fW P (.region id ops.toArray false) Q st :=
 lA he fun all ha K hK => h all ha K hK
theorem bC {id : Nat} {ops ops' : List Oper} {y : Code} {Q : Exit → St → Prop} {st : St} (h : ∀ (all : List Oper) (K : St → Prop), (∀ s, fW P y Q s → K s) → kD P ⟨[], [], [], [], []⟩ all ops' st K) (he : ops.map kS = ops' := by simp only [iL, jJ] <;> rfl) : fW P (.seq (.region id ops.toArray false) y) Q st := zr _ h he
theorem vS {id : Nat} {ops ops' : List Oper} {Q : Exit → St → Prop} {st : St} (h : ∀ (all : List Oper) (K : St → Prop), (∀ s, Q .normal s → K s) → kD P ⟨[], [], [], [], []⟩ all ops' st K) (he : ops.map kS = ops' := by simp only [iL, jJ] <;> rfl) : fW P (.region id ops.toArray false) Q st := zt _ h he
theorem zd (c : Cfg) (ks : List DK) {id : Nat} {ops ops' : List Oper} {y : Code} {Q : Exit → St → Prop} {st : St} (h : ∀ (all : List Oper), (∀ j, aS all j = aS ops j) → ∀ (K : St → Prop), (∀ s, fW P y Q s → K s) → fJ P c all ops' ks st K)
  (he : ops.map kS = ops' := by simp only [iL, jJ] <;> rfl) (hm : P.follows .mixedOrders = true := by kernel_rfl) (hok : vW c ops ks = true := by kernel_rfl) : fW P (.seq (.region id ops.toArray true) y) Q st :=
 aD (xT ks hm hok he fun all ha K hK => h all ha K fun s hs => hK s (aB hs))
theorem ze (c : Cfg) (ks : List DK) {id : Nat} {ops ops' : List Oper} {Q : Exit → St → Prop} {st : St} (h : ∀ (all : List Oper), (∀ j, aS all j = aS ops j) → ∀ (K : St → Prop), (∀ s, Q .normal s → K s) → fJ P c all ops' ks st K)
  (he : ops.map kS = ops' := by simp only [iL, jJ] <;> rfl) (hm : P.follows .mixedOrders = true := by kernel_rfl) (hok : vW c ops ks = true := by kernel_rfl) : fW P (.region id ops.toArray true) Q st :=
 xT ks hm hok he fun all ha K hK => h all ha K hK
theorem zk (K : List Nat) {l2 : List (Nat × Slot)} {c : Code} {n : Nat} {l : List (Nat × Slot)} {loc obj : List (List D)} {Q : Exit → St → Prop} (h : fW P c Q (St.mk' n l2 loc obj)) (hl : qZ K l = l2 := by simp only [La, vM, yS, yH, Zg, Zi, Nat.reduceBEq] <;> rfl) : fW P c Q (St.mk' n l loc obj) := Pg K hl h
theorem zg {c : Cfg} {all r : List Oper} {d : Option Tmp} {op : Op} {ty : TypeId} {pos : String} {after : Array Edge} {j t : Nat} {b want : Bool} {st : St} {K : St → Prop} (hg : aS all j = some t) (h1 : ∀ K' : St → Prop, (∀ s, kD P c all r s K → K' s) → Eh d st ∧ eH P c d op st K')
  (hs : st.env t = .d (.v (.bool b)) := by simp <;> rfl) (hb : b = want := by exact rfl) : kD P c all (⟨d, op, ty, pos, after, some (j, want)⟩ :: r) st K := aB0 hg hs hb h1
theorem Vg {c : Cfg} {all r : List Oper} {d : Option Tmp} {op : Op} {ty : TypeId} {pos : String} {after : Array Edge} {j t : Nat} {b want : Bool} {k : DK} {ks : List DK} {st : St} {K : St → Prop} (hg : aS all j = some t) (h1 : ∀ K' : St → Prop, (∀ s, fJ P c all r ks s K → K' s) → Eh d st ∧ oW P c d op k st K')
  (hs : st.env t = .d (.v (.bool b)) := by simp <;> rfl) (hb : b = want := by exact rfl) : fJ P c all (⟨d, op, ty, pos, after, some (j, want)⟩ :: r) (k :: ks) st K := Ws hg hs hb h1
theorem zi {t : Nat} {a b : Code} {s : Slot} {n : Nat} {l : List (Nat × Slot)} {loc obj : List (List D)} {Q : Exit → St → Prop} (h : pY s.toD (fW P a Q (St.mk' n ((t, .d (.bool true)) :: l) loc obj)) (fW P b Q (St.mk' n ((t, .d (.bool false)) :: l) loc obj))) (hs : cX l t = s := by simp <;> rfl) : fW P (.cond (.tmp t) a b) Q (St.mk' n l loc obj) := Vl hs h
theorem cO {f : FuncId} {args args' : List D} {σ y : List (List D)} {x : D} {Q : D → List (List D) → Prop} (h : Ct P f args σ (fun r τ => r = x ∧ τ = y)) (k : Q x y) (hl : fM args' args := by first | exact cL rfl | (refine cL ?_; simp; done) | (refine cL ?_; simp; rfl) | (simp [fM, mZ]; done)) : Ct P f args' σ Q :=
 (h.of_le hl rfl).mono fun r τ ⟨h1, h2⟩ => by rw [h1, h2]; exact k
theorem Vi {f : FuncId} {args args' : List D} {σ : List (List D)} {Q Q' : D → List (List D) → Prop} (h : Ct P f args σ Q) (k : ∀ r τ, Q r τ → Q' r τ) (hl : fM args' args := by first | exact cL rfl | (refine cL ?_; simp; done) | (refine cL ?_; simp; rfl) | (simp [fM, mZ]; done)) : Ct P f args' σ Q' :=
 (h.of_le hl rfl).mono k
theorem Js {f : FuncId} {args args' : List D} {r : D} {k : D → Prop} (h : ∀ σ, Ct P f args σ (fun r' τ => r' = r ∧ τ = σ)) (hk : k r) (hl : fM args' args := by first | exact cL rfl | (refine cL ?_; simp; done) | (refine cL ?_; simp; rfl) | (simp [fM, mZ]; done)) : ∃ r, (∀ σ, Ct P f args' σ fun r' σ' => r' = r ∧ σ' = σ) ∧ k r :=
 ⟨r, fun σ => (h σ).of_le hl rfl, hk⟩
theorem Ww {f : FuncId} {args args' : List D} {σ : List (List D)} {r : D} {k : D → Prop} (h : Ct P f args σ (fun r' τ => r' = r ∧ τ = σ)) (hk : k r) (hl : fM args' args := by first | exact cL rfl | (refine cL ?_; simp; done) | (refine cL ?_; simp; rfl) | (simp [fM, mZ]; done)) : ∃ r, (Ct P f args' σ fun r' σ' => r' = r ∧ σ' = σ) ∧ k r :=
 ⟨r, h.of_le hl rfl, hk⟩
theorem zdd {f : FuncId} {args args' : List D} {σ σ0 : List (List D)} {r : D} {k : D → List (List D) → Prop} (h : Ct P f args σ (fun r' τ => r' = r ∧ τ = σ0)) (hk : k r σ0) (hl : fM args' args := by first | exact cL rfl | (refine cL ?_; simp; done) | (refine cL ?_; simp; rfl) | (simp [fM, mZ]; done)) : ∃ r σ0, (Ct P f args' σ fun r' σ' => r' = r ∧ σ' = σ0) ∧ k r σ0 :=
 ⟨r, σ0, h.of_le hl rfl, hk⟩
end
end Go.Vm

