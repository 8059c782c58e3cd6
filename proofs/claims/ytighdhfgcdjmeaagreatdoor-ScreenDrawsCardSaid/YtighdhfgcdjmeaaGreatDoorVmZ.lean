import Derived.Test.YtighdhfgcdjmeaaGreatDoorVmX10
namespace Go.Vm
open Go
set_option linter.all false
section
variable {P : Program}
theorem zf {f : FuncId} {fn : Func} {cd : Code} {args : List D} {σ : List (List D)} {Q : D → List (List D) → Prop} {n : Nat} {rs : List ResultVar} (hf : P.funcs[f]? = some fn) (hn : fn.ntmps = n) (hrs : fn.results = rs.toArray) (h : fL P cd (aQ P rs Q) (St.mk' n (aU 0 args) [] σ))
  (hb : fn.body = some cd := by exact rfl) (hname : (fn.name != "runtime.NumGoroutine") = true := by exact rfl) (hle : args.length ≤ n := by simp) : Ct P f args σ Q := Ik hf hb hname hn hrs hle h
theorem zr (c : Cfg) {id : Nat} {ops ops' : List Oper} {y : Code} {Q : Exit → St → Prop} {st : St} (h : ∀ (all : List Oper) (K : St → Prop), (∀ s, fL P y Q s → K s) → iO P c all ops' st K) (he : ops.map iE = ops' := by simp only [fB, fT] <;> rfl) : fL P (.seq (.region id ops.toArray false) y) Q st :=
 aE (lH he fun all _ K hK => h all K fun s hs => hK s (aB hs))
theorem oA (c : Cfg) {id : Nat} {ops ops' : List Oper} {y : Code} {Q : Exit → St → Prop} {st : St} (h : ∀ (all : List Oper), (∀ j, aL all j = aL ops j) → ∀ (K : St → Prop), (∀ s, fL P y Q s → K s) → iO P c all ops' st K) (he : ops.map iE = ops' := by simp only [fB, fT] <;> rfl) : fL P (.seq (.region id ops.toArray false) y) Q st :=
 aE (lH he fun all ha K hK => h all ha K fun s hs => hK s (aB hs))
theorem zt (c : Cfg) {id : Nat} {ops ops' : List Oper} {Q : Exit → St → Prop} {st : St} (h : ∀ (all : List Oper) (K : St → Prop), (∀ s, Q .normal s → K s) → iO P c all ops' st K) (he : ops.map iE = ops' := by simp only [fB, fT] <;> rfl) : fL P (.region id ops.toArray false) Q st :=
 lH he fun all _ K hK => h all K hK
theorem bP {id : Nat} {ops ops' : List Oper} {y : Code} {Q : Exit → St → Prop} {st : St} (h : ∀ (all : List Oper) (K : St → Prop), (∀ s, fL P y Q s → K s) → iO P ⟨[], [], [], [], []⟩ all ops' st K) (he : ops.map iE = ops' := by simp only [fB, fT] <;> rfl) : fL P (.seq (.region id ops.toArray false) y) Q st := zr _ h he
theorem mW {id : Nat} {ops ops' : List Oper} {Q : Exit → St → Prop} {st : St} (h : ∀ (all : List Oper) (K : St → Prop), (∀ s, Q .normal s → K s) → iO P ⟨[], [], [], [], []⟩ all ops' st K) (he : ops.map iE = ops' := by simp only [fB, fT] <;> rfl) : fL P (.region id ops.toArray false) Q st := zt _ h he
theorem zd (c : Cfg) (ks : List DK) {id : Nat} {ops ops' : List Oper} {y : Code} {Q : Exit → St → Prop} {st : St} (h : ∀ (all : List Oper), (∀ j, aL all j = aL ops j) → ∀ (K : St → Prop), (∀ s, fL P y Q s → K s) → eS P c all ops' ks st K)
  (he : ops.map iE = ops' := by simp only [fB, fT] <;> rfl) (hm : P.follows .mixedOrders = true := by kernel_rfl) (hok : rQ c ops ks = true := by kernel_rfl) : fL P (.seq (.region id ops.toArray true) y) Q st :=
 aE (uM ks hm hok he fun all ha K hK => h all ha K fun s hs => hK s (aB hs))
theorem ze (c : Cfg) (ks : List DK) {id : Nat} {ops ops' : List Oper} {Q : Exit → St → Prop} {st : St} (h : ∀ (all : List Oper), (∀ j, aL all j = aL ops j) → ∀ (K : St → Prop), (∀ s, Q .normal s → K s) → eS P c all ops' ks st K)
  (he : ops.map iE = ops' := by simp only [fB, fT] <;> rfl) (hm : P.follows .mixedOrders = true := by kernel_rfl) (hok : rQ c ops ks = true := by kernel_rfl) : fL P (.region id ops.toArray true) Q st :=
 uM ks hm hok he fun all ha K hK => h all ha K hK
theorem Gs (l : List Oper) : bH [] l = [] := rfl
theorem Bq {i : Nat} {π : List Nat} {l : List Oper} {o : Oper} (h : l[i]? = some o) : bH (i :: π) l = o :: bH π l := by simp [bH, h]
theorem zeN (c : Cfg) (π : List Nat) (j : Nat) (ks : List DK) {id : Nat} {ops ops' : List Oper} {Q : Exit → St → Prop} {st : St} (h : ∀ (all : List Oper), (∀ j, aL all j = aL ops j) → ∀ (K : St → Prop), (∀ s, Q .normal s → K s) → eS P c all ops' ks st K)
  (he : (bH π ops).map iE = ops' := by (repeat rw [Bq rfl]); simp only [Gs, fB, fT] <;> rfl) (hm : P.follows .mixedOrders = true := by kernel_rfl) (hok : xH c ops π j ks = true := by kernel_rfl) : fL P (.region id ops.toArray true) Q st :=
 Ig π j ks hm hok fun K hK => by
  have := h ops (fun _ => rfl) K hK
  rwa [← he, mA] at this
theorem zk (K : List Nat) {l2 : List (Nat × Slot)} {c : Code} {n : Nat} {l : List (Nat × Slot)} {loc obj : List (List D)} {Q : Exit → St → Prop} (h : fL P c Q (St.mk' n l2 loc obj)) (hl : nU K l = l2 := by simp only [He, tE, uL, uU, Qr, Qf, Nat.reduceBEq] <;> rfl) : fL P c Q (St.mk' n l loc obj) := Ln K hl h
theorem zg {c : Cfg} {all r : List Oper} {d : Option Tmp} {op : Op} {ty : TypeId} {pos : String} {after : Array Edge} {j t : Nat} {b want : Bool} {st : St} {K : St → Prop} (hg : aL all j = some t) (h1 : ∀ K' : St → Prop, (∀ s, iO P c all r s K → K' s) → Bz d st ∧ dB P c d op st K')
  (hs : st.env t = .d (.v (.bool b)) := by simp <;> rfl) (hb : b = want := by exact rfl) : iO P c all (⟨d, op, ty, pos, after, some (j, want)⟩ :: r) st K := Rm hg hs hb h1
theorem zi {t : Nat} {a b : Code} {s : Slot} {n : Nat} {l : List (Nat × Slot)} {loc obj : List (List D)} {Q : Exit → St → Prop} (h : rW s.toD (fL P a Q (St.mk' n ((t, .d (.bool true)) :: l) loc obj)) (fL P b Q (St.mk' n ((t, .d (.bool false)) :: l) loc obj))) (hs : bV l t = s := by simp <;> rfl) : fL P (.cond (.tmp t) a b) Q (St.mk' n l loc obj) := Oh hs h
theorem dO {f : FuncId} {args args' : List D} {σ y : List (List D)} {x : D} {Q : D → List (List D) → Prop} (h : Ct P f args σ (fun r τ => r = x ∧ τ = y)) (k : Q x y) (hl : fO args' args := by first | exact cZ rfl | (refine cZ ?_; simp; done) | (refine cZ ?_; simp; rfl) | (simp [fO, rT]; done)) : Ct P f args' σ Q :=
 (h.of_le hl rfl).mono fun r τ ⟨h1, h2⟩ => by rw [h1, h2]; exact k
theorem Tn {f : FuncId} {args args' : List D} {σ : List (List D)} {Q Q' : D → List (List D) → Prop} (h : Ct P f args σ Q) (k : ∀ r τ, Q r τ → Q' r τ) (hl : fO args' args := by first | exact cZ rfl | (refine cZ ?_; simp; done) | (refine cZ ?_; simp; rfl) | (simp [fO, rT]; done)) : Ct P f args' σ Q' :=
 (h.of_le hl rfl).mono k
theorem An {f : FuncId} {args args' : List D} {r : D} {k : D → Prop} (h : ∀ σ, Ct P f args σ (fun r' τ => r' = r ∧ τ = σ)) (hk : k r) (hl : fO args' args := by first | exact cZ rfl | (refine cZ ?_; simp; done) | (refine cZ ?_; simp; rfl) | (simp [fO, rT]; done)) : ∃ r, (∀ σ, Ct P f args' σ fun r' σ' => r' = r ∧ σ' = σ) ∧ k r :=
 ⟨r, fun σ => (h σ).of_le hl rfl, hk⟩
theorem zdd {f : FuncId} {args args' : List D} {σ σ0 : List (List D)} {r : D} {k : D → List (List D) → Prop} (h : Ct P f args σ (fun r' τ => r' = r ∧ τ = σ0)) (hk : k r σ0) (hl : fO args' args := by first | exact cZ rfl | (refine cZ ?_; simp; done) | (refine cZ ?_; simp; rfl) | (simp [fO, rT]; done)) : ∃ r σ0, (Ct P f args' σ fun r' σ' => r' = r ∧ σ' = σ0) ∧ k r σ0 :=
 ⟨r, σ0, h.of_le hl rfl, hk⟩
theorem zdn {f : FuncId} {args args' : List D} {σ : List (List D)} {Q : D → List (List D) → Prop} {k : D → List (List D) → Prop} (h : Ct P f args σ Q) (hx : ∃ r τ, Q r τ) (hk : ∀ r τ, Q r τ → k r τ) (hl : fO args' args := by first | exact cZ rfl | (refine cZ ?_; simp; done) | (refine cZ ?_; simp; rfl) | (simp [fO, rT]; done)) : ∃ Q, (Ct P f args' σ Q ∧ ∃ r τ, Q r τ) ∧ ∀ r τ, Q r τ → k r τ :=
 ⟨Q, ⟨h.of_le hl rfl, hx⟩, hk⟩
end
end Go.Vm

