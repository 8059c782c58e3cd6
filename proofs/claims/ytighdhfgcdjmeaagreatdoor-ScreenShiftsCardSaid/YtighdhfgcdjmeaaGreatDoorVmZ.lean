import Derived.Test.YtighdhfgcdjmeaaGreatDoorVmX10
namespace Go.Vm
open Go
set_option linter.all false
section
variable {P : Program}
theorem zf {f : FuncId} {fn : Func} {cd : Code} {args : List D} {σ : List (List D)} {Q : D → List (List D) → Prop} {n : Nat} {rs : List ResultVar} (hf : P.funcs[f]? = some fn) (hn : fn.ntmps = n) (hrs : fn.results = rs.toArray) (h : fH P cd (aS P rs Q) (St.mk' n (aQ 0 args) [] σ))
  (hb : fn.body = some cd := by exact rfl) (hname : (fn.name != "runtime.NumGoroutine") = true := by exact rfl) (hle : args.length ≤ n := by simp) : Ct P f args σ Q := Jh hf hb hname hn hrs hle h
theorem zr (c : Cfg) {id : Nat} {ops ops' : List Oper} {y : Code} {Q : Exit → St → Prop} {st : St} (h : ∀ (all : List Oper) (K : St → Prop), (∀ s, fH P y Q s → K s) → iL P c all ops' st K) (he : ops.map iB = ops' := by simp only [eY, fY] <;> rfl) : fH P (.seq (.region id ops.toArray false) y) Q st :=
 aE (kV he fun all _ K hK => h all K fun s hs => hK s (aC hs))
theorem Du (c : Cfg) {id : Nat} {ops ops' : List Oper} {y : Code} {Q : Exit → St → Prop} {st : St} (h : ∀ (all : List Oper), (∀ j, bA all j = bA ops j) → ∀ (K : St → Prop), (∀ s, fH P y Q s → K s) → iL P c all ops' st K) (he : ops.map iB = ops' := by simp only [eY, fY] <;> rfl) : fH P (.seq (.region id ops.toArray false) y) Q st :=
 aE (kV he fun all ha K hK => h all ha K fun s hs => hK s (aC hs))
theorem zt (c : Cfg) {id : Nat} {ops ops' : List Oper} {Q : Exit → St → Prop} {st : St} (h : ∀ (all : List Oper) (K : St → Prop), (∀ s, Q .normal s → K s) → iL P c all ops' st K) (he : ops.map iB = ops' := by simp only [eY, fY] <;> rfl) : fH P (.region id ops.toArray false) Q st :=
 kV he fun all _ K hK => h all K hK
theorem bV {id : Nat} {ops ops' : List Oper} {y : Code} {Q : Exit → St → Prop} {st : St} (h : ∀ (all : List Oper) (K : St → Prop), (∀ s, fH P y Q s → K s) → iL P ⟨[], [], [], [], []⟩ all ops' st K) (he : ops.map iB = ops' := by simp only [eY, fY] <;> rfl) : fH P (.seq (.region id ops.toArray false) y) Q st := zr _ h he
theorem Fe {id : Nat} {ops ops' : List Oper} {Q : Exit → St → Prop} {st : St} (h : ∀ (all : List Oper) (K : St → Prop), (∀ s, Q .normal s → K s) → iL P ⟨[], [], [], [], []⟩ all ops' st K) (he : ops.map iB = ops' := by simp only [eY, fY] <;> rfl) : fH P (.region id ops.toArray false) Q st := zt _ h he
theorem zd (c : Cfg) (ks : List DK) {id : Nat} {ops ops' : List Oper} {y : Code} {Q : Exit → St → Prop} {st : St} (h : ∀ (all : List Oper), (∀ j, bA all j = bA ops j) → ∀ (K : St → Prop), (∀ s, fH P y Q s → K s) → eF P c all ops' ks st K)
  (he : ops.map iB = ops' := by simp only [eY, fY] <;> rfl) (hm : P.follows .mixedOrders = true := by kernel_rfl) (hok : sT c ops ks = true := by kernel_rfl) : fH P (.seq (.region id ops.toArray true) y) Q st :=
 aE (uP ks hm hok he fun all ha K hK => h all ha K fun s hs => hK s (aC hs))
theorem ze (c : Cfg) (ks : List DK) {id : Nat} {ops ops' : List Oper} {Q : Exit → St → Prop} {st : St} (h : ∀ (all : List Oper), (∀ j, bA all j = bA ops j) → ∀ (K : St → Prop), (∀ s, Q .normal s → K s) → eF P c all ops' ks st K)
  (he : ops.map iB = ops' := by simp only [eY, fY] <;> rfl) (hm : P.follows .mixedOrders = true := by kernel_rfl) (hok : sT c ops ks = true := by kernel_rfl) : fH P (.region id ops.toArray true) Q st :=
 uP ks hm hok he fun all ha K hK => h all ha K hK
theorem Gb (l : List Oper) : bC [] l = [] := rfl
theorem Bv {i : Nat} {π : List Nat} {l : List Oper} {o : Oper} (h : l[i]? = some o) : bC (i :: π) l = o :: bC π l := by simp [bC, h]
theorem zeN (c : Cfg) (π : List Nat) (j : Nat) (ks : List DK) {id : Nat} {ops ops' : List Oper} {Q : Exit → St → Prop} {st : St} (h : ∀ (all : List Oper), (∀ j, bA all j = bA ops j) → ∀ (K : St → Prop), (∀ s, Q .normal s → K s) → eF P c all ops' ks st K)
  (he : (bC π ops).map iB = ops' := by (repeat rw [Bv rfl]); simp only [Gb, eY, fY] <;> rfl) (hm : P.follows .mixedOrders = true := by kernel_rfl) (hok : wP c ops π j ks = true := by kernel_rfl) : fH P (.region id ops.toArray true) Q st :=
 Hj π j ks hm hok fun K hK => by
  have := h ops (fun _ => rfl) K hK
  rwa [← he, lO] at this
theorem zk (K : List Nat) {l2 : List (Nat × Slot)} {c : Code} {n : Nat} {l : List (Nat × Slot)} {loc obj : List (List D)} {Q : Exit → St → Prop} (h : fH P c Q (St.mk' n l2 loc obj)) (hl : nJ K l = l2 := by simp only [Fm, tW, vO, vT, Rx, Rl, Nat.reduceBEq] <;> rfl) : fH P c Q (St.mk' n l loc obj) := Oe K hl h
theorem zg {c : Cfg} {all r : List Oper} {d : Option Tmp} {op : Op} {ty : TypeId} {pos : String} {after : Array Edge} {j t : Nat} {b want : Bool} {st : St} {K : St → Prop} (hg : bA all j = some t) (h1 : ∀ K' : St → Prop, (∀ s, iL P c all r s K → K' s) → Cl d st ∧ cZ P c d op st K')
  (hs : st.env t = .d (.v (.bool b)) := by simp <;> rfl) (hb : b = want := by exact rfl) : iL P c all (⟨d, op, ty, pos, after, some (j, want)⟩ :: r) st K := Ud hg hs hb h1
theorem zi {t : Nat} {a b : Code} {s : Slot} {n : Nat} {l : List (Nat × Slot)} {loc obj : List (List D)} {Q : Exit → St → Prop} (h : nC s.toD (fH P a Q (St.mk' n ((t, .d (.bool true)) :: l) loc obj)) (fH P b Q (St.mk' n ((t, .d (.bool false)) :: l) loc obj))) (hs : bT l t = s := by simp <;> rfl) : fH P (.cond (.tmp t) a b) Q (St.mk' n l loc obj) := Pq hs h
theorem dW {f : FuncId} {args args' : List D} {σ y : List (List D)} {x : D} {Q : D → List (List D) → Prop} (h : Ct P f args σ (fun r τ => r = x ∧ τ = y)) (k : Q x y) (hl : fI args' args := by first | exact cV rfl | (refine cV ?_; simp; done) | (refine cV ?_; simp; rfl) | (simp [fI, sF]; done)) : Ct P f args' σ Q :=
 (h.of_le hl rfl).mono fun r τ ⟨h1, h2⟩ => by rw [h1, h2]; exact k
theorem Vd {f : FuncId} {args args' : List D} {σ : List (List D)} {Q Q' : D → List (List D) → Prop} (h : Ct P f args σ Q) (k : ∀ r τ, Q r τ → Q' r τ) (hl : fI args' args := by first | exact cV rfl | (refine cV ?_; simp; done) | (refine cV ?_; simp; rfl) | (simp [fI, sF]; done)) : Ct P f args' σ Q' :=
 (h.of_le hl rfl).mono k
theorem nG {f : FuncId} {args args' : List D} {r : D} {k : D → Prop} (h : ∀ σ, Ct P f args σ (fun r' τ => r' = r ∧ τ = σ)) (hk : k r) (hl : fI args' args := by first | exact cV rfl | (refine cV ?_; simp; done) | (refine cV ?_; simp; rfl) | (simp [fI, sF]; done)) : ∃ r, (∀ σ, Ct P f args' σ fun r' σ' => r' = r ∧ σ' = σ) ∧ k r :=
 ⟨r, fun σ => (h σ).of_le hl rfl, hk⟩
theorem zdd {f : FuncId} {args args' : List D} {σ σ0 : List (List D)} {r : D} {k : D → List (List D) → Prop} (h : Ct P f args σ (fun r' τ => r' = r ∧ τ = σ0)) (hk : k r σ0) (hl : fI args' args := by first | exact cV rfl | (refine cV ?_; simp; done) | (refine cV ?_; simp; rfl) | (simp [fI, sF]; done)) : ∃ r σ0, (Ct P f args' σ fun r' σ' => r' = r ∧ σ' = σ0) ∧ k r σ0 :=
 ⟨r, σ0, h.of_le hl rfl, hk⟩
theorem zdn {f : FuncId} {args args' : List D} {σ : List (List D)} {Q : D → List (List D) → Prop} {k : D → List (List D) → Prop} (h : Ct P f args σ Q) (hx : ∃ r τ, Q r τ) (hk : ∀ r τ, Q r τ → k r τ) (hl : fI args' args := by first | exact cV rfl | (refine cV ?_; simp; done) | (refine cV ?_; simp; rfl) | (simp [fI, sF]; done)) : ∃ Q, (Ct P f args' σ Q ∧ ∃ r τ, Q r τ) ∧ ∀ r τ, Q r τ → k r τ :=
 ⟨Q, ⟨h.of_le hl rfl, hx⟩, hk⟩
end
end Go.Vm

