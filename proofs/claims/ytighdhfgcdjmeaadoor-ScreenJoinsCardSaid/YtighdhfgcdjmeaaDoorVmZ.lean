import Derived.Test.YtighdhfgcdjmeaaDoorVmX10
namespace Go.Vm
open Go
set_option linter.all false
section
variable {P : Program}
theorem zf {f : FuncId} {fn : Func} {cd : Code} {args : List D} {σ : List (List D)} {Q : D → List (List D) → Prop} {n : Nat} {rs : List ResultVar} (hf : P.funcs[f]? = some fn) (hn : fn.ntmps = n) (hrs : fn.results = rs.toArray) (h : fL P cd (bE P rs Q) (St.mk' n (aX 0 args) [] σ))
  (hb : fn.body = some cd := by exact rfl) (hname : (fn.name != "runtime.NumGoroutine") = true := by exact rfl) (hle : args.length ≤ n := by simp) : Ct P f args σ Q := Is hf hb hname hn hrs hle h
theorem zr (c : Cfg) {id : Nat} {ops ops' : List Oper} {y : Code} {Q : Exit → St → Prop} {st : St} (h : ∀ (all : List Oper) (K : St → Prop), (∀ s, fL P y Q s → K s) → gU P c all ops' st K) (he : ops.map gL = ops' := by simp only [eG, fG] <;> rfl) : fL P (.seq (.region id ops.toArray false) y) Q st :=
 aG (kB he fun all _ K hK => h all K fun s hs => hK s (aC hs))
theorem Iz (c : Cfg) {id : Nat} {ops ops' : List Oper} {y : Code} {Q : Exit → St → Prop} {st : St} (h : ∀ (all : List Oper), (∀ j, aT all j = aT ops j) → ∀ (K : St → Prop), (∀ s, fL P y Q s → K s) → gU P c all ops' st K) (he : ops.map gL = ops' := by simp only [eG, fG] <;> rfl) : fL P (.seq (.region id ops.toArray false) y) Q st :=
 aG (kB he fun all ha K hK => h all ha K fun s hs => hK s (aC hs))
theorem zt (c : Cfg) {id : Nat} {ops ops' : List Oper} {Q : Exit → St → Prop} {st : St} (h : ∀ (all : List Oper) (K : St → Prop), (∀ s, Q .normal s → K s) → gU P c all ops' st K) (he : ops.map gL = ops' := by simp only [eG, fG] <;> rfl) : fL P (.region id ops.toArray false) Q st :=
 kB he fun all _ K hK => h all K hK
theorem cN {id : Nat} {ops ops' : List Oper} {y : Code} {Q : Exit → St → Prop} {st : St} (h : ∀ (all : List Oper) (K : St → Prop), (∀ s, fL P y Q s → K s) → gU P ⟨[], [], [], [], []⟩ all ops' st K) (he : ops.map gL = ops' := by simp only [eG, fG] <;> rfl) : fL P (.seq (.region id ops.toArray false) y) Q st := zr _ h he
theorem Hb {id : Nat} {ops ops' : List Oper} {Q : Exit → St → Prop} {st : St} (h : ∀ (all : List Oper) (K : St → Prop), (∀ s, Q .normal s → K s) → gU P ⟨[], [], [], [], []⟩ all ops' st K) (he : ops.map gL = ops' := by simp only [eG, fG] <;> rfl) : fL P (.region id ops.toArray false) Q st := zt _ h he
theorem zd (c : Cfg) (ks : List DK) {id : Nat} {ops ops' : List Oper} {y : Code} {Q : Exit → St → Prop} {st : St} (h : ∀ (all : List Oper), (∀ j, aT all j = aT ops j) → ∀ (K : St → Prop), (∀ s, fL P y Q s → K s) → dX P c all ops' ks st K)
  (he : ops.map gL = ops' := by simp only [eG, fG] <;> rfl) (hm : P.follows .mixedOrders = true := by kernel_rfl) (hok : pX c ops ks = true := by kernel_rfl) : fL P (.seq (.region id ops.toArray true) y) Q st :=
 aG (sX ks hm hok he fun all ha K hK => h all ha K fun s hs => hK s (aC hs))
theorem ze (c : Cfg) (ks : List DK) {id : Nat} {ops ops' : List Oper} {Q : Exit → St → Prop} {st : St} (h : ∀ (all : List Oper), (∀ j, aT all j = aT ops j) → ∀ (K : St → Prop), (∀ s, Q .normal s → K s) → dX P c all ops' ks st K)
  (he : ops.map gL = ops' := by simp only [eG, fG] <;> rfl) (hm : P.follows .mixedOrders = true := by kernel_rfl) (hok : pX c ops ks = true := by kernel_rfl) : fL P (.region id ops.toArray true) Q st :=
 sX ks hm hok he fun all ha K hK => h all ha K hK
theorem Dr (l : List Oper) : aR [] l = [] := rfl
theorem yF {i : Nat} {π : List Nat} {l : List Oper} {o : Oper} (h : l[i]? = some o) : aR (i :: π) l = o :: aR π l := by simp [aR, h]
theorem Vt (c : Cfg) (π : List Nat) (j : Nat) (ks : List DK) {id : Nat} {ops ops' : List Oper} {Q : Exit → St → Prop} {st : St} (h : ∀ (all : List Oper), (∀ j, aT all j = aT ops j) → ∀ (K : St → Prop), (∀ s, Q .normal s → K s) → dX P c all ops' ks st K)
  (he : (aR π ops).map gL = ops' := by (repeat rw [yF rfl]); simp only [Dr, eG, fG] <;> rfl) (hm : P.follows .mixedOrders = true := by kernel_rfl) (hok : tI c ops π j ks = true := by kernel_rfl) : fL P (.region id ops.toArray true) Q st :=
 Bo π j ks hm hok fun K hK => by
  have := h ops (fun _ => rfl) K hK
  rwa [← he, kJ] at this
theorem zk (K : List Nat) {l2 : List (Nat × Slot)} {c : Code} {n : Nat} {l : List (Nat × Slot)} {loc obj : List (List D)} {Q : Exit → St → Prop} (h : fL P c Q (St.mk' n l2 loc obj)) (hl : mQ K l = l2 := by simp only [Ch, qR, sY, sM, Lg, Ld, Nat.reduceBEq] <;> rfl) : fL P c Q (St.mk' n l loc obj) := Gx K hl h
theorem zg {c : Cfg} {all r : List Oper} {d : Option Tmp} {op : Op} {ty : TypeId} {pos : String} {after : Array Edge} {j t : Nat} {b want : Bool} {st : St} {K : St → Prop} (hg : aT all j = some t) (h1 : ∀ K' : St → Prop, (∀ s, gU P c all r s K → K' s) → Aa d st ∧ cG P c d op st K')
  (hs : st.env t = .d (.v (.bool b)) := by simp <;> rfl) (hb : b = want := by exact rfl) : gU P c all (⟨d, op, ty, pos, after, some (j, want)⟩ :: r) st K := Ll hg hs hb h1
theorem zi {t : Nat} {a b : Code} {s : Slot} {n : Nat} {l : List (Nat × Slot)} {loc obj : List (List D)} {Q : Exit → St → Prop} (h : qU s.toD (fL P a Q (St.mk' n ((t, .d (.bool true)) :: l) loc obj)) (fL P b Q (St.mk' n ((t, .d (.bool false)) :: l) loc obj))) (hs : bH l t = s := by simp <;> rfl) : fL P (.cond (.tmp t) a b) Q (St.mk' n l loc obj) := Jr hs h
theorem fN {f : FuncId} {args args' : List D} {σ y : List (List D)} {x : D} {Q : D → List (List D) → Prop} (h : Ct P f args σ (fun r τ => r = x ∧ τ = y)) (k : Q x y) (hl : fP args' args := by first | exact dD rfl | (refine dD ?_; simp; done) | (refine dD ?_; simp; rfl) | (simp [fP, sU]; done)) : Ct P f args' σ Q :=
 (h.of_le hl rfl).mono fun r τ ⟨h1, h2⟩ => by rw [h1, h2]; exact k
theorem Yf {f : FuncId} {args args' : List D} {r : D} {k : D → Prop} (h : ∀ σ, Ct P f args σ (fun r' τ => r' = r ∧ τ = σ)) (hk : k r) (hl : fP args' args := by first | exact dD rfl | (refine dD ?_; simp; done) | (refine dD ?_; simp; rfl) | (simp [fP, sU]; done)) : ∃ r, (∀ σ, Ct P f args' σ fun r' σ' => r' = r ∧ σ' = σ) ∧ k r :=
 ⟨r, fun σ => (h σ).of_le hl rfl, hk⟩
theorem Uw {f : FuncId} {args args' : List D} {σ σ0 : List (List D)} {r : D} {k : D → List (List D) → Prop} (h : Ct P f args σ (fun r' τ => r' = r ∧ τ = σ0)) (hk : k r σ0) (hl : fP args' args := by first | exact dD rfl | (refine dD ?_; simp; done) | (refine dD ?_; simp; rfl) | (simp [fP, sU]; done)) : ∃ r σ0, (Ct P f args' σ fun r' σ' => r' = r ∧ σ' = σ0) ∧ k r σ0 :=
 ⟨r, σ0, h.of_le hl rfl, hk⟩
theorem Yp {f : FuncId} {args args' : List D} {σ : List (List D)} {Q : D → List (List D) → Prop} {k : D → List (List D) → Prop} (h : Ct P f args σ Q) (hx : ∃ r τ, Q r τ) (hk : ∀ r τ, Q r τ → k r τ) (hl : fP args' args := by first | exact dD rfl | (refine dD ?_; simp; done) | (refine dD ?_; simp; rfl) | (simp [fP, sU]; done)) : ∃ Q, (Ct P f args' σ Q ∧ ∃ r τ, Q r τ) ∧ ∀ r τ, Q r τ → k r τ :=
 ⟨Q, ⟨h.of_le hl rfl, hx⟩, hk⟩
end
end Go.Vm

