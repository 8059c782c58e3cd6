import Derived.Test.YtpfmpeaekgdgnaaGreatVmX10
namespace Go.Vm
open Go
set_option linter.all false
section
variable {P : Program}
theorem zj {α : Type} {n : Nat} (F : α → List (Nat × Slot)) (G H : α → List (List D)) (p : α → Prop) {a b : Code} {Q : Exit → St → Prop} {st : St} (h1 : fK P a (Tu (fun x => St.mk' n (F x) (G x) (H x)) p Q) st) (h2 : ∀ x, p x → fK P b Q (St.mk' n (F x) (G x) (H x))) : fK P (.seq a b) Q st := Uv _ p h1 h2
theorem zf {f : FuncId} {fn : Func} {cd : Code} {args : List D} {σ : List (List D)} {Q : D → List (List D) → Prop} {n : Nat} {rs : List ResultVar} (hf : P.funcs[f]? = some fn) (hn : fn.ntmps = n) (hrs : fn.results = rs.toArray) (h : fK P cd (aM P rs Q) (St.mk' n (aQ 0 args) [] σ))
  (hb : fn.body = some cd := by exact rfl) (hname : (fn.name != "runtime.NumGoroutine") = true := by exact rfl) (hle : args.length ≤ n := by simp) : Ct P f args σ Q := Sr hf hb hname hn hrs hle h
theorem zr (c : Cfg) {id : Nat} {ops ops' : List Oper} {y : Code} {Q : Exit → St → Prop} {st : St} (h : ∀ (all : List Oper) (K : St → Prop), (∀ s, fK P y Q s → K s) → kL P c all ops' st K) (he : ops.map jW = ops' := by simp only [fN, gS] <;> rfl) : fK P (.seq (.region id ops.toArray false) y) Q st :=
 aD (lD he fun all _ K hK => h all K fun s hs => hK s (aB hs))
theorem lA (c : Cfg) {id : Nat} {ops ops' : List Oper} {y : Code} {Q : Exit → St → Prop} {st : St} (h : ∀ (all : List Oper), (∀ j, aR all j = aR ops j) → ∀ (K : St → Prop), (∀ s, fK P y Q s → K s) → kL P c all ops' st K) (he : ops.map jW = ops' := by simp only [fN, gS] <;> rfl) : fK P (.seq (.region id ops.toArray false) y) Q st :=
 aD (lD he fun all ha K hK => h all ha K fun s hs => hK s (aB hs))
theorem zt (c : Cfg) {id : Nat} {ops ops' : List Oper} {Q : Exit → St → Prop} {st : St} (h : ∀ (all : List Oper) (K : St → Prop), (∀ s, Q .normal s → K s) → kL P c all ops' st K) (he : ops.map jW = ops' := by simp only [fN, gS] <;> rfl) : fK P (.region id ops.toArray false) Q st :=
 lD he fun all _ K hK => h all K hK
theorem ztg (c : Cfg) {id : Nat} {ops ops' : List Oper} {Q : Exit → St → Prop} {st : St} (h : ∀ (all : List Oper), (∀ j, aR all j = aR ops j) → ∀ (K : St → Prop), (∀ s, Q .normal s → K s) → kL P c all ops' st K) (he : ops.map jW = ops' := by simp only [fN, gS] <;> rfl) : fK P (.region id ops.toArray false) Q st :=
 lD he fun all ha K hK => h all ha K hK
theorem aZ {id : Nat} {ops ops' : List Oper} {y : Code} {Q : Exit → St → Prop} {st : St} (h : ∀ (all : List Oper) (K : St → Prop), (∀ s, fK P y Q s → K s) → kL P ⟨[], [], [], [], []⟩ all ops' st K) (he : ops.map jW = ops' := by simp only [fN, gS] <;> rfl) : fK P (.seq (.region id ops.toArray false) y) Q st := zr _ h he
theorem uM {id : Nat} {ops ops' : List Oper} {Q : Exit → St → Prop} {st : St} (h : ∀ (all : List Oper) (K : St → Prop), (∀ s, Q .normal s → K s) → kL P ⟨[], [], [], [], []⟩ all ops' st K) (he : ops.map jW = ops' := by simp only [fN, gS] <;> rfl) : fK P (.region id ops.toArray false) Q st := zt _ h he
theorem zd (c : Cfg) (ks : List DK) {id : Nat} {ops ops' : List Oper} {y : Code} {Q : Exit → St → Prop} {st : St} (h : ∀ (all : List Oper), (∀ j, aR all j = aR ops j) → ∀ (K : St → Prop), (∀ s, fK P y Q s → K s) → fA P c all ops' ks st K)
  (he : ops.map jW = ops' := by simp only [fN, gS] <;> rfl) (hm : P.follows .mixedOrders = true := by kernel_rfl) (hok : wD c ops ks = true := by kernel_rfl) : fK P (.seq (.region id ops.toArray true) y) Q st :=
 aD (zB ks hm hok he fun all ha K hK => h all ha K fun s hs => hK s (aB hs))
theorem ze (c : Cfg) (ks : List DK) {id : Nat} {ops ops' : List Oper} {Q : Exit → St → Prop} {st : St} (h : ∀ (all : List Oper), (∀ j, aR all j = aR ops j) → ∀ (K : St → Prop), (∀ s, Q .normal s → K s) → fA P c all ops' ks st K)
  (he : ops.map jW = ops' := by simp only [fN, gS] <;> rfl) (hm : P.follows .mixedOrders = true := by kernel_rfl) (hok : wD c ops ks = true := by kernel_rfl) : fK P (.region id ops.toArray true) Q st :=
 zB ks hm hok he fun all ha K hK => h all ha K hK
theorem zT (l : List Oper) : bW [] l = [] := rfl
theorem wB {i : Nat} {π : List Nat} {l : List Oper} {o : Oper} (h : l[i]? = some o) : bW (i :: π) l = o :: bW π l := by simp [bW, h]
theorem zeN (c : Cfg) (π : List Nat) (j : Nat) (ks : List DK) {id : Nat} {ops ops' : List Oper} {Q : Exit → St → Prop} {st : St} (h : ∀ (all : List Oper), (∀ j, aR all j = aR ops j) → ∀ (K : St → Prop), (∀ s, Q .normal s → K s) → fA P c all ops' ks st K)
  (he : (bW π ops).map jW = ops' := by (repeat rw [wB rfl]); simp only [zT, fN, gS] <;> rfl) (hm : P.follows .mixedOrders = true := by kernel_rfl) (hok : vD c ops π j ks = true := by kernel_rfl) : fK P (.region id ops.toArray true) Q st :=
 Oy π j ks hm hok fun K hK => by
  have := h ops (fun _ => rfl) K hK
  rwa [← he, pE] at this
theorem zdN (c : Cfg) (π : List Nat) (j : Nat) (ks : List DK) {id : Nat} {ops ops' : List Oper} {y : Code} {Q : Exit → St → Prop} {st : St} (h : ∀ (all : List Oper), (∀ j, aR all j = aR ops j) → ∀ (K : St → Prop), (∀ s, fK P y Q s → K s) → fA P c all ops' ks st K)
  (he : (bW π ops).map jW = ops' := by (repeat rw [wB rfl]); simp only [zT, fN, gS] <;> rfl) (hm : P.follows .mixedOrders = true := by kernel_rfl) (hok : vD c ops π j ks = true := by kernel_rfl) : fK P (.seq (.region id ops.toArray true) y) Q st :=
 aD (zeN c π j ks (fun all ha K hK => h all ha K fun s hs => hK s (aB hs)) he hm hok)
theorem zk (K : List Nat) {l2 : List (Nat × Slot)} {c : Code} {n : Nat} {l : List (Nat × Slot)} {loc obj : List (List D)} {Q : Exit → St → Prop} (h : fK P c Q (St.mk' n l2 loc obj)) (hl : qZ K l = l2 := by simp only [Ov, xO, Ab, yV, aAn, aAu, Nat.reduceBEq] <;> rfl) : fK P c Q (St.mk' n l loc obj) := To K hl h
theorem zg {c : Cfg} {all r : List Oper} {d : Option Tmp} {op : Op} {ty : TypeId} {pos : String} {after : Array Edge} {j t : Nat} {b want : Bool} {st : St} {K : St → Prop} (hg : aR all j = some t) (h1 : ∀ K' : St → Prop, (∀ s, kL P c all r s K → K' s) → Dn d st ∧ eL P c d op st K')
  (hs : st.env t = .d (.v (.bool b)) := by simp <;> rfl) (hb : b = want := by exact rfl) : kL P c all (⟨d, op, ty, pos, after, some (j, want)⟩ :: r) st K := aBh hg hs hb h1
theorem Wk {c : Cfg} {all r : List Oper} {d : Option Tmp} {op : Op} {ty : TypeId} {pos : String} {after : Array Edge} {j t : Nat} {b want : Bool} {k : DK} {ks : List DK} {st : St} {K : St → Prop} (hg : aR all j = some t) (h1 : ∀ K' : St → Prop, (∀ s, fA P c all r ks s K → K' s) → Dn d st ∧ pJ P c d op k st K')
  (hs : st.env t = .d (.v (.bool b)) := by simp <;> rfl) (hb : b = want := by exact rfl) : fA P c all (⟨d, op, ty, pos, after, some (j, want)⟩ :: r) (k :: ks) st K := Zk hg hs hb h1
theorem zi {t : Nat} {a b : Code} {s : Slot} {n : Nat} {l : List (Nat × Slot)} {loc obj : List (List D)} {Q : Exit → St → Prop} (h : pX s.toD (fK P a Q (St.mk' n ((t, .d (.bool true)) :: l) loc obj)) (fK P b Q (St.mk' n ((t, .d (.bool false)) :: l) loc obj))) (hs : cX l t = s := by simp <;> rfl) : fK P (.cond (.tmp t) a b) Q (St.mk' n l loc obj) := Zf hs h
theorem cO {f : FuncId} {args args' : List D} {σ y : List (List D)} {x : D} {Q : D → List (List D) → Prop} (h : Ct P f args σ (fun r τ => r = x ∧ τ = y)) (k : Q x y) (hl : fM args' args := by first | exact cW rfl | (refine cW ?_; simp; done) | (refine cW ?_; simp; rfl) | (simp [fM, pU]; done)) : Ct P f args' σ Q :=
 (h.of_le hl rfl).mono fun r τ ⟨h1, h2⟩ => by rw [h1, h2]; exact k
theorem zcm {f : FuncId} {args args' : List D} {σ : List (List D)} {Q Q' : D → List (List D) → Prop} (h : Ct P f args σ Q) (k : ∀ r τ, Q r τ → Q' r τ) (hl : fM args' args := by first | exact cW rfl | (refine cW ?_; simp; done) | (refine cW ?_; simp; rfl) | (simp [fM, pU]; done)) : Ct P f args' σ Q' :=
 (h.of_le hl rfl).mono k
theorem Eu {f : FuncId} {args args' : List D} {r : D} {k : D → Prop} (h : ∀ σ, Ct P f args σ (fun r' τ => r' = r ∧ τ = σ)) (hk : k r) (hl : fM args' args := by first | exact cW rfl | (refine cW ?_; simp; done) | (refine cW ?_; simp; rfl) | (simp [fM, pU]; done)) : ∃ r, (∀ σ, Ct P f args' σ fun r' σ' => r' = r ∧ σ' = σ) ∧ k r :=
 ⟨r, fun σ => (h σ).of_le hl rfl, hk⟩
theorem Ys {f : FuncId} {args args' : List D} {σ : List (List D)} {r : D} {k : D → Prop} (h : Ct P f args σ (fun r' τ => r' = r ∧ τ = σ)) (hk : k r) (hl : fM args' args := by first | exact cW rfl | (refine cW ?_; simp; done) | (refine cW ?_; simp; rfl) | (simp [fM, pU]; done)) : ∃ r, (Ct P f args' σ fun r' σ' => r' = r ∧ σ' = σ) ∧ k r :=
 ⟨r, h.of_le hl rfl, hk⟩
theorem zdd {f : FuncId} {args args' : List D} {σ σ0 : List (List D)} {r : D} {k : D → List (List D) → Prop} (h : Ct P f args σ (fun r' τ => r' = r ∧ τ = σ0)) (hk : k r σ0) (hl : fM args' args := by first | exact cW rfl | (refine cW ?_; simp; done) | (refine cW ?_; simp; rfl) | (simp [fM, pU]; done)) : ∃ r σ0, (Ct P f args' σ fun r' σ' => r' = r ∧ σ' = σ0) ∧ k r σ0 :=
 ⟨r, σ0, h.of_le hl rfl, hk⟩
theorem zda {f : FuncId} {args args' : List D} {σ σ0 : List (List D)} {r : D} {F : List (List D) → List (List D)} {k : D → List (List D) → Prop} (J : List (List D)) (h : Ct P f args σ (fun r' τ => r' = r ∧ τ = σ0)) (hk : k r J) (hl : fM args' args := by first | exact cW rfl | (refine cW ?_; simp; done) | (refine cW ?_; simp; rfl) | (simp [fM, pU]; done)) (hJ : σ0 = F J := by simp) : ∃ r J, (Ct P f args' σ fun r' σ' => r' = r ∧ σ' = F J) ∧ k r J :=
 ⟨r, J, hJ ▸ h.of_le hl rfl, hk⟩
theorem zdn {f : FuncId} {args args' : List D} {σ : List (List D)} {Q : D → List (List D) → Prop} {k : D → List (List D) → Prop} (h : Ct P f args σ Q) (hx : ∃ r τ, Q r τ) (hk : ∀ r τ, Q r τ → k r τ) (hl : fM args' args := by first | exact cW rfl | (refine cW ?_; simp; done) | (refine cW ?_; simp; rfl) | (simp [fM, pU]; done)) : ∃ Q, (Ct P f args' σ Q ∧ ∃ r τ, Q r τ) ∧ ∀ r τ, Q r τ → k r τ :=
 ⟨Q, ⟨h.of_le hl rfl, hx⟩, hk⟩
end
end Go.Vm

