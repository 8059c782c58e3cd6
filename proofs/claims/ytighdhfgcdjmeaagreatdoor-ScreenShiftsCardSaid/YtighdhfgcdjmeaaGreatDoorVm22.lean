import Derived.Test.YtighdhfgcdjmeaaGreatDoorVm21
namespace Go.Vm
open Go
set_option linter.all false
section
variable {P : Program}
theorem aC {y : Code} {Q : Exit → St → Prop} {s : St} (h : fH P y Q s) : Ed P y Q .normal s := h
theorem bE {y : Code} {Q : Exit → St → Prop} {s : St} {i : Nat} (h : Q (.exit i) s) : Ed P y Q (.exit i) s := h
theorem bK {y : Code} {Q : Exit → St → Prop} {s : St} (h : Q .ret s) : Ed P y Q .ret s := h
theorem aN {i : Nat} {Q : Exit → St → Prop} {s : St} (h : Q .normal s) : pG i Q .normal s := h
theorem aY {i : Nat} {Q : Exit → St → Prop} {s : St} (h : Q .normal s) : pG i Q (.exit i) s := by simpa [pG] using h
theorem fR {i : Nat} {Q : Exit → St → Prop} {s : St} (h : Q .ret s) : pG i Q .ret s := h
theorem bG {α : Type} {S : α → St} {p : α → Prop} {m : α → Nat} {x : α} {Q : Exit → St → Prop} {s : St} {i : Nat} (h : Q (.exit i) s) : qI S p m x Q (.exit i) s := h
theorem oI {α : Type} {S : α → St} {p : α → Prop} {m : α → Nat} {x : α} {Q : Exit → St → Prop} {s : St} (h : Q .ret s) : qI S p m x Q .ret s := h
def nC (d : D) (A B : Prop) : Prop := match d with
 | .v (.bool t) => (t = true → A) ∧ (t = false → B)
 | _ => False
theorem aH {c : Cfg} {all r : List Oper} {d : Option Tmp} {op : Op} {ty : TypeId} {pos : String} {after : Array Edge} {st : St} {K : St → Prop} (h : ∀ K' : St → Prop, (∀ s, iL P c all r s K → K' s) → Cl d st ∧ cZ P c d op st K') : iL P c all (⟨d, op, ty, pos, after, none⟩ :: r) st K :=
 h _ fun _ h => h
theorem aB {c : Cfg} {all : List Oper} (n : Nat) {r : List Oper} {st : St} {K : St → Prop} (h : ∀ K' : St → Prop, (∀ s, iL P c all (r.drop n) s K → K' s) → iL P c all (r.take n) st K') : iL P c all r st K := by
 have go : ∀ (n : Nat) (r : List Oper) (st : St), iL P c all (r.take n) st (fun s => iL P c all (r.drop n) s K) → iL P c all r st K := by
  intro n;induction n with
  | zero => intro r st h; exact h
  | succ n ih =>
   intro r st h;cases r with
   | nil => exact h
   | cons o r =>
    simp only [List.take_succ_cons, List.drop_succ_cons] at h;unfold iL at h ⊢;split at h
    ·rename_i hg;have hd := h.1;refine ⟨hd, ?_⟩;exact mT (fun s hs => ih r s hs) h.2
    ·rename_i j want hg;split at h
     ·split at h
      ·exact ⟨fun hb => ⟨(h.1 hb).1, mT (fun s hs => ih r s hs) (h.1 hb).2⟩, fun hb => ⟨(h.2 hb).1, ih r _ (h.2 hb).2⟩⟩
      ·exact h.elim
     ·exact h.elim
 exact go n r st (h _ fun _ h => h)
theorem Wd {c : Cfg} {all r : List Oper} {d : Option Tmp} {op : Op} {ty : TypeId} {pos : String} {after : Array Edge} {j t : Nat} {b want : Bool} {st : St} {K : St → Prop} (hg : bA all j = some t) (hs : st.env t = .d (.v (.bool b)))
  (h1 : b = want → ∀ K' : St → Prop, (∀ s, iL P c all r s K → K' s) → Cl d st ∧ cZ P c d op st K') (h2 : b = !want → Cl d st ∧ iL P c all r (st.put d .und) K) : iL P c all (⟨d, op, ty, pos, after, some (j, want)⟩ :: r) st K := by
 rw [vX];simp only [hg, hs];exact ⟨fun hb => h1 hb _ fun _ h => h, h2⟩
theorem Ud {c : Cfg} {all r : List Oper} {d : Option Tmp} {op : Op} {ty : TypeId} {pos : String} {after : Array Edge} {j t : Nat} {b want : Bool} {st : St} {K : St → Prop} (hg : bA all j = some t) (hs : st.env t = .d (.v (.bool b))) (hb : b = want)
  (h1 : ∀ K' : St → Prop, (∀ s, iL P c all r s K → K' s) → Cl d st ∧ cZ P c d op st K') : iL P c all (⟨d, op, ty, pos, after, some (j, want)⟩ :: r) st K :=
 Wd hg hs (fun _ => h1) fun h => (by rw [hb] at h; cases want <;> cases h)
theorem tI {n t : Nat} {l : List (Nat × Slot)} {loc obj : List (List D)} {b : Bool} (hs : bT l t = .d (.v (.bool b))) : St.mk' n l loc obj = St.mk' n ((t, .d (.bool b)) :: l) loc obj := by
 unfold St.mk';congr 1;funext u;simp only [bT];split
 ·rename_i e; rw [e, hs]
 ·rfl
theorem cJ {c : Cfg} {all r : List Oper} {n : Nat} {l : List (Nat × Slot)} {loc obj : List (List D)} {K : St → Prop} (t : Nat) {s : Slot} (hs : bT l t = s)
  (h : nC s.toD (iL P c all r (St.mk' n ((t, .d (.bool true)) :: l) loc obj) K) (iL P c all r (St.mk' n ((t, .d (.bool false)) :: l) loc obj) K)) : iL P c all r (St.mk' n l loc obj) K := by
 unfold nC at h;split at h
 ·rename_i b hb;have hs' : bT l t = .d (.v (.bool b)) := by
   rw [hs];cases s with
   | d d => simp only [Slot.toD] at hb; rw [hb]
   | lref n o => simp [Slot.toD] at hb
  rw [tI hs'];cases b
  ·exact h.2 rfl
  ·exact h.1 rfl
 ·exact h.elim
def So (P : Program) (c : Cfg) (all r : List Oper) (K : St → Prop) : St → Prop := fun st => iL P c all r st K
theorem Nw {c : Cfg} {all r : List Oper} {K : St → Prop} {st : St} : So P c all r K st = iL P c all r st K := rfl
theorem Pt {c : Cfg} {all r : List Oper} {d : Option Tmp} {op : Op} {ty : TypeId} {pos : String} {after : Array Edge} {st : St} {K : St → Prop} : iL P c all (⟨d, op, ty, pos, after, none⟩ :: r) st K = (Cl d st ∧ cZ P c d op st (So P c all r K)) := rfl
def Nc (P : Program) (c : Cfg) (all r : List Oper) (ks : List DK) (K : St → Prop) : St → Prop := fun st => eF P c all r ks st K
theorem Fw {c : Cfg} {all r : List Oper} {ks : List DK} {K : St → Prop} {st : St} : Nc P c all r ks K st = eF P c all r ks st K := rfl
theorem Lr {c : Cfg} {all r : List Oper} {d : Option Tmp} {op : Op} {ty : TypeId} {pos : String} {after : Array Edge} {k : DK} {ks : List DK} {st : St} {K : St → Prop} : eF P c all (⟨d, op, ty, pos, after, none⟩ :: r) (k :: ks) st K = (Cl d st ∧ mQ P c d op k st (Nc P c all r ks K)) := rfl
@[congr] theorem Wn {op : BinOp} {t : TypeId} {x y x' y' : Slot} {K : D → Prop} (hx : x = x') (hy : y = y') : kF P op t x y K = kF P op t x' y' K := by rw [hx, hy]
@[congr] theorem Vq {op : BinOp} {k : IntKind} {a b a' b' : Int} {K : D → Prop} (hx : a = a') (hy : b = b') : qU op k a b K = qU op k a' b' K := by rw [hx, hy]
@[congr] theorem Vz {op : BinOp} {a b a' b' : ByteArray} {K : D → Prop} (hx : a = a') (hy : b = b') : qK op a b K = qK op a' b' K := by rw [hx, hy]
@[congr] theorem Wp {t : TypeId} {a b a' b' : List D} {K : Bool → Prop} (hx : a = a') (hy : b = b') : qN P t a b K = qN P t a' b' K := by rw [hx, hy]
@[congr] theorem Xb {op : UnOp} {x x' : D} {K : D → Prop} (hx : x = x') : qX op x K = qX op x' K := by rw [hx]
def Ve (b : Bool) (s r : Slot) : Slot := if b = true then s else r
@[congr] theorem Zb {b b' : Bool} {s r : Slot} (h : b = b') : Ve b s r = Ve b' s r := by rw [h]
theorem Rx {s r : Slot} : Ve true s r = s := rfl
theorem Rl {s r : Slot} : Ve false s r = r := rfl
theorem vO (a : Nat) (s : Slot) (r : List (Nat × Slot)) (t : Nat) : bT ((a, s) :: r) t = Ve (t == a) s (bT r t) := by
 simp only [bT, Ve, beq_iff_eq]
def Wz (s : Slot) (want : Bool) : Option Bool := qL s want
def Wt (o : Option Tmp) (st : St) (want : Bool) : Option Bool := match o with
 | some t => Wz (st.env t) want
 | none => none
@[congr] theorem Zr {o o' : Option Tmp} {st : St} {want : Bool} (h : o = o') : Wt o st want = Wt o' st want := by rw [h]
theorem Kj (t : Tmp) (st : St) (want : Bool) : Wt (some t) st want = Wz (st.env t) want := rfl
theorem Mt (b want : Bool) : Wz (.d (.v (.bool b))) want = some b := rfl
theorem Qg (want : Bool) : Wz (.d (.tup [])) want = some (!want) := rfl
def No (all : List Oper) (j : Nat) (st : St) (want : Bool) : Option Bool := match bA all j with
 | some t => qL (st.env t) want
 | none => none
theorem Pd (all : List Oper) (j : Nat) (st : St) (want : Bool) : No all j st want = Wt (bA all j) st want := rfl
def Eu (g : Option Bool) (want : Bool) (A B : Prop) : Prop := match g with
 | some b => (b = want → A) ∧ (b = !want → B)
 | none => False
@[congr] theorem Va {g g' : Option Bool} {want : Bool} {A B : Prop} (h : g = g') : Eu g want A B = Eu g' want A B := by rw [h]
theorem Uc {A B : Prop} : Eu (some true) true A B = A := by simp [Eu]
theorem Ui {A B : Prop} : Eu (some true) false A B = B := by simp [Eu]
theorem Uw {A B : Prop} : Eu (some false) true A B = B := by simp [Eu]
theorem Un {A B : Prop} : Eu (some false) false A B = A := by simp [Eu]
theorem Ti {c : Cfg} {all r : List Oper} {d : Option Tmp} {op : Op} {ty : TypeId} {pos : String} {after : Array Edge} {j : Nat} {want : Bool} {st : St} {K : St → Prop} : iL P c all (⟨d, op, ty, pos, after, some (j, want)⟩ :: r) st K =
  Eu (No all j st want) want (Cl d st ∧ cZ P c d op st (So P c all r K)) (Cl d st ∧ iL P c all r (st.put d .und) K) := by
 rw [vX];unfold No Eu;split
 ·rename_i t ht;simp only [ht];split
  ·rename_i h; simp [h]; exact fun _ => Iff.rfl
  ·rename_i h; simp [h]
 ·rename_i h; simp [h]
def Dd (d : D) (A B : Prop) : Prop := match d with
 | .v (.bool t) => (t = true → A) ∧ (t = false → B)
 | _ => False
@[congr] theorem Sw {d d' : D} {A B : Prop} (h : d = d') : Dd d A B = Dd d' A B := by rw [h]
theorem Uq {A B : Prop} : Dd (.v (.bool true)) A B = A := by simp [Dd]
theorem Tv {A B : Prop} : Dd (.v (.bool false)) A B = B := by simp [Dd]
theorem In {dst : Option Tmp} {c a b : Operand} {st : St} {K : St → Prop} : mI dst c a b st K = Dd (st.rd c) ((st.rd a).plain = true ∧ K (st.put dst (.d (st.rd a).strip))) ((st.rd b).plain = true ∧ K (st.put dst (.d (st.rd b).strip))) := rfl
theorem Al {c : Cfg} {dst : Option Tmp} {op : Op} {k : DK} {st : St} {K K' : St → Prop} (hk : ∀ s, K s → K' s) (h : mQ P c dst op k st K) : mQ P c dst op k st K' := by
 unfold mQ at *;cases k with
 | op f => exact ⟨h.1, h.2.1, mT hk h.2.2⟩
 | pure =>
  simp only at *;split at h
  ·obtain ⟨h1, r, h2, h3⟩ := h; exact ⟨h1, r, h2, hk _ h3⟩
  ·exact h
 | pureC =>
  simp only at *;split at h
  ·split at h
   ·rename_i hf;obtain ⟨h0, h1, r, h2, h3⟩ := h;exact ⟨h0, h1, r, h2, hk _ h3⟩
   ·exact h.elim
  ·exact h
 | read =>
  simp only at *;split at h
  ·obtain ⟨h1, r, h2, h3⟩ := h; exact ⟨h1, r, h2, hk _ h3⟩
  ·exact h
 | det =>
  simp only at *;split at h
  ·obtain ⟨h1, r, σ0, h2, h3⟩ := h; exact ⟨h1, r, σ0, h2, hk _ h3⟩
  ·exact h
 | readT =>
  simp only at *;split at h
  ·obtain ⟨h1, r, h2, h3⟩ := h; exact ⟨h1, r, h2, hk _ h3⟩
  ·exact h
 | nd =>
  obtain ⟨Q, h1, h2⟩ := h;exact ⟨Q, h1, fun r σ0 hq => hk _ (h2 r σ0 hq)⟩
 | detA =>
  simp only at *;split at h
  ·obtain ⟨h1, r, J, h2, h3⟩ := h; exact ⟨h1, r, J, h2, hk _ h3⟩
  ·exact h
 | pureT =>
  simp only at *;split at h
  ·obtain ⟨h0, h1, r, h2, h3⟩ := h; exact ⟨h0, h1, r, h2, hk _ h3⟩
  ·exact h
 | detT =>
  simp only at *;split at h
  ·obtain ⟨h0, h1, r, σ0, h2, h3⟩ := h; exact ⟨h0, h1, r, σ0, h2, hk _ h3⟩
  ·exact h
theorem oA {c : Cfg} {all : List Oper} {ks : List DK} {st : St} {K : St → Prop} : eF P c all [] ks st K = K st := by unfold eF; rfl
theorem Qf {c : Cfg} {all r : List Oper} {d : Option Tmp} {op : Op} {ty : TypeId} {pos : String} {after : Array Edge} {j : Nat} {want : Bool} {k : DK} {ks : List DK} {st : St} {K : St → Prop} : eF P c all (⟨d, op, ty, pos, after, some (j, want)⟩ :: r) (k :: ks) st K =
  (Cl d st ∧ Eu (No all j st want) want (mQ P c d op k st (Nc P c all r ks K)) (eF P c all r ks (st.put d .und) K)) := by
 conv => lhs; unfold eF
 show (_ ∧ _) = _
 congr 1;simp only;unfold No Eu;split
 ·rename_i t ht;simp only [ht];split
  ·rename_i h; simp [h]; exact fun _ => Iff.rfl
  ·rename_i h; simp [h]
 ·rename_i h; simp [h]
theorem bH {c : Cfg} {all r : List Oper} {d : Option Tmp} {op : Op} {ty : TypeId} {pos : String} {after : Array Edge} {k : DK} {ks : List DK} {st : St} {K : St → Prop} (h : ∀ K' : St → Prop, (∀ s, eF P c all r ks s K → K' s) → Cl d st ∧ mQ P c d op k st K') : eF P c all (⟨d, op, ty, pos, after, none⟩ :: r) (k :: ks) st K :=
 h _ fun _ h => h
theorem aL {c : Cfg} {all : List Oper} (n : Nat) {r : List Oper} {ks : List DK} {st : St} {K : St → Prop} (hks : n ≤ ks.length) (h : ∀ K' : St → Prop, (∀ s, eF P c all (r.drop n) (ks.drop n) s K → K' s) → eF P c all (r.take n) (ks.take n) st K') : eF P c all r ks st K := by
 have go : ∀ (n : Nat) (r : List Oper) (ks : List DK) (st : St), n ≤ ks.length → eF P c all (r.take n) (ks.take n) st (fun s => eF P c all (r.drop n) (ks.drop n) s K) → eF P c all r ks st K := by
  intro n;induction n with
  | zero => intro r ks st _ h; simp only [List.take_zero, List.drop_zero, oA] at h; exact h
  | succ n ih =>
   intro r ks st hks h;cases ks with
   | nil => simp at hks
   | cons k ks =>
    cases r with
    | nil => simp only [List.take_nil, List.drop_nil, oA] at h ⊢; exact h
    | cons o r =>
     simp only [List.take_succ_cons, List.drop_succ_cons] at h;simp only [List.length_cons] at hks;unfold eF at h ⊢;refine ⟨h.1, ?_⟩;have h2 := h.2;split at h2
     ·exact Al (fun s hs => ih r ks s (by omega) hs) h2
     ·split at h2
      ·split at h2
       ·exact ⟨fun hb => Al (fun s hs => ih r ks s (by omega) hs) (h2.1 hb), fun hb => ih r ks _ (by omega) (h2.2 hb)⟩
       ·exact h2.elim
      ·exact h2.elim
 exact go n r ks st hks (h _ fun _ h => h)
theorem jE {c : Cfg} {all r : List Oper} {ks : List DK} {n : Nat} {l : List (Nat × Slot)} {loc obj : List (List D)} {K : St → Prop} (t : Nat) {s : Slot} (hs : bT l t = s)
  (h : nC s.toD (eF P c all r ks (St.mk' n ((t, .d (.bool true)) :: l) loc obj) K) (eF P c all r ks (St.mk' n ((t, .d (.bool false)) :: l) loc obj) K)) : eF P c all r ks (St.mk' n l loc obj) K := by
 unfold nC at h;split at h
 ·rename_i b hb;have hs' : bT l t = .d (.v (.bool b)) := by
   rw [hs];cases s with
   | d d => simp only [Slot.toD] at hb; rw [hb]
   | lref n o => simp [Slot.toD] at hb
  rw [tI hs'];cases b
  ·exact h.2 rfl
  ·exact h.1 rfl
 ·exact h.elim
def Ds : List Nat → List (Nat × Slot) → List (Nat × Slot)
 | _, [] => []
 | W, (t, s) :: r => if W.contains t then Ds W r else (t, s) :: Ds (t :: W) r
theorem Pg (n : Nat) (s : Slot) : qH n s (.d .any) = True := by
 unfold qH; split <;> simp_all
theorem Wb (n : Nat) (x : D) : qH n (.d x) (.d x) = True := by
 cases x with
 | sl o es => cases o <;> simp [qH]
 | _ => simp [qH]
theorem Py (n : Nat) (es : List D) : qH n (.d (.sl true es)) (.d (.sl false es)) = True := by
 unfold qH; simp
theorem Ll (n m o : Nat) : qH n (.lref m o) (.lref m o) = (m < n) := by
 unfold qH; simp
def mD (n : Nat) (env : Nat → Slot) : List (Nat × Slot) → Prop
 | [] => True
 | (a, s) :: r => qH n (env a) s ∧ mD n env r
theorem Hs (n : Nat) (env : Nat → Slot) : mD n env [] = True := rfl
theorem Bt (n : Nat) (env : Nat → Slot) (a : Nat) (s : Slot) (r : List (Nat × Slot)) : mD n env ((a, s) :: r) = (qH n (env a) s ∧ mD n env r) := rfl
theorem iI {n : Nat} {env : Nat → Slot} : ∀ {l : List (Nat × Slot)}, mD n env l → ∀ p ∈ l, qH n (env p.1) p.2
 | [], _, p, hp => by simp at hp
 | (a, s) :: r, h, p, hp => by
  rcases List.mem_cons.1 hp with rfl | hp
  ·exact h.1
  ·exact iI h.2 p hp
theorem aV {st : St} {n : Nat} {l : List (Nat × Slot)} {loc obj : List (List D)} (hn : st.n = n) (hl : mD loc.length st.env l) (hloc : loc <+: st.loc) (hobj : st.obj = obj) : Weak st (St.mk' n l loc obj) :=
 rE hn (iI hl) hloc hobj
theorem cM {α : Type} {n : Nat} {l l2 : List (Nat × Slot)} {loc obj : List (List D)} (F : α → List (Nat × Slot)) (W : List Nat) (p : α → Prop) (m : α → Nat) (x0 : α) {body : Code} {Q : Exit → St → Prop}
  (hl : Ds W l = l2) (hF : mD loc.length (bT l) (F x0 ++ l2)) (hp : p x0)
  (h : ∀ x, p x → fH P body (qI (fun x => St.mk' n (F x ++ l2) loc obj) p m x Q) (St.mk' n (F x ++ l2) loc obj)) : fH P (.loop body) Q (St.mk' n l loc obj) :=
 tT (fun x => St.mk' n (F x ++ l2) loc obj) p m x0 (rE rfl (iI hF) (List.prefix_refl _) rfl) hp h
theorem lR {α : Type} {n : Nat} {l l2 : List (Nat × Slot)} {loc obj : List (List D)} (F : α → List (Nat × Slot)) (G : α → List (List D)) (W : List Nat) (p : α → Prop) (m : α → Nat) (x0 : α) {body : Code} {Q : Exit → St → Prop}
  (hl : Ds W l = l2) (hF : mD (G x0).length (bT l) (F x0 ++ l2)) (hG : G x0 = loc) (hp : p x0)
  (h : ∀ x, p x → fH P body (qI (fun x => St.mk' n (F x ++ l2) (G x) obj) p m x Q) (St.mk' n (F x ++ l2) (G x) obj)) : fH P (.loop body) Q (St.mk' n l loc obj) :=
 tT (fun x => St.mk' n (F x ++ l2) (G x) obj) p m x0 (rE rfl (iI hF) (by rw [hG]; exact List.prefix_refl _) rfl) hp h
theorem fS {α : Type} {n : Nat} {l l2 : List (Nat × Slot)} {loc obj : List (List D)} (F : α → List (Nat × Slot)) (G H : α → List (List D)) (W : List Nat) (p : α → Prop) (m : α → Nat) (x0 : α) {body : Code} {Q : Exit → St → Prop}
  (hl : Ds W l = l2) (hF : mD (G x0).length (bT l) (F x0 ++ l2)) (hG : G x0 = loc) (hH : H x0 = obj) (hp : p x0)
  (h : ∀ x, p x → fH P body (qI (fun x => St.mk' n (F x ++ l2) (G x) (H x)) p m x Q) (St.mk' n (F x ++ l2) (G x) (H x))) : fH P (.loop body) Q (St.mk' n l loc obj) :=
 tT (fun x => St.mk' n (F x ++ l2) (G x) (H x)) p m x0 (rE rfl (iI hF) (by rw [hG]; exact List.prefix_refl _) hH.symm) hp h
theorem bJ {α : Type} {S : α → St} {p : α → Prop} {m : α → Nat} {x : α} {Q : Exit → St → Prop} {s : St} (y : α) (hp : p y) (hm : m y < m x) (hw : Weak s (S y)) : qI S p m x Q .normal s := ⟨y, hp, hm, hw⟩
theorem Cb (n : Nat) : D.strip (.mref n) = .mref n := rfl
theorem Ou (n : Nat) : D.s1 (.mref n) = .mref n := rfl
theorem Qs (n : Nat) : D.s2 (.mref n) = .mref n := rfl
theorem Bh (n : Nat) : D.plain (.mref n) = true := rfl
theorem Az (n : Nat) : D.solid (.mref n) = true := rfl
theorem xY (n : Nat) : D.ncells (.mref n) = 1 := rfl
theorem Dg (n : Nat) : D.cells (.mref n) = [.mref n] := rfl
theorem Gy (n a b : Nat) (l : List Nat) : D.strip (.mit n a l b) = .any := rfl
theorem Tu (n a b : Nat) (l : List Nat) : D.s1 (.mit n a l b) = .any := rfl
theorem Sy (n a b : Nat) (l : List Nat) : D.s2 (.mit n a l b) = .any := rfl
theorem Jb (n a b : Nat) (l : List Nat) : D.plain (.mit n a l b) = true := rfl
theorem Gr (n a b : Nat) (l : List Nat) : D.solid (.mit n a l b) = false := rfl
theorem Ob (n c : Nat) (kd : TypeDesc) (kvs : List (Value × Nat × D)) : D.strip (.mp n kd c kvs) = .mref n := rfl
theorem Vs (n c : Nat) (kd : TypeDesc) (kvs : List (Value × Nat × D)) : D.s1 (.mp n kd c kvs) = .mref n := rfl
theorem Vt (n c : Nat) (kd : TypeDesc) (kvs : List (Value × Nat × D)) : D.s2 (.mp n kd c kvs) = .mref n := rfl
theorem Kz (n c : Nat) (kd : TypeDesc) (kvs : List (Value × Nat × D)) : D.plain (.mp n kd c kvs) = true := rfl
theorem Mv (n c : Nat) (kd : TypeDesc) (kvs : List (Value × Nat × D)) : D.solid (.mp n kd c kvs) = true := rfl
theorem Gv (n c : Nat) (kd : TypeDesc) (kvs : List (Value × Nat × D)) : D.ncells (.mp n kd c kvs) = 1 := rfl
theorem Mk (n c : Nat) (kd : TypeDesc) (kvs : List (Value × Nat × D)) : D.cells (.mp n kd c kvs) = [.mp n kd c kvs] := rfl
theorem Ib (t : TypeId) (d : D) : D.strip (.ifc t d) = .ifc t d := rfl
theorem Uf (t : TypeId) (d : D) : D.s1 (.ifc t d) = .ifc t d := rfl
theorem Tb (t : TypeId) (d : D) : D.s2 (.ifc t d) = .ifc t d := rfl
theorem Jd (t : TypeId) (d : D) : D.plain (.ifc t d) = true := rfl
theorem Hm (t : TypeId) (d : D) : D.solid (.ifc t d) = true := rfl
theorem Dr (t : TypeId) (d : D) : D.ncells (.ifc t d) = 1 := rfl
theorem Fs (t : TypeId) (d : D) : D.cells (.ifc t d) = [.ifc t d] := rfl
theorem Mu (n : Nat) : D.arr (.mref n) = true := rfl
attribute [simp] Gy Tu Sy Jb Gr jU mP kE dY Cb Ou Qs Bh Az xY Dg Ob Vs Vt Kz Mv Gv Mk Ib Uf Tb Jd Hm Dr Fs Mu
theorem Gz (n a b c : Nat) : D.strip (.slo n a b c) = .slo n a b c := rfl
theorem Nh (n : Nat) : D.strip (.xl n) = .xl n := rfl
theorem Ka (k : Nat) (es : List D) : D.strip (.xs k es) = .xl es.length := rfl
theorem Sl (n a b c : Nat) : D.s2 (.slo n a b c) = .slo n a b c := rfl
theorem Wk (n : Nat) : D.s2 (.xl n) = .xl n := rfl
theorem Vy (k : Nat) (es : List D) : D.s2 (.xs k es) = .xl es.length := rfl
theorem Tx (f : Go.Fn) (a b : List D) : D.s2 (.clo f a b) = .clo f a b := rfl
theorem Sj (n a b c : Nat) : D.s1 (.slo n a b c) = .slo n a b c := rfl
theorem Wg (n : Nat) : D.s1 (.xl n) = .xl n := rfl
theorem Wq (k : Nat) (es : List D) : D.s1 (.xs k es) = .xl es.length := rfl
theorem Si (f : Go.Fn) (a b : List D) : D.s1 (.clo f a b) = .clo f a b := rfl
theorem Ie (n a b c : Nat) : D.plain (.slo n a b c) = true := rfl
theorem Lb (n : Nat) : D.plain (.xl n) = true := rfl
theorem Ju (k : Nat) (es : List D) : D.plain (.xs k es) = true := rfl
theorem Hr (n a b c : Nat) : D.solid (.slo n a b c) = true := rfl
theorem Nq (n : Nat) : D.solid (.xl n) = true := rfl
theorem Lh (k : Nat) (es : List D) : D.solid (.xs k es) = true := rfl
theorem Cc (n a b c : Nat) : D.ncells (.slo n a b c) = 1 := rfl
theorem Fx (n : Nat) : D.ncells (.xl n) = 1 := rfl
theorem Gu (k : Nat) (es : List D) : D.ncells (.xs k es) = 1 := rfl
theorem Gl (n a b c : Nat) : D.cells (.slo n a b c) = [.slo n a b c] := rfl
theorem Mn (n : Nat) : D.cells (.xl n) = [.xl n] := rfl
theorem Jy (k : Nat) (es : List D) : D.cells (.xs k es) = [.xs k es] := rfl
theorem Wf (x : Value) : D.arr (.v x) = true := rfl
theorem Tw (es : List D) : D.arr (.sl false es) = true := rfl
theorem Qj (cs : List D) : D.arr (.agg cs) = cs.all D.flat := rfl
theorem Tn (x : Value) : D.flat (.v x) = true := rfl
theorem Pr (es : List D) : D.flat (.sl false es) = true := rfl
theorem Jt (n o : Nat) : D.flat (.ref n o) = true := rfl
def oW : List (Nat × List D) → List (List D) → List (List D)
 | [], l => l
 | (n, c) :: r, l => (oW r l).set n c
theorem iE (l : List (List D)) : oW [] l = l := rfl
theorem gJ (n : Nat) (c : List D) (r : List (Nat × List D)) (l : List (List D)) : oW ((n, c) :: r) l = (oW r l).set n c := rfl
theorem iA {P : Program} {α : Type} {n : Nat} {l l2 : List (Nat × Slot)} {loc obj : List (List D)} (F : α → List (Nat × Slot)) (M N : α → List (Nat × List D)) (W : List Nat) (p : α → Prop) (m : α → Nat) (x0 : α) {body : Code} {Q : Exit → St → Prop}
  (hl : Ds W l = l2) (hF : mD (oW (M x0) loc).length (bT l) (F x0 ++ l2)) (hG : oW (M x0) loc = loc) (hH : oW (N x0) obj = obj) (hp : p x0)
  (h : ∀ x, p x → fH P body (qI (fun x => St.mk' n (F x ++ l2) (oW (M x) loc) (oW (N x) obj)) p m x Q) (St.mk' n (F x ++ l2) (oW (M x) loc) (oW (N x) obj))) : fH P (.loop body) Q (St.mk' n l loc obj) :=
 fS F (fun x => oW (M x) loc) (fun x => oW (N x) obj) W p m x0 hl hF hG hH hp h
theorem Ii {α : Type} (l : List α) (a : α) : (l ++ [a])[l.length]? = some a := by simp
theorem Jl {α : Type} (l : List α) (a b : α) : (l ++ [a]).set l.length b = l ++ [b] := by simp
def nJ : List Nat → List (Nat × Slot) → List (Nat × Slot)
 | [], _ => []
 | t :: r, l => (t, bT l t) :: nJ r l
theorem Fm (l : List (Nat × Slot)) : nJ [] l = [] := rfl
theorem tW (t : Nat) (r : List Nat) (l : List (Nat × Slot)) : nJ (t :: r) l = (t, bT l t) :: nJ r l := rfl
theorem uR (l : List (Nat × Slot)) (u : Nat) : ∀ K : List Nat, bT (nJ K l) u = bT l u ∨ bT (nJ K l) u = .any
 | [] => .inr rfl
 | t :: r => by
  rw [tW, iG];split
  ·rename_i h; subst h; exact .inl rfl
  ·exact uR l u r
theorem Oe {P : Program} (K : List Nat) {l2 : List (Nat × Slot)} {c : Code} {n : Nat} {l : List (Nat × Slot)} {loc obj : List (List D)} {Q : Exit → St → Prop} (hl : nJ K l = l2) (h : fH P c Q (St.mk' n l2 loc obj)) : fH P c Q (St.mk' n l loc obj) := by
 subst hl;intro w0 g0 w g tmps hf hok hn;refine h w0 g0 w g tmps hf ⟨hok.mem, hok.xlt, fun t => ?_, hok.ll, hok.loc, hok.ol, hok.obj⟩ hn;have hs := hok.slot t;show SlotOk w g t (bT (nJ K l) t) _
 rcases uR l t K with e | e
 ·rw [e]; exact hs
 ·rw [e]; exact ⟨.any _, .flat _ _ _ rfl⟩
theorem qD {P : Program} (ts k : Nat) {es : List D} {c : Code} {n : Nat} {l : List (Nat × Slot)} {loc obj : List (List D)} {Q : Exit → St → Prop} (hs : bT l ts = .d (.xs k es)) (hk0 : 0 < k)
  (h : ∀ (cap : Nat) (rest : List D), es.length ≤ cap → cap ≤ maxLen → rest.length = (cap - es.length) * k → 0 < k → (∀ d ∈ es, d.ncells = k ∧ d.arr = true) → fH P c Q (St.mk' n ((ts, .d (.slo obj.length 0 es.length cap)) :: l) loc (obj ++ [es.flatMap D.cells ++ rest]))) : fH P c Q (St.mk' n l loc obj) := by
 intro w0 g0 w g tmps hf hok hn;obtain ⟨cap, rest, g', a1, a2, a3, a4, a5, _, hfr, hok'⟩ := hok.openX ts k es hs hk0;exact h cap rest a1 a2 a3 a4 a5 w0 g0 w g' tmps (hf.trans hfr) hok' hn
theorem eT {P : Program} (ts k : Nat) {es : List D} {c : Code} {n : Nat} {l : List (Nat × Slot)} {loc obj : List (List D)} {Q : Exit → St → Prop} (hs : bT l ts = .d (.xs k es)) (hk0 : 0 < k)
  (h : ∀ (cap : Nat) (rest : List D), es.length ≤ cap → cap ≤ maxLen → rest = List.replicate ((cap - es.length) * k) .any → 0 < k → (∀ d ∈ es, d.ncells = k ∧ d.arr = true) → fH P c Q (St.mk' n ((ts, .d (.slo obj.length 0 es.length cap)) :: l) loc (obj ++ [es.flatMap D.cells ++ rest]))) : fH P c Q (St.mk' n l loc obj) := by
 intro w0 g0 w g tmps hf hok hn;obtain ⟨cap, rest, g', a1, a2, a3, a4, a5, _, hfr, hok'⟩ := hok.openX2 ts k es hs hk0;exact h cap rest a1 a2 a3 a4 a5 w0 g0 w g' tmps (hf.trans hfr) hok' hn
theorem dB {P : Program} (ts k m len cap : Nat) (es cs : List D) {c : Code} {n : Nat} {l : List (Nat × Slot)} {loc obj : List (List D)} {Q : Exit → St → Prop} (hs : bT l ts = .d (.slo m 0 len cap)) (hm : obj[m]? = some cs) (hk : 0 < k) (hcs : cs.length = cap * k) (hl : es.length = len)
  (hes : ∀ d ∈ es, d.ncells = k ∧ d.arr = true) (he : es.flatMap D.cells <+: cs) (h : fH P c Q (St.mk' n ((ts, .d (.xs k es)) :: l) loc (obj.set m []))) : fH P c Q (St.mk' n l loc obj) := by
 intro w0 g0 w g tmps hf hok hn;obtain ⟨g', _, hfr, hok'⟩ := hok.closeX ts k m len cap es cs hs hm hk hcs hl hes he;exact h w0 g0 w g' tmps (hf.trans hfr) hok' hn
theorem Mq {α : Type} (f : α → D) (l : List α) (k : Nat) (h : k < l.length) : (l.map f).getD k .any = f l[k] := by
 simp [List.getD, h]
theorem uL {α : Type} (f : α → D) (l : List α) (k : Nat) (h : k < l.length) : (l.map f)[k]? = some (f l[k]) := by
 simp [h]
theorem Rb (n : Int) : rK .i64 n = (-9223372036854775808 ≤ n ∧ n ≤ 9223372036854775807) := by
 unfold rK;rfl
theorem Us (n : Int) : rK .u8 n = (0 ≤ n ∧ n ≤ 255) := by
 unfold rK;rfl
end
theorem Nf : xD [] = true := rfl
theorem Fv (r : List (Option Holder)) : xD (none :: r) = xD r := by simp [xD]
theorem Hk (h : Holder) (r : List (Option Holder)) : xD (some h :: r) = (!r.contains (some h) && xD r) := by
 simp only [xD, List.filterMap_cons, id, List.nodup_cons, Bool.decide_and, List.contains_eq_mem];congr 1;rw [← decide_not];congr 1;simp [List.mem_filterMap]
theorem Gi : maxLen = 9223372036854775807 := rfl
theorem Qx (n : Nat) (l : List (Nat × Slot)) (loc obj : List (List D)) : ({ n := n, env := bT l, loc := loc, obj := obj } : St) = St.mk' n l loc obj := rfl
def pE : Slot → Slot
 | .d x => .d x.strip
 | s => s
def gB : List Nat → List (Nat × Slot) → List (Nat × Slot)
 | [], l => l
 | t :: r, l => (t, pE (bT l t)) :: gB r l
theorem qO (l : List (Nat × Slot)) (u : Nat) : ∀ ts : List Nat, bT (gB ts l) u = if u ∈ ts then pE (bT l u) else bT l u
 | [] => by simp [gB]
 | t :: r => by
  rw [gB, iG, qO l u r];by_cases h : u = t
  ·subst h; simp
  ·simp [h]
theorem gV (l : List (Nat × Slot)) (ts : List (Option Nat)) : cN ts (bT l) = bT (gB (ts.filterMap id) l) := by
 funext u;rw [qO];by_cases h : some u ∈ ts
 ·have h1 : ts.contains (some u) = true := by simpa using h
  have h2 : u ∈ ts.filterMap id := by simpa using h
  simp only [cN, h1, if_true, if_pos h2, pE];split <;> simp_all
 ·have h1 : ts.contains (some u) = false := by simpa using h
  have h2 : ¬ u ∈ ts.filterMap id := by simpa using h
  simp only [cN, h1, if_neg h2]; rfl
theorem Bj {P : Program} {d : Nat} {f : FuncId} {args : List Operand} {n : Nat} {l : List (Nat × Slot)} {loc obj : List (List D)} {K : St → Prop} : fX P (some d) f args (St.mk' n l loc obj) K =
  ((args.filterMap aZ).Nodup ∧ (∀ x ∈ args, mE ((St.mk' n l loc obj).rdS x) = true ∧ ((St.mk' n l loc obj).rd x).plain = true) ∧
   Ct P f (args.map (kK (St.mk' n l loc obj))) obj (fun r σ' => K (St.mk' n ((d, .d r) :: gB (args.filterMap aZ) l) loc σ'))) := by
 unfold fX;have e : (args.map aZ).filterMap id = args.filterMap aZ := by rw [List.filterMap_map]; rfl
 simp only [rI, rJ, rF, Er, gV, e];rfl
theorem yW (l : List (Nat × Slot)) : gB [] l = l := rfl
theorem xL (t : Nat) (r : List Nat) (l : List (Nat × Slot)) : gB (t :: r) l = (t, pE (bT l t)) :: gB r l := rfl
theorem Mg (x : D) : pE (.d x) = .d x.strip := rfl
theorem yI (a b : Nat) : pE (.lref a b) = .lref a b := rfl
theorem Gg : List.filterMap aZ [] = [] := rfl
theorem Is (t : Tmp) (r : List Operand) : List.filterMap aZ (.tmp t :: r) = t :: List.filterMap aZ r := rfl
theorem yA (v : Value) (r : List Operand) : List.filterMap aZ (.const v :: r) = List.filterMap aZ r := rfl
theorem Cn (v : FuncId) (r : List Operand) : List.filterMap aZ (.func v :: r) = List.filterMap aZ r := rfl
theorem wC {P : Program} {c : Cfg} {d : Nat} {f : FuncId} {args : Array Operand} {ts : Array TypeId} {n : Nat} {l : List (Nat × Slot)} {loc obj : List (List D)} {K : St → Prop} :
  mQ P c (some d) (.call ⟨.value (.func f), args, ts⟩) .pureT (St.mk' n l loc obj) K =
  ((args.toList.filterMap aZ).Nodup ∧ (∀ x ∈ args.toList, mE ((St.mk' n l loc obj).rdS x) = true ∧ ((St.mk' n l loc obj).rd x).plain = true) ∧
   ∃ r, (∀ σ, Ct P f (args.toList.map (kK (St.mk' n l loc obj))) σ fun r' σ' => r' = r ∧ σ' = σ) ∧ K (St.mk' n ((d, .d r) :: gB (args.toList.filterMap aZ) l) loc obj)) := by
 have e : (args.toList.map aZ).filterMap id = args.toList.filterMap aZ := by rw [List.filterMap_map]; rfl
 simp only [mQ, rI, rJ, rF, Er, gV, e];rfl
theorem Aa {P : Program} {c : Cfg} {d : Nat} {f : FuncId} {args : Array Operand} {ts : Array TypeId} {n : Nat} {l : List (Nat × Slot)} {loc obj : List (List D)} {K : St → Prop} :
  mQ P c (some d) (.call ⟨.value (.func f), args, ts⟩) .detT (St.mk' n l loc obj) K =
  ((args.toList.filterMap aZ).Nodup ∧ (∀ x ∈ args.toList, mE ((St.mk' n l loc obj).rdS x) = true ∧ ((St.mk' n l loc obj).rd x).plain = true) ∧
   ∃ r σ0, (Ct P f (args.toList.map (kK (St.mk' n l loc obj))) obj fun r' σ' => r' = r ∧ σ' = σ0) ∧ K (St.mk' n ((d, .d r) :: gB (args.toList.filterMap aZ) l) loc σ0)) := by
 have e : (args.toList.map aZ).filterMap id = args.toList.filterMap aZ := by rw [List.filterMap_map]; rfl
 simp only [mQ, rI, rJ, rF, Er, gV, e];rfl
theorem Ug {P : Program} {c : Cfg} {d : Option Tmp} {op : Op} {f : Fl} {st : St} {K : St → Prop} : mQ P c d op (.op f) st K = (eJ op = false ∧ gE c d st op = f ∧ cZ P c d op st K) := rfl
theorem Ku {P : Program} {c : Cfg} {d : Option Tmp} {f : FuncId} {args : Array Operand} {ts : Array TypeId} {st : St} {K : St → Prop} : mQ P c d (.call ⟨.value (.func f), args, ts⟩) .pure st K =
  (eQ args.toList st ∧ ∃ r, (∀ σ, Ct P f (cG args.toList st) σ fun r' σ' => r' = r ∧ σ' = σ) ∧ K (st.put d (.d r))) := rfl
def Vg (P : Program) (dst : Option Tmp) (d : D) (args : List Operand) (st : St) (K : St → Prop) : Prop := match d with
 | .clo (.func fid) first caps => (∀ d ∈ first ++ caps, d.plain = true) ∧ eQ args st ∧ ∃ r, (∀ σ, Ct P fid (first.map D.strip ++ cG args st ++ caps.map D.strip) σ fun r' σ' => r' = r ∧ σ' = σ) ∧ K (st.put dst (.d r))
 | _ => False
theorem Hp {P : Program} {c : Cfg} {d : Option Tmp} {f : Operand} {args : Array Operand} {ts : Array TypeId} {st : St} {K : St → Prop} : mQ P c d (.call ⟨.value f, args, ts⟩) .pureC st K = Vg P d (st.rd f) args.toList st K := rfl
theorem Ov {P : Program} {dst : Option Tmp} {fid : FuncId} {first caps : List D} {args : List Operand} {st : St} {K : St → Prop} : Vg P dst (.clo (.func fid) first caps) args st K = ((∀ d ∈ first ++ caps, d.plain = true) ∧ eQ args st ∧ ∃ r, (∀ σ, Ct P fid (first.map D.strip ++ cG args st ++ caps.map D.strip) σ fun r' σ' => r' = r ∧ σ' = σ) ∧ K (st.put dst (.d r))) := rfl
theorem Nt {P : Program} {c : Cfg} {d : Option Tmp} {f : FuncId} {args : Array Operand} {ts : Array TypeId} {st : St} {K : St → Prop} : mQ P c d (.call ⟨.value (.func f), args, ts⟩) .read st K =
  (eQ args.toList st ∧ ∃ r, (Ct P f (cG args.toList st) st.obj fun r' σ' => r' = r ∧ σ' = st.obj) ∧ K (st.put d (.d r))) := rfl
theorem Up {P : Program} {c : Cfg} {d : Option Tmp} {f : FuncId} {args : Array Operand} {ts : Array TypeId} {st : St} {K : St → Prop} : mQ P c d (.call ⟨.value (.func f), args, ts⟩) .nd st K =
  ∃ Q, (eQ args.toList st ∧ Ct P f (cG args.toList st) st.obj Q ∧ ∃ r σ0, Q r σ0) ∧ ∀ r σ0, Q r σ0 → K (({ st with obj := σ0 } : St).put d (.d r)) := rfl
theorem It {P : Program} {c : Cfg} {d : Option Tmp} {f : FuncId} {args : Array Operand} {ts : Array TypeId} {st : St} {K : St → Prop} : mQ P c d (.call ⟨.value (.func f), args, ts⟩) .readT st K =
  (eQ args.toList st ∧ ∃ r, (∀ J, Ct P f (cG args.toList st) (st.obj ++ J) fun r' σ' => r' = r ∧ σ' = st.obj ++ J) ∧ K (st.put d (.d r))) := rfl
theorem Mw {P : Program} {c : Cfg} {d : Option Tmp} {f : FuncId} {args : Array Operand} {ts : Array TypeId} {st : St} {K : St → Prop} : mQ P c d (.call ⟨.value (.func f), args, ts⟩) .detA st K =
  (eQ args.toList st ∧ ∃ r J, (Ct P f (cG args.toList st) st.obj fun r' σ' => r' = r ∧ σ' = st.obj ++ J) ∧ K (({ st with obj := st.obj ++ J } : St).put d (.d r))) := rfl
theorem Pa {P : Program} {c : Cfg} {d : Option Tmp} {f : FuncId} {args : Array Operand} {ts : Array TypeId} {st : St} {K : St → Prop} : mQ P c d (.call ⟨.value (.func f), args, ts⟩) .det st K =
  (eQ args.toList st ∧ ∃ r σ0, (Ct P f (cG args.toList st) st.obj fun r' σ' => r' = r ∧ σ' = σ0) ∧ K (({ st with obj := σ0 } : St).put d (.d r))) := rfl
theorem Pq {P : Program} {t : Nat} {a b : Code} {s : Slot} {n : Nat} {l : List (Nat × Slot)} {loc obj : List (List D)} {Q : Exit → St → Prop} (hs : bT l t = s)
  (h : nC s.toD (fH P a Q (St.mk' n ((t, .d (.bool true)) :: l) loc obj)) (fH P b Q (St.mk' n ((t, .d (.bool false)) :: l) loc obj))) : fH P (.cond (.tmp t) a b) Q (St.mk' n l loc obj) := by
 unfold nC at h;split at h
 ·rename_i v hv;have hs' : bT l t = .d (.v (.bool v)) := by
   rw [hs];cases s with
   | d d => simp only [Slot.toD] at hv; rw [hv]
   | lref n o => simp [Slot.toD] at hv
  rw [tI hs'];cases v with
  | true => exact cI (t := true) (by simp [St.rd, St.rdS, iG, St.mk']) (fun _ => h.1 rfl) (fun h => by cases h)
  | false => exact cI (t := false) (by simp [St.rd, St.rdS, iG, St.mk']) (fun h => by cases h) (fun _ => h.2 rfl)
 ·exact h.elim
def iB (o : Oper) : Oper := ⟨o.dst, o.op, 0, "", #[], o.guard⟩
theorem fY : List.map iB [] = [] := rfl
theorem eY (d : Option Tmp) (op : Op) (ty : TypeId) (pos : String) (after : Array Edge) (g : Option (Nat × Bool)) (r : List Oper) : List.map iB (⟨d, op, ty, pos, after, g⟩ :: r) = ⟨d, op, 0, "", #[], g⟩ :: List.map iB r := rfl
theorem sJ {P : Program} {c : Cfg} {all : List Oper} {K : St → Prop} : ∀ (r : List Oper) (st : St), iL P c all (r.map iB) st K = iL P c all r st K
 | [], _ => rfl
 | o :: r, st => by
  have ih : (fun st' => iL P c all (r.map iB) st' K) = fun st' => iL P c all r st' K := funext fun st' => sJ r st';show iL P c all (iB o :: r.map iB) st K = _
  unfold iL;simp only [iB, ih];split
  ·rfl
  ·split
   ·split
    ·rw [sJ r]; rfl
    ·rfl
   ·rfl
theorem lO {P : Program} {c : Cfg} {all : List Oper} {K : St → Prop} : ∀ (r : List Oper) (ks : List DK) (st : St), eF P c all (r.map iB) ks st K = eF P c all r ks st K
 | [], _, _ => rfl
 | _ :: _, [], _ => rfl
 | o :: r, k :: ks, st => by
  have ih : (fun st' => eF P c all (r.map iB) ks st' K) = fun st' => eF P c all r ks st' K := funext fun st' => lO r ks st';show eF P c all (iB o :: r.map iB) (k :: ks) st K = _
  unfold eF;simp only [iB, ih];congr 1;split
  ·rfl
  ·split
   ·split
    ·rw [lO r]
    ·rfl
   ·rfl
theorem kV {P : Program} {c : Cfg} {id : Nat} {ops ops' : List Oper} {Q : Exit → St → Prop} {st : St} (he : ops.map iB = ops') (h : ∀ all : List Oper, (∀ j, bA all j = bA ops j) → ∀ K : St → Prop, (∀ s, Q .normal s → K s) → iL P c all ops' st K) : fH P (.region id ops.toArray false) Q st :=
 Bb fun K hK => by
  have := h ops (fun _ => rfl) K hK
  rwa [← he, sJ] at this
theorem uP {P : Program} {c : Cfg} {id : Nat} {ops ops' : List Oper} (ks : List DK) {Q : Exit → St → Prop} {st : St} (hm : P.follows .mixedOrders = true) (hok : sT c ops ks = true) (he : ops.map iB = ops')
  (h : ∀ all : List Oper, (∀ j, bA all j = bA ops j) → ∀ K : St → Prop, (∀ s, Q .normal s → K s) → eF P c all ops' ks st K) : fH P (.region id ops.toArray true) Q st :=
 Na ks hm hok fun K hK => by
  have := h ops (fun _ => rfl) K hK
  rwa [← he, lO] at this
def Dl : D → Prop
 | .v (.slice none 0 0) => True
 | _ => False
def sF (x y : D) : Prop := y = x ∨ (x.plain = true ∧ y = x.strip) ∨ (Dl x ∧ (y = .sl false [] ∨ y = .sl true []))
theorem Cj : Dl (.v (.slice none 0 0)) = True := rfl
def fI : List D → List D → Prop
 | [], [] => True
 | a :: r, b :: q => sF a b ∧ fI r q
 | _, _ => False
theorem cV {a b : List D} (h : a = b) : fI a b := by
 subst h;induction a with
 | nil => trivial
 | cons x r ih => exact ⟨.inl rfl, ih⟩
theorem rW : ∀ {a b : List D}, fI a b → a.length = b.length
 | [], [], _ => rfl
 | _ :: _, _ :: _, h => by simp [rW h.2]
 | [], _ :: _, h => h.elim
 | _ :: _, [], h => h.elim
theorem tK : ∀ {a b : List D}, fI a b → ∀ (i : Nat) (y : D), b[i]? = some y → ∃ x, a[i]? = some x ∧ sF x y
 | x :: _, _ :: _, h, 0, y, hy => by simp at hy; subst hy; exact ⟨x, rfl, h.1⟩
 | _ :: _, _ :: _, h, i + 1, y, hy => by simpa using tK h.2 i y (by simpa using hy)
 | [], [], _, _, _, hy => by simp at hy
 | [], _ :: _, h, _, _, _ => h.elim
 | _ :: _, [], h, _, _, _ => h.elim
theorem Ct.of_le {P : Program} {f : FuncId} {a a' : List D} {σ σ' : List (List D)} {Q : D → List (List D) → Prop} (h : Ct P f a σ Q) (e : fI a' a) (e2 : σ' = σ) : Ct P f a' σ' Q := by
 subst e2;refine ⟨h.1, fun w g vs hs hb ho => h.2 w g vs (by rw [hs, rW e]) hb ⟨ho.mem, ho.xlt, fun t => ?_, ho.ll, ho.loc, ho.ol, ho.obj⟩⟩;have hsl := ho.slot t;simp only [St.ofArgs] at hsl ⊢;unfold bZ at hsl ⊢;cases hy : a[t]? with
 | none => exact ⟨.any _, .flat _ _ _ rfl⟩
 | some y =>
  obtain ⟨x, hx, hle⟩ := tK e t y hy;rw [hx] at hsl;rcases hle with rfl | ⟨hp, rfl⟩ | ⟨hn, hy⟩
  ·exact hsl
  ·exact hD hsl.1 hp t
  ·have hxn : x = .v (.slice none 0 0) := by
    unfold Dl at hn;split at hn
    ·rfl
    ·exact hn.elim
   subst hxn;obtain ⟨hr, _⟩ := hsl;have hv := hr.vEq;rcases hy with rfl | rfl
   ·exact ⟨by rw [hv]; exact .nil _, .flat _ _ _ rfl⟩
   ·exact ⟨by rw [hv]; exact .nil _, .sl _ _ _ (.inl ⟨_, _, hv⟩)⟩
theorem nR : ∀ (sets : List (Nat × Slot)) (l : List (Nat × Slot)), cD sets (bT l) = bT (sets.reverseAux l)
 | [], l => rfl
 | (a, s) :: r, l => by
  show cD r (fun u => if u = a then s else bT l u) = _
  have : (fun u => if u = a then s else bT l u) = bT ((a, s) :: l) := by funext u; rw [iG]
  rw [this, nR r]; rfl
theorem Uu (n : Nat) (l : List (Nat × Slot)) (loc obj : List (List D)) (sets : List (Nat × Slot)) (ob : Option (List (List D))) : (St.mk' n l loc obj).upd ⟨sets, none, ob⟩ = St.mk' n (sets.reverseAux l) loc (ob.getD obj) := by
 show ({ n := n, env := cD sets (bT l), loc := loc, obj := ob.getD obj } : St) = _
 rw [nR]; rfl
theorem Cd (l : List (Nat × Slot)) : List.reverseAux [] l = l := rfl
theorem yQ (a : Nat × Slot) (r l : List (Nat × Slot)) : List.reverseAux (a :: r) l = List.reverseAux r (a :: l) := rfl
def Je (R : fE) (K : List (Nat × Slot) → Option (List (List D)) → Prop) : Prop := ∃ sets ob, R sets ob ∧ K sets ob
@[congr] theorem Xe {R R' : fE} {K : List (Nat × Slot) → Option (List (List D)) → Prop} (h : R = R') : Je R K = Je R' K := by rw [h]
theorem Sz {P : Program} {alt : Bool} {dst : Option Tmp} {op : Op} {st : St} {K : St → Prop} : Xy P alt dst op st K = Je (fun sets ob => yR P alt dst op st.rdS (if (Lf alt op).rO = true then st.obj else []) sets ob) (fun sets ob => K (st.upd ⟨sets, none, ob⟩)) := rfl
theorem Td {S : List (Nat × Slot)} {O : Option (List (List D))} {K : List (Nat × Slot) → Option (List (List D)) → Prop} : Je (fun sets ob => sets = S ∧ ob = O) K = K S O := by
 apply propext;constructor
 ·rintro ⟨_, _, ⟨rfl, rfl⟩, h⟩; exact h
 ·intro h; exact ⟨_, _, ⟨rfl, rfl⟩, h⟩
theorem Ra {C : Prop} {R : fE} {K : List (Nat × Slot) → Option (List (List D)) → Prop} : Je (fun sets ob => C ∧ R sets ob) K = (C ∧ Je (fun sets ob => R sets ob) K) := by
 apply propext;constructor
 ·rintro ⟨_, _, ⟨h1, h2⟩, h⟩; exact ⟨h1, _, _, h2, h⟩
 ·rintro ⟨h1, _, _, h2, h⟩; exact ⟨_, _, ⟨h1, h2⟩, h⟩
theorem Tl {α : Type} {R : α → fE} {K : List (Nat × Slot) → Option (List (List D)) → Prop} : Je (fun sets ob => ∃ x, R x sets ob) K = ∃ x, Je (fun sets ob => R x sets ob) K := by
 apply propext;constructor
 ·rintro ⟨_, _, ⟨x, h2⟩, h⟩; exact ⟨x, _, _, h2, h⟩
 ·rintro ⟨x, _, _, h2, h⟩; exact ⟨_, _, ⟨x, h2⟩, h⟩
theorem Uv {R S : fE} {K : List (Nat × Slot) → Option (List (List D)) → Prop} : Je (fun sets ob => R sets ob ∨ S sets ob) K = (Je (fun sets ob => R sets ob) K ∨ Je (fun sets ob => S sets ob) K) := by
 apply propext;constructor
 ·rintro ⟨_, _, h1 | h1, h⟩
  ·exact .inl ⟨_, _, h1, h⟩
  ·exact .inr ⟨_, _, h1, h⟩
 ·rintro (⟨_, _, h1, h⟩ | ⟨_, _, h1, h⟩)
  ·exact ⟨_, _, .inl h1, h⟩
  ·exact ⟨_, _, .inr h1, h⟩
theorem Vv {K : List (Nat × Slot) → Option (List (List D)) → Prop} : Je (fun _ _ => False) K = False := by
 apply propext;exact ⟨fun ⟨_, _, h, _⟩ => h, False.elim⟩
attribute [simp] Sz Td Ra Tl Uv Vv
attribute [simp] Uu Cd yQ Ys qC xS yR Og Oh oR vS Ge Gf lK uU Gp Lf xZ oF Nu Cj jY jO lQ rS iH pV lU pY lJ uX dA iZ Bool.true_or Bool.false_or
theorem Hc (cs : List D) : D.strip (.tup cs) = .tup (cs.map D.s2) := rfl
attribute [simp] Hc D.plain
theorem Ur (n : Nat) (cs : List D) : lD true n cs = if n ≤ cs.length then some (.agg (cs.take n)) else none := rfl
theorem Ue (n : Nat) (cs : List D) : lD false n cs = cs.head? := rfl
theorem aJ (cs : List D) (off : Nat) (ds : List D) : bO cs off ds = cs.take off ++ ds ++ cs.drop (off + ds.length) := rfl
attribute [simp low] Ur Ue aJ
attribute [simp] wC Aa Ug Ku Hp Ov Nt Pa It Mw Up
attribute [simp] Gz Nh Ka Sl Wk Vy Tx Sj Wg Wq Si Ie Lb Ju Hr Nq Lh Cc Fx Gu Gl Mn Jy Wf Tw Qj Tn Pr Jt Ii Jl iE gJ Bj yW xL Mg yI Gg Is yA Cn
attribute [simp] Qx List.getElem?_cons_zero Option.bind_some Er rI rJ rF vO vT Qk Mz Jj Nz Nn Ee Hg Nk Uh Kk jV Vn Jq
 Om Jk Cp Rf Qb Pj Mj Hi Il Hq Hv Hu aAh Wi Sq Ua Ss Th Xm Wc To Ty Tf
 Qu Le Iw Hn Gq Ih Im Pe Mh Gn Gc Hy Gs Kw Gm Db Cg Pi Ml Fz Fu
 eX Pt Nw Lr Fw Ti Pd Kj Mt Qg Rx Rl Uc Ui Uw Un In Uq Tv Qf Kh Km aQ cZ xP Qo bN Ff qB eE iK jJ gK cX Uy lY rR Ac dV kF qU Pp qK qX eH dL eW jZ eS kB jT cK gM wH jW gN
 iS qQ lI jP eB fQ hP sR iR kT eC eQ cG kK mE uV St.cellsAt St.park Slot.plus Slot.isAddr Eg D.ofList
 Hs Bt Pg Wb Py Ll Ds Mq uL Rb Us Oa eJ gE dR oA tH pQ Nf Fv Hk Gi
end Go.Vm

