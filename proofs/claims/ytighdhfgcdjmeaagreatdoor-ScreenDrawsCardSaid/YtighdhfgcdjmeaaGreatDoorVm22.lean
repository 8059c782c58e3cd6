import Derived.Test.YtighdhfgcdjmeaaGreatDoorVm21
namespace Go.Vm
open Go
set_option linter.all false
section
variable {P : Program}
theorem aB {y : Code} {Q : Exit → St → Prop} {s : St} (h : fL P y Q s) : Do P y Q .normal s := h
theorem bC {y : Code} {Q : Exit → St → Prop} {s : St} {i : Nat} (h : Q (.exit i) s) : Do P y Q (.exit i) s := h
theorem bG {y : Code} {Q : Exit → St → Prop} {s : St} (h : Q .ret s) : Do P y Q .ret s := h
theorem aN {i : Nat} {Q : Exit → St → Prop} {s : St} (h : Q .normal s) : pB i Q .normal s := h
theorem aS {i : Nat} {Q : Exit → St → Prop} {s : St} (h : Q .normal s) : pB i Q (.exit i) s := by simpa [pB] using h
theorem eK {i : Nat} {Q : Exit → St → Prop} {s : St} (h : Q .ret s) : pB i Q .ret s := h
theorem bA {α : Type} {S : α → St} {p : α → Prop} {m : α → Nat} {x : α} {Q : Exit → St → Prop} {s : St} {i : Nat} (h : Q (.exit i) s) : qT S p m x Q (.exit i) s := h
theorem lN {α : Type} {S : α → St} {p : α → Prop} {m : α → Nat} {x : α} {Q : Exit → St → Prop} {s : St} (h : Q .ret s) : qT S p m x Q .ret s := h
def rW (d : D) (A B : Prop) : Prop := match d with
 | .v (.bool t) => (t = true → A) ∧ (t = false → B)
 | _ => False
theorem aI {c : Cfg} {all r : List Oper} {d : Option Tmp} {op : Op} {ty : TypeId} {pos : String} {after : Array Edge} {st : St} {K : St → Prop} (h : ∀ K' : St → Prop, (∀ s, iO P c all r s K → K' s) → Bz d st ∧ dB P c d op st K') : iO P c all (⟨d, op, ty, pos, after, none⟩ :: r) st K :=
 h _ fun _ h => h
theorem aA {c : Cfg} {all : List Oper} (n : Nat) {r : List Oper} {st : St} {K : St → Prop} (h : ∀ K' : St → Prop, (∀ s, iO P c all (r.drop n) s K → K' s) → iO P c all (r.take n) st K') : iO P c all r st K := by
 have go : ∀ (n : Nat) (r : List Oper) (st : St), iO P c all (r.take n) st (fun s => iO P c all (r.drop n) s K) → iO P c all r st K := by
  intro n;induction n with
  | zero => intro r st h; exact h
  | succ n ih =>
   intro r st h;cases r with
   | nil => exact h
   | cons o r =>
    simp only [List.take_succ_cons, List.drop_succ_cons] at h;unfold iO at h ⊢;split at h
    ·rename_i hg;have hd := h.1;refine ⟨hd, ?_⟩;exact mQ (fun s hs => ih r s hs) h.2
    ·rename_i j want hg;split at h
     ·split at h
      ·exact ⟨fun hb => ⟨(h.1 hb).1, mQ (fun s hs => ih r s hs) (h.1 hb).2⟩, fun hb => ⟨(h.2 hb).1, ih r _ (h.2 hb).2⟩⟩
      ·exact h.elim
     ·exact h.elim
 exact go n r st (h _ fun _ h => h)
theorem Va {c : Cfg} {all r : List Oper} {d : Option Tmp} {op : Op} {ty : TypeId} {pos : String} {after : Array Edge} {j t : Nat} {b want : Bool} {st : St} {K : St → Prop} (hg : aL all j = some t) (hs : st.env t = .d (.v (.bool b)))
  (h1 : b = want → ∀ K' : St → Prop, (∀ s, iO P c all r s K → K' s) → Bz d st ∧ dB P c d op st K') (h2 : b = !want → Bz d st ∧ iO P c all r (st.put d .und) K) : iO P c all (⟨d, op, ty, pos, after, some (j, want)⟩ :: r) st K := by
 rw [uZ];simp only [hg, hs];exact ⟨fun hb => h1 hb _ fun _ h => h, h2⟩
theorem Rm {c : Cfg} {all r : List Oper} {d : Option Tmp} {op : Op} {ty : TypeId} {pos : String} {after : Array Edge} {j t : Nat} {b want : Bool} {st : St} {K : St → Prop} (hg : aL all j = some t) (hs : st.env t = .d (.v (.bool b))) (hb : b = want)
  (h1 : ∀ K' : St → Prop, (∀ s, iO P c all r s K → K' s) → Bz d st ∧ dB P c d op st K') : iO P c all (⟨d, op, ty, pos, after, some (j, want)⟩ :: r) st K :=
 Va hg hs (fun _ => h1) fun h => (by rw [hb] at h; cases want <;> cases h)
theorem yD {n t : Nat} {l : List (Nat × Slot)} {loc obj : List (List D)} {b : Bool} (hs : bV l t = .d (.v (.bool b))) : St.mk' n l loc obj = St.mk' n ((t, .d (.bool b)) :: l) loc obj := by
 unfold St.mk';congr 1;funext u;simp only [bV];split
 ·rename_i e; rw [e, hs]
 ·rfl
theorem aX {c : Cfg} {all r : List Oper} {n : Nat} {l : List (Nat × Slot)} {loc obj : List (List D)} {K : St → Prop} (t : Nat) {s : Slot} (hs : bV l t = s)
  (h : rW s.toD (iO P c all r (St.mk' n ((t, .d (.bool true)) :: l) loc obj) K) (iO P c all r (St.mk' n ((t, .d (.bool false)) :: l) loc obj) K)) : iO P c all r (St.mk' n l loc obj) K := by
 unfold rW at h;split at h
 ·rename_i b hb;have hs' : bV l t = .d (.v (.bool b)) := by
   rw [hs];cases s with
   | d d => simp only [Slot.toD] at hb; rw [hb]
   | lref n o => simp [Slot.toD] at hb
  rw [yD hs'];cases b
  ·exact h.2 rfl
  ·exact h.1 rfl
 ·exact h.elim
def Rh (P : Program) (c : Cfg) (all r : List Oper) (K : St → Prop) : St → Prop := fun st => iO P c all r st K
theorem Kk {c : Cfg} {all r : List Oper} {K : St → Prop} {st : St} : Rh P c all r K st = iO P c all r st K := rfl
theorem Nj {c : Cfg} {all r : List Oper} {d : Option Tmp} {op : Op} {ty : TypeId} {pos : String} {after : Array Edge} {st : St} {K : St → Prop} : iO P c all (⟨d, op, ty, pos, after, none⟩ :: r) st K = (Bz d st ∧ dB P c d op st (Rh P c all r K)) := rfl
def Jt (P : Program) (c : Cfg) (all r : List Oper) (ks : List DK) (K : St → Prop) : St → Prop := fun st => eS P c all r ks st K
theorem Ei {c : Cfg} {all r : List Oper} {ks : List DK} {K : St → Prop} {st : St} : Jt P c all r ks K st = eS P c all r ks st K := rfl
theorem Ku {c : Cfg} {all r : List Oper} {d : Option Tmp} {op : Op} {ty : TypeId} {pos : String} {after : Array Edge} {k : DK} {ks : List DK} {st : St} {K : St → Prop} : eS P c all (⟨d, op, ty, pos, after, none⟩ :: r) (k :: ks) st K = (Bz d st ∧ nG P c d op k st (Jt P c all r ks K)) := rfl
@[congr] theorem Uk {op : BinOp} {t : TypeId} {x y x' y' : Slot} {K : D → Prop} (hx : x = x') (hy : y = y') : kN P op t x y K = kN P op t x' y' K := by rw [hx, hy]
@[congr] theorem Tx {op : BinOp} {k : IntKind} {a b a' b' : Int} {K : D → Prop} (hx : a = a') (hy : b = b') : qU op k a b K = qU op k a' b' K := by rw [hx, hy]
@[congr] theorem Tw {op : BinOp} {a b a' b' : ByteArray} {K : D → Prop} (hx : a = a') (hy : b = b') : qR op a b K = qR op a' b' K := by rw [hx, hy]
@[congr] theorem Ur {t : TypeId} {a b a' b' : List D} {K : Bool → Prop} (hx : a = a') (hy : b = b') : qP P t a b K = qP P t a' b' K := by rw [hx, hy]
@[congr] theorem Vj {op : UnOp} {x x' : D} {K : D → Prop} (hx : x = x') : qY op x K = qY op x' K := by rw [hx]
def To (b : Bool) (s r : Slot) : Slot := if b = true then s else r
@[congr] theorem Vx {b b' : Bool} {s r : Slot} (h : b = b') : To b s r = To b' s r := by rw [h]
theorem Qr {s r : Slot} : To true s r = s := rfl
theorem Qf {s r : Slot} : To false s r = r := rfl
theorem uL (a : Nat) (s : Slot) (r : List (Nat × Slot)) (t : Nat) : bV ((a, s) :: r) t = To (t == a) s (bV r t) := by
 simp only [bV, To, beq_iff_eq]
def Ve (s : Slot) (want : Bool) : Option Bool := qJ s want
def Vf (o : Option Tmp) (st : St) (want : Bool) : Option Bool := match o with
 | some t => Ve (st.env t) want
 | none => none
@[congr] theorem Yq {o o' : Option Tmp} {st : St} {want : Bool} (h : o = o') : Vf o st want = Vf o' st want := by rw [h]
theorem Kb (t : Tmp) (st : St) (want : Bool) : Vf (some t) st want = Ve (st.env t) want := rfl
theorem Ji (b want : Bool) : Ve (.d (.v (.bool b))) want = some b := rfl
theorem Od (want : Bool) : Ve (.d (.tup [])) want = some (!want) := rfl
def Kt (all : List Oper) (j : Nat) (st : St) (want : Bool) : Option Bool := match aL all j with
 | some t => qJ (st.env t) want
 | none => none
theorem Ni (all : List Oper) (j : Nat) (st : St) (want : Bool) : Kt all j st want = Vf (aL all j) st want := rfl
def Dm (g : Option Bool) (want : Bool) (A B : Prop) : Prop := match g with
 | some b => (b = want → A) ∧ (b = !want → B)
 | none => False
@[congr] theorem Tl {g g' : Option Bool} {want : Bool} {A B : Prop} (h : g = g') : Dm g want A B = Dm g' want A B := by rw [h]
theorem Sx {A B : Prop} : Dm (some true) true A B = A := by simp [Dm]
theorem Rz {A B : Prop} : Dm (some true) false A B = B := by simp [Dm]
theorem Ro {A B : Prop} : Dm (some false) true A B = B := by simp [Dm]
theorem Rq {A B : Prop} : Dm (some false) false A B = A := by simp [Dm]
theorem Th {c : Cfg} {all r : List Oper} {d : Option Tmp} {op : Op} {ty : TypeId} {pos : String} {after : Array Edge} {j : Nat} {want : Bool} {st : St} {K : St → Prop} : iO P c all (⟨d, op, ty, pos, after, some (j, want)⟩ :: r) st K =
  Dm (Kt all j st want) want (Bz d st ∧ dB P c d op st (Rh P c all r K)) (Bz d st ∧ iO P c all r (st.put d .und) K) := by
 rw [uZ];unfold Kt Dm;split
 ·rename_i t ht;simp only [ht];split
  ·rename_i h; simp [h]; exact fun _ => Iff.rfl
  ·rename_i h; simp [h]
 ·rename_i h; simp [h]
def Bv (d : D) (A B : Prop) : Prop := match d with
 | .v (.bool t) => (t = true → A) ∧ (t = false → B)
 | _ => False
@[congr] theorem Sf {d d' : D} {A B : Prop} (h : d = d') : Bv d A B = Bv d' A B := by rw [h]
theorem Ra {A B : Prop} : Bv (.v (.bool true)) A B = A := by simp [Bv]
theorem Qu {A B : Prop} : Bv (.v (.bool false)) A B = B := by simp [Bv]
theorem Hs {dst : Option Tmp} {c a b : Operand} {st : St} {K : St → Prop} : nB dst c a b st K = Bv (st.rd c) ((st.rd a).plain = true ∧ K (st.put dst (.d (st.rd a).strip))) ((st.rd b).plain = true ∧ K (st.put dst (.d (st.rd b).strip))) := rfl
theorem yX {c : Cfg} {dst : Option Tmp} {op : Op} {k : DK} {st : St} {K K' : St → Prop} (hk : ∀ s, K s → K' s) (h : nG P c dst op k st K) : nG P c dst op k st K' := by
 unfold nG at *;cases k with
 | op f => exact ⟨h.1, h.2.1, mQ hk h.2.2⟩
 | pure =>
  simp only at *;split at h
  ·obtain ⟨h1, r, h2, h3⟩ := h; exact ⟨h1, r, h2, hk _ h3⟩
  ·exact h
 | pureC =>
  simp only at *;split at h
  ·split at h
   ·rename_i hf;obtain ⟨h0, h1, r, h2, h3⟩ := h;exact ⟨h0, h1, r, h2, hk _ h3⟩
   ·exact h.elim
  ·exact h
 | read =>
  simp only at *;split at h
  ·obtain ⟨h1, r, h2, h3⟩ := h; exact ⟨h1, r, h2, hk _ h3⟩
  ·exact h
 | det =>
  simp only at *;split at h
  ·obtain ⟨h1, r, σ0, h2, h3⟩ := h; exact ⟨h1, r, σ0, h2, hk _ h3⟩
  ·exact h
 | readT =>
  simp only at *;split at h
  ·obtain ⟨h1, r, h2, h3⟩ := h; exact ⟨h1, r, h2, hk _ h3⟩
  ·exact h
 | nd =>
  obtain ⟨Q, h1, h2⟩ := h;exact ⟨Q, h1, fun r σ0 hq => hk _ (h2 r σ0 hq)⟩
 | detA =>
  simp only at *;split at h
  ·obtain ⟨h1, r, J, h2, h3⟩ := h; exact ⟨h1, r, J, h2, hk _ h3⟩
  ·exact h
 | pureT =>
  simp only at *;split at h
  ·obtain ⟨h0, h1, r, h2, h3⟩ := h; exact ⟨h0, h1, r, h2, hk _ h3⟩
  ·exact h
 | detT =>
  simp only at *;split at h
  ·obtain ⟨h0, h1, r, σ0, h2, h3⟩ := h; exact ⟨h0, h1, r, σ0, h2, hk _ h3⟩
  ·exact h
theorem nS {c : Cfg} {all : List Oper} {ks : List DK} {st : St} {K : St → Prop} : eS P c all [] ks st K = K st := by unfold eS; rfl
theorem Ps {c : Cfg} {all r : List Oper} {d : Option Tmp} {op : Op} {ty : TypeId} {pos : String} {after : Array Edge} {j : Nat} {want : Bool} {k : DK} {ks : List DK} {st : St} {K : St → Prop} : eS P c all (⟨d, op, ty, pos, after, some (j, want)⟩ :: r) (k :: ks) st K =
  (Bz d st ∧ Dm (Kt all j st want) want (nG P c d op k st (Jt P c all r ks K)) (eS P c all r ks (st.put d .und) K)) := by
 conv => lhs; unfold eS
 show (_ ∧ _) = _
 congr 1;simp only;unfold Kt Dm;split
 ·rename_i t ht;simp only [ht];split
  ·rename_i h; simp [h]; exact fun _ => Iff.rfl
  ·rename_i h; simp [h]
 ·rename_i h; simp [h]
theorem cL {c : Cfg} {all r : List Oper} {d : Option Tmp} {op : Op} {ty : TypeId} {pos : String} {after : Array Edge} {k : DK} {ks : List DK} {st : St} {K : St → Prop} (h : ∀ K' : St → Prop, (∀ s, eS P c all r ks s K → K' s) → Bz d st ∧ nG P c d op k st K') : eS P c all (⟨d, op, ty, pos, after, none⟩ :: r) (k :: ks) st K :=
 h _ fun _ h => h
theorem bJ {c : Cfg} {all : List Oper} (n : Nat) {r : List Oper} {ks : List DK} {st : St} {K : St → Prop} (hks : n ≤ ks.length) (h : ∀ K' : St → Prop, (∀ s, eS P c all (r.drop n) (ks.drop n) s K → K' s) → eS P c all (r.take n) (ks.take n) st K') : eS P c all r ks st K := by
 have go : ∀ (n : Nat) (r : List Oper) (ks : List DK) (st : St), n ≤ ks.length → eS P c all (r.take n) (ks.take n) st (fun s => eS P c all (r.drop n) (ks.drop n) s K) → eS P c all r ks st K := by
  intro n;induction n with
  | zero => intro r ks st _ h; simp only [List.take_zero, List.drop_zero, nS] at h; exact h
  | succ n ih =>
   intro r ks st hks h;cases ks with
   | nil => simp at hks
   | cons k ks =>
    cases r with
    | nil => simp only [List.take_nil, List.drop_nil, nS] at h ⊢; exact h
    | cons o r =>
     simp only [List.take_succ_cons, List.drop_succ_cons] at h;simp only [List.length_cons] at hks;unfold eS at h ⊢;refine ⟨h.1, ?_⟩;have h2 := h.2;split at h2
     ·exact yX (fun s hs => ih r ks s (by omega) hs) h2
     ·split at h2
      ·split at h2
       ·exact ⟨fun hb => yX (fun s hs => ih r ks s (by omega) hs) (h2.1 hb), fun hb => ih r ks _ (by omega) (h2.2 hb)⟩
       ·exact h2.elim
      ·exact h2.elim
 exact go n r ks st hks (h _ fun _ h => h)
def Cf : List Nat → List (Nat × Slot) → List (Nat × Slot)
 | _, [] => []
 | W, (t, s) :: r => if W.contains t then Cf W r else (t, s) :: Cf (t :: W) r
theorem Py (n : Nat) (s : Slot) : wK n s (.d .any) = True := by
 unfold wK; split <;> simp_all
theorem Tv (n : Nat) (x : D) : wK n (.d x) (.d x) = True := by
 cases x with
 | sl o es => cases o <;> simp [wK]
 | _ => simp [wK]
theorem Nu (n : Nat) (es : List D) : wK n (.d (.sl true es)) (.d (.sl false es)) = True := by
 unfold wK; simp
theorem Mk (n m o : Nat) : wK n (.lref m o) (.lref m o) = (m < n) := by
 unfold wK; simp
def mG (n : Nat) (env : Nat → Slot) : List (Nat × Slot) → Prop
 | [] => True
 | (a, s) :: r => wK n (env a) s ∧ mG n env r
theorem Ft (n : Nat) (env : Nat → Slot) : mG n env [] = True := rfl
theorem Bu (n : Nat) (env : Nat → Slot) (a : Nat) (s : Slot) (r : List (Nat × Slot)) : mG n env ((a, s) :: r) = (wK n (env a) s ∧ mG n env r) := rfl
theorem iU {n : Nat} {env : Nat → Slot} : ∀ {l : List (Nat × Slot)}, mG n env l → ∀ p ∈ l, wK n (env p.1) p.2
 | [], _, p, hp => by simp at hp
 | (a, s) :: r, h, p, hp => by
  rcases List.mem_cons.1 hp with rfl | hp
  ·exact h.1
  ·exact iU h.2 p hp
theorem aW {st : St} {n : Nat} {l : List (Nat × Slot)} {loc obj : List (List D)} (hn : st.n = n) (hl : mG loc.length st.env l) (hloc : loc <+: st.loc) (hobj : st.obj = obj) : Weak st (St.mk' n l loc obj) :=
 rB hn (iU hl) hloc hobj
theorem cR {α : Type} {n : Nat} {l l2 : List (Nat × Slot)} {loc obj : List (List D)} (F : α → List (Nat × Slot)) (W : List Nat) (p : α → Prop) (m : α → Nat) (x0 : α) {body : Code} {Q : Exit → St → Prop}
  (hl : Cf W l = l2) (hF : mG loc.length (bV l) (F x0 ++ l2)) (hp : p x0)
  (h : ∀ x, p x → fL P body (qT (fun x => St.mk' n (F x ++ l2) loc obj) p m x Q) (St.mk' n (F x ++ l2) loc obj)) : fL P (.loop body) Q (St.mk' n l loc obj) :=
 tQ (fun x => St.mk' n (F x ++ l2) loc obj) p m x0 (rB rfl (iU hF) (List.prefix_refl _) rfl) hp h
theorem dY {α : Type} {n : Nat} {l l2 : List (Nat × Slot)} {loc obj : List (List D)} (F : α → List (Nat × Slot)) (G : α → List (List D)) (W : List Nat) (p : α → Prop) (m : α → Nat) (x0 : α) {body : Code} {Q : Exit → St → Prop}
  (hl : Cf W l = l2) (hF : mG (G x0).length (bV l) (F x0 ++ l2)) (hG : G x0 = loc) (hp : p x0)
  (h : ∀ x, p x → fL P body (qT (fun x => St.mk' n (F x ++ l2) (G x) obj) p m x Q) (St.mk' n (F x ++ l2) (G x) obj)) : fL P (.loop body) Q (St.mk' n l loc obj) :=
 tQ (fun x => St.mk' n (F x ++ l2) (G x) obj) p m x0 (rB rfl (iU hF) (by rw [hG]; exact List.prefix_refl _) rfl) hp h
theorem gP {α : Type} {n : Nat} {l l2 : List (Nat × Slot)} {loc obj : List (List D)} (F : α → List (Nat × Slot)) (G H : α → List (List D)) (W : List Nat) (p : α → Prop) (m : α → Nat) (x0 : α) {body : Code} {Q : Exit → St → Prop}
  (hl : Cf W l = l2) (hF : mG (G x0).length (bV l) (F x0 ++ l2)) (hG : G x0 = loc) (hH : H x0 = obj) (hp : p x0)
  (h : ∀ x, p x → fL P body (qT (fun x => St.mk' n (F x ++ l2) (G x) (H x)) p m x Q) (St.mk' n (F x ++ l2) (G x) (H x))) : fL P (.loop body) Q (St.mk' n l loc obj) :=
 tQ (fun x => St.mk' n (F x ++ l2) (G x) (H x)) p m x0 (rB rfl (iU hF) (by rw [hG]; exact List.prefix_refl _) hH.symm) hp h
theorem bL {α : Type} {S : α → St} {p : α → Prop} {m : α → Nat} {x : α} {Q : Exit → St → Prop} {s : St} (y : α) (hp : p y) (hm : m y < m x) (hw : Weak s (S y)) : qT S p m x Q .normal s := ⟨y, hp, hm, hw⟩
theorem Bn (n : Nat) : D.strip (.mref n) = .mref n := rfl
theorem Pt (n : Nat) : D.s1 (.mref n) = .mref n := rfl
theorem Qe (n : Nat) : D.s2 (.mref n) = .mref n := rfl
theorem Ao (n : Nat) : D.plain (.mref n) = true := rfl
theorem Cx (n : Nat) : D.solid (.mref n) = true := rfl
theorem Ai (n : Nat) : D.ncells (.mref n) = 1 := rfl
theorem At (n : Nat) : D.cells (.mref n) = [.mref n] := rfl
theorem Fo (n a b : Nat) (l : List Nat) : D.strip (.mit n a l b) = .any := rfl
theorem Sh (n a b : Nat) (l : List Nat) : D.s1 (.mit n a l b) = .any := rfl
theorem Sd (n a b : Nat) (l : List Nat) : D.s2 (.mit n a l b) = .any := rfl
theorem Gt (n a b : Nat) (l : List Nat) : D.plain (.mit n a l b) = true := rfl
theorem Fd (n a b : Nat) (l : List Nat) : D.solid (.mit n a l b) = false := rfl
theorem Kv (n c : Nat) (kd : TypeDesc) (kvs : List (Value × Nat × D)) : D.strip (.mp n kd c kvs) = .mref n := rfl
theorem Ut (n c : Nat) (kd : TypeDesc) (kvs : List (Value × Nat × D)) : D.s1 (.mp n kd c kvs) = .mref n := rfl
theorem Uy (n c : Nat) (kd : TypeDesc) (kvs : List (Value × Nat × D)) : D.s2 (.mp n kd c kvs) = .mref n := rfl
theorem Lr (n c : Nat) (kd : TypeDesc) (kvs : List (Value × Nat × D)) : D.plain (.mp n kd c kvs) = true := rfl
theorem Ka (n c : Nat) (kd : TypeDesc) (kvs : List (Value × Nat × D)) : D.solid (.mp n kd c kvs) = true := rfl
theorem Fv (n c : Nat) (kd : TypeDesc) (kvs : List (Value × Nat × D)) : D.ncells (.mp n kd c kvs) = 1 := rfl
theorem Jm (n c : Nat) (kd : TypeDesc) (kvs : List (Value × Nat × D)) : D.cells (.mp n kd c kvs) = [.mp n kd c kvs] := rfl
theorem Hu (t : TypeId) (d : D) : D.strip (.ifc t d) = .ifc t d := rfl
theorem So (t : TypeId) (d : D) : D.s1 (.ifc t d) = .ifc t d := rfl
theorem Rj (t : TypeId) (d : D) : D.s2 (.ifc t d) = .ifc t d := rfl
theorem Ej (t : TypeId) (d : D) : D.plain (.ifc t d) = true := rfl
theorem Fa (t : TypeId) (d : D) : D.solid (.ifc t d) = true := rfl
theorem Dd (t : TypeId) (d : D) : D.ncells (.ifc t d) = 1 := rfl
theorem El (t : TypeId) (d : D) : D.cells (.ifc t d) = [.ifc t d] := rfl
theorem Ks (n : Nat) : D.arr (.mref n) = true := rfl
attribute [simp] Fo Sh Sd Gt Fd jS nI jP Qq Bn Pt Qe Ao Cx Ai At Kv Ut Uy Lr Ka Fv Jm Hu So Rj Ej Fa Dd El Ks
theorem Fe (n a b c : Nat) : D.strip (.slo n a b c) = .slo n a b c := rfl
theorem Lo (n : Nat) : D.strip (.xl n) = .xl n := rfl
theorem Kj (k : Nat) (es : List D) : D.strip (.xs k es) = .xl es.length := rfl
theorem Ru (n a b c : Nat) : D.s2 (.slo n a b c) = .slo n a b c := rfl
theorem Tq (n : Nat) : D.s2 (.xl n) = .xl n := rfl
theorem Ts (k : Nat) (es : List D) : D.s2 (.xs k es) = .xl es.length := rfl
theorem Sg (f : Go.Fn) (a b : List D) : D.s2 (.clo f a b) = .clo f a b := rfl
theorem Sa (n a b c : Nat) : D.s1 (.slo n a b c) = .slo n a b c := rfl
theorem Ug (n : Nat) : D.s1 (.xl n) = .xl n := rfl
theorem Us (k : Nat) (es : List D) : D.s1 (.xs k es) = .xl es.length := rfl
theorem Tg (f : Go.Fn) (a b : List D) : D.s1 (.clo f a b) = .clo f a b := rfl
theorem Gf (n a b c : Nat) : D.plain (.slo n a b c) = true := rfl
theorem Iw (n : Nat) : D.plain (.xl n) = true := rfl
theorem Lv (k : Nat) (es : List D) : D.plain (.xs k es) = true := rfl
theorem Fc (n a b c : Nat) : D.solid (.slo n a b c) = true := rfl
theorem Le (n : Nat) : D.solid (.xl n) = true := rfl
theorem Jz (k : Nat) (es : List D) : D.solid (.xs k es) = true := rfl
theorem Bo (n a b c : Nat) : D.ncells (.slo n a b c) = 1 := rfl
theorem Fs (n : Nat) : D.ncells (.xl n) = 1 := rfl
theorem Fk (k : Nat) (es : List D) : D.ncells (.xs k es) = 1 := rfl
theorem Fg (n a b c : Nat) : D.cells (.slo n a b c) = [.slo n a b c] := rfl
theorem Kf (n : Nat) : D.cells (.xl n) = [.xl n] := rfl
theorem Lz (k : Nat) (es : List D) : D.cells (.xs k es) = [.xs k es] := rfl
theorem Uj (x : Value) : D.arr (.v x) = true := rfl
theorem Ta (es : List D) : D.arr (.sl false es) = true := rfl
theorem Nz (cs : List D) : D.arr (.agg cs) = cs.all D.flat := rfl
theorem Sp (x : Value) : D.flat (.v x) = true := rfl
theorem Pj (es : List D) : D.flat (.sl false es) = true := rfl
theorem It (n o : Nat) : D.flat (.ref n o) = true := rfl
def pN : List (Nat × List D) → List (List D) → List (List D)
 | [], l => l
 | (n, c) :: r, l => (pN r l).set n c
theorem iJ (l : List (List D)) : pN [] l = l := rfl
theorem gK (n : Nat) (c : List D) (r : List (Nat × List D)) (l : List (List D)) : pN ((n, c) :: r) l = (pN r l).set n c := rfl
theorem iA {P : Program} {α : Type} {n : Nat} {l l2 : List (Nat × Slot)} {loc obj : List (List D)} (F : α → List (Nat × Slot)) (M N : α → List (Nat × List D)) (W : List Nat) (p : α → Prop) (m : α → Nat) (x0 : α) {body : Code} {Q : Exit → St → Prop}
  (hl : Cf W l = l2) (hF : mG (pN (M x0) loc).length (bV l) (F x0 ++ l2)) (hG : pN (M x0) loc = loc) (hH : pN (N x0) obj = obj) (hp : p x0)
  (h : ∀ x, p x → fL P body (qT (fun x => St.mk' n (F x ++ l2) (pN (M x) loc) (pN (N x) obj)) p m x Q) (St.mk' n (F x ++ l2) (pN (M x) loc) (pN (N x) obj))) : fL P (.loop body) Q (St.mk' n l loc obj) :=
 gP F (fun x => pN (M x) loc) (fun x => pN (N x) obj) W p m x0 hl hF hG hH hp h
theorem Hi {α : Type} (l : List α) (a : α) : (l ++ [a])[l.length]? = some a := by simp
theorem Lc {α : Type} (l : List α) (a b : α) : (l ++ [a]).set l.length b = l ++ [b] := by simp
def nU : List Nat → List (Nat × Slot) → List (Nat × Slot)
 | [], _ => []
 | t :: r, l => (t, bV l t) :: nU r l
theorem He (l : List (Nat × Slot)) : nU [] l = [] := rfl
theorem tE (t : Nat) (r : List Nat) (l : List (Nat × Slot)) : nU (t :: r) l = (t, bV l t) :: nU r l := rfl
theorem vQ (l : List (Nat × Slot)) (u : Nat) : ∀ K : List Nat, bV (nU K l) u = bV l u ∨ bV (nU K l) u = .any
 | [] => .inr rfl
 | t :: r => by
  rw [tE, iR];split
  ·rename_i h; subst h; exact .inl rfl
  ·exact vQ l u r
theorem Ln {P : Program} (K : List Nat) {l2 : List (Nat × Slot)} {c : Code} {n : Nat} {l : List (Nat × Slot)} {loc obj : List (List D)} {Q : Exit → St → Prop} (hl : nU K l = l2) (h : fL P c Q (St.mk' n l2 loc obj)) : fL P c Q (St.mk' n l loc obj) := by
 subst hl;intro w0 g0 w g tmps hf hok hn;refine h w0 g0 w g tmps hf ⟨hok.mem, hok.xlt, fun t => ?_, hok.ll, hok.loc, hok.ol, hok.obj⟩ hn;have hs := hok.slot t;show SlotOk w g t (bV (nU K l) t) _
 rcases vQ l t K with e | e
 ·rw [e]; exact hs
 ·rw [e]; exact ⟨.any _, .flat _ _ _ rfl⟩
theorem pK {P : Program} (ts k : Nat) {es : List D} {c : Code} {n : Nat} {l : List (Nat × Slot)} {loc obj : List (List D)} {Q : Exit → St → Prop} (hs : bV l ts = .d (.xs k es)) (hk0 : 0 < k)
  (h : ∀ (cap : Nat) (rest : List D), es.length ≤ cap → cap ≤ maxLen → rest.length = (cap - es.length) * k → 0 < k → (∀ d ∈ es, d.ncells = k ∧ d.arr = true) → fL P c Q (St.mk' n ((ts, .d (.slo obj.length 0 es.length cap)) :: l) loc (obj ++ [es.flatMap D.cells ++ rest]))) : fL P c Q (St.mk' n l loc obj) := by
 intro w0 g0 w g tmps hf hok hn;obtain ⟨cap, rest, g', a1, a2, a3, a4, a5, _, hfr, hok'⟩ := hok.openX ts k es hs hk0;exact h cap rest a1 a2 a3 a4 a5 w0 g0 w g' tmps (hf.trans hfr) hok' hn
theorem eY {P : Program} (ts k : Nat) {es : List D} {c : Code} {n : Nat} {l : List (Nat × Slot)} {loc obj : List (List D)} {Q : Exit → St → Prop} (hs : bV l ts = .d (.xs k es)) (hk0 : 0 < k)
  (h : ∀ (cap : Nat) (rest : List D), es.length ≤ cap → cap ≤ maxLen → rest = List.replicate ((cap - es.length) * k) .any → 0 < k → (∀ d ∈ es, d.ncells = k ∧ d.arr = true) → fL P c Q (St.mk' n ((ts, .d (.slo obj.length 0 es.length cap)) :: l) loc (obj ++ [es.flatMap D.cells ++ rest]))) : fL P c Q (St.mk' n l loc obj) := by
 intro w0 g0 w g tmps hf hok hn;obtain ⟨cap, rest, g', a1, a2, a3, a4, a5, _, hfr, hok'⟩ := hok.openX2 ts k es hs hk0;exact h cap rest a1 a2 a3 a4 a5 w0 g0 w g' tmps (hf.trans hfr) hok' hn
theorem dF {P : Program} (ts k m len cap : Nat) (es cs : List D) {c : Code} {n : Nat} {l : List (Nat × Slot)} {loc obj : List (List D)} {Q : Exit → St → Prop} (hs : bV l ts = .d (.slo m 0 len cap)) (hm : obj[m]? = some cs) (hk : 0 < k) (hcs : cs.length = cap * k) (hl : es.length = len)
  (hes : ∀ d ∈ es, d.ncells = k ∧ d.arr = true) (he : es.flatMap D.cells <+: cs) (h : fL P c Q (St.mk' n ((ts, .d (.xs k es)) :: l) loc (obj.set m []))) : fL P c Q (St.mk' n l loc obj) := by
 intro w0 g0 w g tmps hf hok hn;obtain ⟨g', _, hfr, hok'⟩ := hok.closeX ts k m len cap es cs hs hm hk hcs hl hes he;exact h w0 g0 w g' tmps (hf.trans hfr) hok' hn
theorem Ko {α : Type} (f : α → D) (l : List α) (k : Nat) (h : k < l.length) : (l.map f).getD k .any = f l[k] := by
 simp [List.getD, h]
theorem uF {α : Type} (f : α → D) (l : List α) (k : Nat) (h : k < l.length) : (l.map f)[k]? = some (f l[k]) := by
 simp [h]
theorem Of (n : Int) : inR .i64 n = (-9223372036854775808 ≤ n ∧ n ≤ 9223372036854775807) := by
 unfold inR;rfl
theorem Rk (n : Int) : inR .u8 n = (0 ≤ n ∧ n ≤ 255) := by
 unfold inR;rfl
end
theorem Lx : wV [] = true := rfl
theorem Ga (r : List (Option Holder)) : wV (none :: r) = wV r := by simp [wV]
theorem Gl (h : Holder) (r : List (Option Holder)) : wV (some h :: r) = (!r.contains (some h) && wV r) := by
 simp only [wV, List.filterMap_cons, id, List.nodup_cons, Bool.decide_and, List.contains_eq_mem];congr 1;rw [← decide_not];congr 1;simp [List.mem_filterMap]
theorem Hk : maxLen = 9223372036854775807 := rfl
theorem Oo (n : Nat) (l : List (Nat × Slot)) (loc obj : List (List D)) : ({ n := n, env := bV l, loc := loc, obj := obj } : St) = St.mk' n l loc obj := rfl
def qF : Slot → Slot
 | .d x => .d x.strip
 | s => s
def fW : List Nat → List (Nat × Slot) → List (Nat × Slot)
 | [], l => l
 | t :: r, l => (t, qF (bV l t)) :: fW r l
theorem qS (l : List (Nat × Slot)) (u : Nat) : ∀ ts : List Nat, bV (fW ts l) u = if u ∈ ts then qF (bV l u) else bV l u
 | [] => by simp [fW]
 | t :: r => by
  rw [fW, iR, qS l u r];by_cases h : u = t
  ·subst h; simp
  ·simp [h]
theorem gW (l : List (Nat × Slot)) (ts : List (Option Nat)) : cO ts (bV l) = bV (fW (ts.filterMap id) l) := by
 funext u;rw [qS];by_cases h : some u ∈ ts
 ·have h1 : ts.contains (some u) = true := by simpa using h
  have h2 : u ∈ ts.filterMap id := by simpa using h
  simp only [cO, h1, if_true, if_pos h2, qF];split <;> simp_all
 ·have h1 : ts.contains (some u) = false := by simpa using h
  have h2 : ¬ u ∈ ts.filterMap id := by simpa using h
  simp only [cO, h1, if_neg h2]; rfl
theorem Br {P : Program} {d : Nat} {f : FuncId} {args : List Operand} {n : Nat} {l : List (Nat × Slot)} {loc obj : List (List D)} {K : St → Prop} : fV P (some d) f args (St.mk' n l loc obj) K =
  ((args.filterMap bD).Nodup ∧ (∀ x ∈ args, mH ((St.mk' n l loc obj).rdS x) = true ∧ ((St.mk' n l loc obj).rd x).plain = true) ∧
   Ct P f (args.map (kP (St.mk' n l loc obj))) obj (fun r σ' => K (St.mk' n ((d, .d r) :: fW (args.filterMap bD) l) loc σ'))) := by
 unfold fV;have e : (args.map bD).filterMap id = args.filterMap bD := by rw [List.filterMap_map]; rfl
 simp only [rM, rN, rJ, Dw, gW, e];rfl
theorem zP (l : List (Nat × Slot)) : fW [] l = l := rfl
theorem wZ (t : Nat) (r : List Nat) (l : List (Nat × Slot)) : fW (t :: r) l = (t, qF (bV l t)) :: fW r l := rfl
theorem Kx (x : D) : qF (.d x) = .d x.strip := rfl
theorem zL (a b : Nat) : qF (.lref a b) = .lref a b := rfl
theorem Hj : List.filterMap bD [] = [] := rfl
theorem Gy (t : Tmp) (r : List Operand) : List.filterMap bD (.tmp t :: r) = t :: List.filterMap bD r := rfl
theorem yQ (v : Value) (r : List Operand) : List.filterMap bD (.const v :: r) = List.filterMap bD r := rfl
theorem Bh (v : FuncId) (r : List Operand) : List.filterMap bD (.func v :: r) = List.filterMap bD r := rfl
theorem xG {P : Program} {c : Cfg} {d : Nat} {f : FuncId} {args : Array Operand} {ts : Array TypeId} {n : Nat} {l : List (Nat × Slot)} {loc obj : List (List D)} {K : St → Prop} :
  nG P c (some d) (.call ⟨.value (.func f), args, ts⟩) .pureT (St.mk' n l loc obj) K =
  ((args.toList.filterMap bD).Nodup ∧ (∀ x ∈ args.toList, mH ((St.mk' n l loc obj).rdS x) = true ∧ ((St.mk' n l loc obj).rd x).plain = true) ∧
   ∃ r, (∀ σ, Ct P f (args.toList.map (kP (St.mk' n l loc obj))) σ fun r' σ' => r' = r ∧ σ' = σ) ∧ K (St.mk' n ((d, .d r) :: fW (args.toList.filterMap bD) l) loc obj)) := by
 have e : (args.toList.map bD).filterMap id = args.toList.filterMap bD := by rw [List.filterMap_map]; rfl
 simp only [nG, rM, rN, rJ, Dw, gW, e];rfl
theorem xZ {P : Program} {c : Cfg} {d : Nat} {f : FuncId} {args : Array Operand} {ts : Array TypeId} {n : Nat} {l : List (Nat × Slot)} {loc obj : List (List D)} {K : St → Prop} :
  nG P c (some d) (.call ⟨.value (.func f), args, ts⟩) .detT (St.mk' n l loc obj) K =
  ((args.toList.filterMap bD).Nodup ∧ (∀ x ∈ args.toList, mH ((St.mk' n l loc obj).rdS x) = true ∧ ((St.mk' n l loc obj).rd x).plain = true) ∧
   ∃ r σ0, (Ct P f (args.toList.map (kP (St.mk' n l loc obj))) obj fun r' σ' => r' = r ∧ σ' = σ0) ∧ K (St.mk' n ((d, .d r) :: fW (args.toList.filterMap bD) l) loc σ0)) := by
 have e : (args.toList.map bD).filterMap id = args.toList.filterMap bD := by rw [List.filterMap_map]; rfl
 simp only [nG, rM, rN, rJ, Dw, gW, e];rfl
theorem Ss {P : Program} {c : Cfg} {d : Option Tmp} {op : Op} {f : Fl} {st : St} {K : St → Prop} : nG P c d op (.op f) st K = (eI op = false ∧ gH c d st op = f ∧ dB P c d op st K) := rfl
theorem Lu {P : Program} {c : Cfg} {d : Option Tmp} {f : FuncId} {args : Array Operand} {ts : Array TypeId} {st : St} {K : St → Prop} : nG P c d (.call ⟨.value (.func f), args, ts⟩) .pure st K =
  (eQ args.toList st ∧ ∃ r, (∀ σ, Ct P f (cJ args.toList st) σ fun r' σ' => r' = r ∧ σ' = σ) ∧ K (st.put d (.d r))) := rfl
def Uw (P : Program) (dst : Option Tmp) (d : D) (args : List Operand) (st : St) (K : St → Prop) : Prop := match d with
 | .clo (.func fid) first caps => (∀ d ∈ first ++ caps, d.plain = true) ∧ eQ args st ∧ ∃ r, (∀ σ, Ct P fid (first.map D.strip ++ cJ args st ++ caps.map D.strip) σ fun r' σ' => r' = r ∧ σ' = σ) ∧ K (st.put dst (.d r))
 | _ => False
theorem Eu {P : Program} {c : Cfg} {d : Option Tmp} {f : Operand} {args : Array Operand} {ts : Array TypeId} {st : St} {K : St → Prop} : nG P c d (.call ⟨.value f, args, ts⟩) .pureC st K = Uw P d (st.rd f) args.toList st K := rfl
theorem Pl {P : Program} {dst : Option Tmp} {fid : FuncId} {first caps : List D} {args : List Operand} {st : St} {K : St → Prop} : Uw P dst (.clo (.func fid) first caps) args st K = ((∀ d ∈ first ++ caps, d.plain = true) ∧ eQ args st ∧ ∃ r, (∀ σ, Ct P fid (first.map D.strip ++ cJ args st ++ caps.map D.strip) σ fun r' σ' => r' = r ∧ σ' = σ) ∧ K (st.put dst (.d r))) := rfl
theorem Me {P : Program} {c : Cfg} {d : Option Tmp} {f : FuncId} {args : Array Operand} {ts : Array TypeId} {st : St} {K : St → Prop} : nG P c d (.call ⟨.value (.func f), args, ts⟩) .read st K =
  (eQ args.toList st ∧ ∃ r, (Ct P f (cJ args.toList st) st.obj fun r' σ' => r' = r ∧ σ' = st.obj) ∧ K (st.put d (.d r))) := rfl
theorem Ti {P : Program} {c : Cfg} {d : Option Tmp} {f : FuncId} {args : Array Operand} {ts : Array TypeId} {st : St} {K : St → Prop} : nG P c d (.call ⟨.value (.func f), args, ts⟩) .nd st K =
  ∃ Q, (eQ args.toList st ∧ Ct P f (cJ args.toList st) st.obj Q ∧ ∃ r σ0, Q r σ0) ∧ ∀ r σ0, Q r σ0 → K (({ st with obj := σ0 } : St).put d (.d r)) := rfl
theorem Ih {P : Program} {c : Cfg} {d : Option Tmp} {f : FuncId} {args : Array Operand} {ts : Array TypeId} {st : St} {K : St → Prop} : nG P c d (.call ⟨.value (.func f), args, ts⟩) .readT st K =
  (eQ args.toList st ∧ ∃ r, (∀ J, Ct P f (cJ args.toList st) (st.obj ++ J) fun r' σ' => r' = r ∧ σ' = st.obj ++ J) ∧ K (st.put d (.d r))) := rfl
theorem Mm {P : Program} {c : Cfg} {d : Option Tmp} {f : FuncId} {args : Array Operand} {ts : Array TypeId} {st : St} {K : St → Prop} : nG P c d (.call ⟨.value (.func f), args, ts⟩) .detA st K =
  (eQ args.toList st ∧ ∃ r J, (Ct P f (cJ args.toList st) st.obj fun r' σ' => r' = r ∧ σ' = st.obj ++ J) ∧ K (({ st with obj := st.obj ++ J } : St).put d (.d r))) := rfl
theorem Ou {P : Program} {c : Cfg} {d : Option Tmp} {f : FuncId} {args : Array Operand} {ts : Array TypeId} {st : St} {K : St → Prop} : nG P c d (.call ⟨.value (.func f), args, ts⟩) .det st K =
  (eQ args.toList st ∧ ∃ r σ0, (Ct P f (cJ args.toList st) st.obj fun r' σ' => r' = r ∧ σ' = σ0) ∧ K (({ st with obj := σ0 } : St).put d (.d r))) := rfl
theorem Oh {P : Program} {t : Nat} {a b : Code} {s : Slot} {n : Nat} {l : List (Nat × Slot)} {loc obj : List (List D)} {Q : Exit → St → Prop} (hs : bV l t = s)
  (h : rW s.toD (fL P a Q (St.mk' n ((t, .d (.bool true)) :: l) loc obj)) (fL P b Q (St.mk' n ((t, .d (.bool false)) :: l) loc obj))) : fL P (.cond (.tmp t) a b) Q (St.mk' n l loc obj) := by
 unfold rW at h;split at h
 ·rename_i v hv;have hs' : bV l t = .d (.v (.bool v)) := by
   rw [hs];cases s with
   | d d => simp only [Slot.toD] at hv; rw [hv]
   | lref n o => simp [Slot.toD] at hv
  rw [yD hs'];cases v with
  | true => exact bZ (t := true) (by simp [St.rd, St.rdS, iR, St.mk']) (fun _ => h.1 rfl) (fun h => by cases h)
  | false => exact bZ (t := false) (by simp [St.rd, St.rdS, iR, St.mk']) (fun h => by cases h) (fun _ => h.2 rfl)
 ·exact h.elim
def iE (o : Oper) : Oper := ⟨o.dst, o.op, 0, "", #[], o.guard⟩
theorem fT : List.map iE [] = [] := rfl
theorem fB (d : Option Tmp) (op : Op) (ty : TypeId) (pos : String) (after : Array Edge) (g : Option (Nat × Bool)) (r : List Oper) : List.map iE (⟨d, op, ty, pos, after, g⟩ :: r) = ⟨d, op, 0, "", #[], g⟩ :: List.map iE r := rfl
theorem sJ {P : Program} {c : Cfg} {all : List Oper} {K : St → Prop} : ∀ (r : List Oper) (st : St), iO P c all (r.map iE) st K = iO P c all r st K
 | [], _ => rfl
 | o :: r, st => by
  have ih : (fun st' => iO P c all (r.map iE) st' K) = fun st' => iO P c all r st' K := funext fun st' => sJ r st';show iO P c all (iE o :: r.map iE) st K = _
  unfold iO;simp only [iE, ih];split
  ·rfl
  ·split
   ·split
    ·rw [sJ r]; rfl
    ·rfl
   ·rfl
theorem mA {P : Program} {c : Cfg} {all : List Oper} {K : St → Prop} : ∀ (r : List Oper) (ks : List DK) (st : St), eS P c all (r.map iE) ks st K = eS P c all r ks st K
 | [], _, _ => rfl
 | _ :: _, [], _ => rfl
 | o :: r, k :: ks, st => by
  have ih : (fun st' => eS P c all (r.map iE) ks st' K) = fun st' => eS P c all r ks st' K := funext fun st' => mA r ks st';show eS P c all (iE o :: r.map iE) (k :: ks) st K = _
  unfold eS;simp only [iE, ih];congr 1;split
  ·rfl
  ·split
   ·split
    ·rw [mA r]
    ·rfl
   ·rfl
theorem lH {P : Program} {c : Cfg} {id : Nat} {ops ops' : List Oper} {Q : Exit → St → Prop} {st : St} (he : ops.map iE = ops') (h : ∀ all : List Oper, (∀ j, aL all j = aL ops j) → ∀ K : St → Prop, (∀ s, Q .normal s → K s) → iO P c all ops' st K) : fL P (.region id ops.toArray false) Q st :=
 Au fun K hK => by
  have := h ops (fun _ => rfl) K hK
  rwa [← he, sJ] at this
theorem uM {P : Program} {c : Cfg} {id : Nat} {ops ops' : List Oper} (ks : List DK) {Q : Exit → St → Prop} {st : St} (hm : P.follows .mixedOrders = true) (hok : rQ c ops ks = true) (he : ops.map iE = ops')
  (h : ∀ all : List Oper, (∀ j, aL all j = aL ops j) → ∀ K : St → Prop, (∀ s, Q .normal s → K s) → eS P c all ops' ks st K) : fL P (.region id ops.toArray true) Q st :=
 Iz ks hm hok fun K hK => by
  have := h ops (fun _ => rfl) K hK
  rwa [← he, mA] at this
def Cu : D → Prop
 | .v (.slice none 0 0) => True
 | _ => False
def rT (x y : D) : Prop := y = x ∨ (x.plain = true ∧ y = x.strip) ∨ (Cu x ∧ (y = .sl false [] ∨ y = .sl true []))
theorem Ba : Cu (.v (.slice none 0 0)) = True := rfl
def fO : List D → List D → Prop
 | [], [] => True
 | a :: r, b :: q => rT a b ∧ fO r q
 | _, _ => False
theorem cZ {a b : List D} (h : a = b) : fO a b := by
 subst h;induction a with
 | nil => trivial
 | cons x r ih => exact ⟨.inl rfl, ih⟩
theorem tZ : ∀ {a b : List D}, fO a b → a.length = b.length
 | [], [], _ => rfl
 | _ :: _, _ :: _, h => by simp [tZ h.2]
 | [], _ :: _, h => h.elim
 | _ :: _, [], h => h.elim
theorem rV : ∀ {a b : List D}, fO a b → ∀ (i : Nat) (y : D), b[i]? = some y → ∃ x, a[i]? = some x ∧ rT x y
 | x :: _, _ :: _, h, 0, y, hy => by simp at hy; subst hy; exact ⟨x, rfl, h.1⟩
 | _ :: _, _ :: _, h, i + 1, y, hy => by simpa using rV h.2 i y (by simpa using hy)
 | [], [], _, _, _, hy => by simp at hy
 | [], _ :: _, h, _, _, _ => h.elim
 | _ :: _, [], h, _, _, _ => h.elim
theorem Ct.of_le {P : Program} {f : FuncId} {a a' : List D} {σ σ' : List (List D)} {Q : D → List (List D) → Prop} (h : Ct P f a σ Q) (e : fO a' a) (e2 : σ' = σ) : Ct P f a' σ' Q := by
 subst e2;refine ⟨h.1, fun w g vs hs hb ho => h.2 w g vs (by rw [hs, tZ e]) hb ⟨ho.mem, ho.xlt, fun t => ?_, ho.ll, ho.loc, ho.ol, ho.obj⟩⟩;have hsl := ho.slot t;simp only [St.ofArgs] at hsl ⊢;unfold cC at hsl ⊢;cases hy : a[t]? with
 | none => exact ⟨.any _, .flat _ _ _ rfl⟩
 | some y =>
  obtain ⟨x, hx, hle⟩ := rV e t y hy;rw [hx] at hsl;rcases hle with rfl | ⟨hp, rfl⟩ | ⟨hn, hy⟩
  ·exact hsl
  ·exact hD hsl.1 hp t
  ·have hxn : x = .v (.slice none 0 0) := by
    unfold Cu at hn;split at hn
    ·rfl
    ·exact hn.elim
   subst hxn;obtain ⟨hr, _⟩ := hsl;have hv := hr.vEq;rcases hy with rfl | rfl
   ·exact ⟨by rw [hv]; exact .nil _, .flat _ _ _ rfl⟩
   ·exact ⟨by rw [hv]; exact .nil _, .sl _ _ _ (.inl ⟨_, _, hv⟩)⟩
theorem oB : ∀ (sets : List (Nat × Slot)) (l : List (Nat × Slot)), cI sets (bV l) = bV (sets.reverseAux l)
 | [], l => rfl
 | (a, s) :: r, l => by
  show cI r (fun u => if u = a then s else bV l u) = _
  have : (fun u => if u = a then s else bV l u) = bV ((a, s) :: l) := by funext u; rw [iR]
  rw [this, oB r]; rfl
theorem Rw (n : Nat) (l : List (Nat × Slot)) (loc obj : List (List D)) (sets : List (Nat × Slot)) (ob : Option (List (List D))) : (St.mk' n l loc obj).upd ⟨sets, none, ob⟩ = St.mk' n (sets.reverseAux l) loc (ob.getD obj) := by
 show ({ n := n, env := cI sets (bV l), loc := loc, obj := ob.getD obj } : St) = _
 rw [oB]; rfl
theorem Cb (l : List (Nat × Slot)) : List.reverseAux [] l = l := rfl
theorem Ag (a : Nat × Slot) (r l : List (Nat × Slot)) : List.reverseAux (a :: r) l = List.reverseAux r (a :: l) := rfl
def Ij (R : fG) (K : List (Nat × Slot) → Option (List (List D)) → Prop) : Prop := ∃ sets ob, R sets ob ∧ K sets ob
@[congr] theorem Xi {R R' : fG} {K : List (Nat × Slot) → Option (List (List D)) → Prop} (h : R = R') : Ij R K = Ij R' K := by rw [h]
theorem Re {P : Program} {alt : Bool} {dst : Option Tmp} {op : Op} {st : St} {K : St → Prop} : Wy P alt dst op st K = Ij (fun sets ob => yR P alt dst op st.rdS (if (Mj alt op).rO = true then st.obj else []) sets ob) (fun sets ob => K (st.upd ⟨sets, none, ob⟩)) := rfl
theorem Rp {S : List (Nat × Slot)} {O : Option (List (List D))} {K : List (Nat × Slot) → Option (List (List D)) → Prop} : Ij (fun sets ob => sets = S ∧ ob = O) K = K S O := by
 apply propext;constructor
 ·rintro ⟨_, _, ⟨rfl, rfl⟩, h⟩; exact h
 ·intro h; exact ⟨_, _, ⟨rfl, rfl⟩, h⟩
theorem Nm {C : Prop} {R : fG} {K : List (Nat × Slot) → Option (List (List D)) → Prop} : Ij (fun sets ob => C ∧ R sets ob) K = (C ∧ Ij (fun sets ob => R sets ob) K) := by
 apply propext;constructor
 ·rintro ⟨_, _, ⟨h1, h2⟩, h⟩; exact ⟨h1, _, _, h2, h⟩
 ·rintro ⟨h1, _, _, h2, h⟩; exact ⟨_, _, ⟨h1, h2⟩, h⟩
theorem Rb {α : Type} {R : α → fG} {K : List (Nat × Slot) → Option (List (List D)) → Prop} : Ij (fun sets ob => ∃ x, R x sets ob) K = ∃ x, Ij (fun sets ob => R x sets ob) K := by
 apply propext;constructor
 ·rintro ⟨_, _, ⟨x, h2⟩, h⟩; exact ⟨x, _, _, h2, h⟩
 ·rintro ⟨x, _, _, h2, h⟩; exact ⟨_, _, ⟨x, h2⟩, h⟩
theorem Rl {R S : fG} {K : List (Nat × Slot) → Option (List (List D)) → Prop} : Ij (fun sets ob => R sets ob ∨ S sets ob) K = (Ij (fun sets ob => R sets ob) K ∨ Ij (fun sets ob => S sets ob) K) := by
 apply propext;constructor
 ·rintro ⟨_, _, h1 | h1, h⟩
  ·exact .inl ⟨_, _, h1, h⟩
  ·exact .inr ⟨_, _, h1, h⟩
 ·rintro (⟨_, _, h1, h⟩ | ⟨_, _, h1, h⟩)
  ·exact ⟨_, _, .inl h1, h⟩
  ·exact ⟨_, _, .inr h1, h⟩
theorem Tz {K : List (Nat × Slot) → Option (List (List D)) → Prop} : Ij (fun _ _ => False) K = False := by
 apply propext;exact ⟨fun ⟨_, _, h, _⟩ => h, False.elim⟩
attribute [simp] Re Rp Nm Rb Rl Tz
attribute [simp] Rw Cb Ag Yr oZ wI yR Nh Nf pL vA Gg Gj mB uY Gr Mj yF nL Kc Ba kH jQ lV sQ iI qB lW pV mD vF bX jL Bool.true_or Bool.false_or
theorem Em (cs : List D) : D.strip (.tup cs) = .tup (cs.map D.s2) := rfl
attribute [simp] Em D.plain
theorem Tj (n : Nat) (cs : List D) : kR true n cs = if n ≤ cs.length then some (.agg (cs.take n)) else none := rfl
theorem Sj (n : Nat) (cs : List D) : kR false n cs = cs.head? := rfl
theorem aJ (cs : List D) (off : Nat) (ds : List D) : bQ cs off ds = cs.take off ++ ds ++ cs.drop (off + ds.length) := rfl
attribute [simp low] Tj Sj aJ
attribute [simp] xG xZ Ss Lu Eu Pl Me Ou Ih Mm Ti
attribute [simp] Fe Lo Kj Ru Tq Ts Sg Sa Ug Us Tg Gf Iw Lv Fc Le Jz Bo Fs Fk Fg Kf Lz Uj Ta Nz Sp Pj It Hi Lc iJ gK Br zP wZ Kx zL Hj Gy yQ Bh
attribute [simp] Oo List.getElem?_cons_zero Option.bind_some Dw rM rN rJ uL uU Oc Jx Mf Ip Jh Ec Hp Jf Si Jj jV Uf Jr
 Ph Mv Ax Pp Ox Oj Kd Fu Hm Gn Ha En Wj Ua Qx Rc Rg Sw Xr Ui Qs Tf Qy
 Nw Ix Hw Hy Fy Hv Gx Oz Mb Gz Ey Fp Ep Ml Hh Ci Av Pa Lp Ie Ia
 jY Nj Kk Ku Ei Th Ni Kb Ji Od Qr Qf Sx Rz Ro Rq Hs Ra Qu Ps Mg Jb aU dB vV Nr bO Hq qD eC iD jI gM dA Tk lT tW zE dX kN qU Om qR qY eH dM eZ jX eW kE jW cM gN xJ jU gJ
 iY qQ lY kA eG fS iB sB iG lM eF eQ cJ kP mH vI St.cellsAt St.park Slot.plus Slot.isAddr Dg D.ofList
 Ft Bu Py Tv Nu Mk Cf Ko uF Of Rk Kq eI gH dQ nS sY qC Lx Ga Gl Hk
end Go.Vm

