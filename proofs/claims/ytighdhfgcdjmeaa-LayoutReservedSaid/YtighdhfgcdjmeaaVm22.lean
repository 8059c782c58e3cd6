import Derived.Test.YtighdhfgcdjmeaaVm21
namespace Go.Vm
open Go
set_option linter.all false
section
variable {P : Program}
theorem aE {y : Code} {Q : Exit → St → Prop} {s : St} (h : fM P y Q s) : Cd P y Q .normal s := h
theorem bN {y : Code} {Q : Exit → St → Prop} {s : St} {i : Nat} (h : Q (.exit i) s) : Cd P y Q (.exit i) s := h
theorem bD {y : Code} {Q : Exit → St → Prop} {s : St} (h : Q .ret s) : Cd P y Q .ret s := h
theorem aZ {i : Nat} {Q : Exit → St → Prop} {s : St} (h : Q .normal s) : pJ i Q .normal s := h
theorem bG {i : Nat} {Q : Exit → St → Prop} {s : St} (h : Q .normal s) : pJ i Q (.exit i) s := by simpa [pJ] using h
theorem eE {i : Nat} {Q : Exit → St → Prop} {s : St} (h : Q .ret s) : pJ i Q .ret s := h
theorem bO {α : Type} {S : α → St} {p : α → Prop} {m : α → Nat} {x : α} {Q : Exit → St → Prop} {s : St} {i : Nat} (h : Q (.exit i) s) : sI S p m x Q (.exit i) s := h
theorem xD {α : Type} {S : α → St} {p : α → Prop} {m : α → Nat} {x : α} {Q : Exit → St → Prop} {s : St} (h : Q .ret s) : sI S p m x Q .ret s := h
def sB (d : D) (A B : Prop) : Prop := match d with
 | .v (.bool t) => (t = true → A) ∧ (t = false → B)
 | _ => False
theorem aD {c : Cfg} {all r : List Oper} {d : Option Tmp} {op : Op} {ty : TypeId} {pos : String} {after : Array Edge} {st : St} {K : St → Prop} (h : ∀ K' : St → Prop, (∀ s, iE P c all r s K → K' s) → Ae d st ∧ cY P c d op st K') : iE P c all (⟨d, op, ty, pos, after, none⟩ :: r) st K :=
 h _ fun _ h => h
theorem aC {c : Cfg} {all : List Oper} (n : Nat) {r : List Oper} {st : St} {K : St → Prop} (h : ∀ K' : St → Prop, (∀ s, iE P c all (r.drop n) s K → K' s) → iE P c all (r.take n) st K') : iE P c all r st K := by
 have go : ∀ (n : Nat) (r : List Oper) (st : St), iE P c all (r.take n) st (fun s => iE P c all (r.drop n) s K) → iE P c all r st K := by
  intro n;induction n with
  | zero => intro r st h; exact h
  | succ n ih =>
   intro r st h;cases r with
   | nil => exact h
   | cons o r =>
    simp only [List.take_succ_cons, List.drop_succ_cons] at h;unfold iE at h ⊢;split at h
    ·rename_i hg;have hd := h.1;refine ⟨hd, ?_⟩;exact mS (fun s hs => ih r s hs) h.2
    ·rename_i j want hg;split at h
     ·split at h
      ·exact ⟨fun hb => ⟨(h.1 hb).1, mS (fun s hs => ih r s hs) (h.1 hb).2⟩, fun hb => ⟨(h.2 hb).1, ih r _ (h.2 hb).2⟩⟩
      ·exact h.elim
     ·exact h.elim
 exact go n r st (h _ fun _ h => h)
theorem Ut {c : Cfg} {all r : List Oper} {d : Option Tmp} {op : Op} {ty : TypeId} {pos : String} {after : Array Edge} {j t : Nat} {b want : Bool} {st : St} {K : St → Prop} (hg : bK all j = some t) (hs : st.env t = .d (.v (.bool b)))
  (h1 : b = want → ∀ K' : St → Prop, (∀ s, iE P c all r s K → K' s) → Ae d st ∧ cY P c d op st K') (h2 : b = !want → Ae d st ∧ iE P c all r (st.put d .und) K) : iE P c all (⟨d, op, ty, pos, after, some (j, want)⟩ :: r) st K := by
 rw [uJ];simp only [hg, hs];exact ⟨fun hb => h1 hb _ fun _ h => h, h2⟩
theorem Rq {c : Cfg} {all r : List Oper} {d : Option Tmp} {op : Op} {ty : TypeId} {pos : String} {after : Array Edge} {j t : Nat} {b want : Bool} {st : St} {K : St → Prop} (hg : bK all j = some t) (hs : st.env t = .d (.v (.bool b))) (hb : b = want)
  (h1 : ∀ K' : St → Prop, (∀ s, iE P c all r s K → K' s) → Ae d st ∧ cY P c d op st K') : iE P c all (⟨d, op, ty, pos, after, some (j, want)⟩ :: r) st K :=
 Ut hg hs (fun _ => h1) fun h => (by rw [hb] at h; cases want <;> cases h)
theorem yF {n t : Nat} {l : List (Nat × Slot)} {loc obj : List (List D)} {b : Bool} (hs : bU l t = .d (.v (.bool b))) : St.mk' n l loc obj = St.mk' n ((t, .d (.bool b)) :: l) loc obj := by
 unfold St.mk';congr 1;funext u;simp only [bU];split
 ·rename_i e; rw [e, hs]
 ·rfl
theorem eC {c : Cfg} {all r : List Oper} {n : Nat} {l : List (Nat × Slot)} {loc obj : List (List D)} {K : St → Prop} (t : Nat) {s : Slot} (hs : bU l t = s)
  (h : sB s.toD (iE P c all r (St.mk' n ((t, .d (.bool true)) :: l) loc obj) K) (iE P c all r (St.mk' n ((t, .d (.bool false)) :: l) loc obj) K)) : iE P c all r (St.mk' n l loc obj) K := by
 unfold sB at h;split at h
 ·rename_i b hb;have hs' : bU l t = .d (.v (.bool b)) := by
   rw [hs];cases s with
   | d d => simp only [Slot.toD] at hb; rw [hb]
   | lref n o => simp [Slot.toD] at hb
  rw [yF hs'];cases b
  ·exact h.2 rfl
  ·exact h.1 rfl
 ·exact h.elim
def Rv (P : Program) (c : Cfg) (all r : List Oper) (K : St → Prop) : St → Prop := fun st => iE P c all r st K
theorem Mj {c : Cfg} {all r : List Oper} {K : St → Prop} {st : St} : Rv P c all r K st = iE P c all r st K := rfl
theorem Ni {c : Cfg} {all r : List Oper} {d : Option Tmp} {op : Op} {ty : TypeId} {pos : String} {after : Array Edge} {st : St} {K : St → Prop} : iE P c all (⟨d, op, ty, pos, after, none⟩ :: r) st K = (Ae d st ∧ cY P c d op st (Rv P c all r K)) := rfl
def Lm (P : Program) (c : Cfg) (all r : List Oper) (ks : List DK) (K : St → Prop) : St → Prop := fun st => fA P c all r ks st K
theorem Fz {c : Cfg} {all r : List Oper} {ks : List DK} {K : St → Prop} {st : St} : Lm P c all r ks K st = fA P c all r ks st K := rfl
theorem Hl {c : Cfg} {all r : List Oper} {d : Option Tmp} {op : Op} {ty : TypeId} {pos : String} {after : Array Edge} {k : DK} {ks : List DK} {st : St} {K : St → Prop} : fA P c all (⟨d, op, ty, pos, after, none⟩ :: r) (k :: ks) st K = (Ae d st ∧ nB P c d op k st (Lm P c all r ks K)) := rfl
@[congr] theorem Uo {op : BinOp} {t : TypeId} {x y x' y' : Slot} {K : D → Prop} (hx : x = x') (hy : y = y') : kJ P op t x y K = kJ P op t x' y' K := by rw [hx, hy]
@[congr] theorem Vn {op : BinOp} {k : IntKind} {a b a' b' : Int} {K : D → Prop} (hx : a = a') (hy : b = b') : qB op k a b K = qB op k a' b' K := by rw [hx, hy]
@[congr] theorem Ul {op : BinOp} {a b a' b' : ByteArray} {K : D → Prop} (hx : a = a') (hy : b = b') : pW op a b K = pW op a' b' K := by rw [hx, hy]
@[congr] theorem Uh {t : TypeId} {a b a' b' : List D} {K : Bool → Prop} (hx : a = a') (hy : b = b') : mG P t a b K = mG P t a' b' K := by rw [hx, hy]
@[congr] theorem Vt {op : UnOp} {x x' : D} {K : D → Prop} (hx : x = x') : qK op x K = qK op x' K := by rw [hx]
def Tt (b : Bool) (s r : Slot) : Slot := if b = true then s else r
@[congr] theorem Wh {b b' : Bool} {s r : Slot} (h : b = b') : Tt b s r = Tt b' s r := by rw [h]
theorem Qo {s r : Slot} : Tt true s r = s := rfl
theorem Qk {s r : Slot} : Tt false s r = r := rfl
theorem uA (a : Nat) (s : Slot) (r : List (Nat × Slot)) (t : Nat) : bU ((a, s) :: r) t = Tt (t == a) s (bU r t) := by
 simp only [bU, Tt, beq_iff_eq]
def Vw (s : Slot) (want : Bool) : Option Bool := pV s want
def Vp (o : Option Tmp) (st : St) (want : Bool) : Option Bool := match o with
 | some t => Vw (st.env t) want
 | none => none
@[congr] theorem Xw {o o' : Option Tmp} {st : St} {want : Bool} (h : o = o') : Vp o st want = Vp o' st want := by rw [h]
theorem Ja (t : Tmp) (st : St) (want : Bool) : Vp (some t) st want = Vw (st.env t) want := rfl
theorem Ke (b want : Bool) : Vw (.d (.v (.bool b))) want = some b := rfl
theorem Nd (want : Bool) : Vw (.d (.tup [])) want = some (!want) := rfl
def In (all : List Oper) (j : Nat) (st : St) (want : Bool) : Option Bool := match bK all j with
 | some t => pV (st.env t) want
 | none => none
theorem Pv (all : List Oper) (j : Nat) (st : St) (want : Bool) : In all j st want = Vp (bK all j) st want := rfl
def Cf (g : Option Bool) (want : Bool) (A B : Prop) : Prop := match g with
 | some b => (b = want → A) ∧ (b = !want → B)
 | none => False
@[congr] theorem Ts {g g' : Option Bool} {want : Bool} {A B : Prop} (h : g = g') : Cf g want A B = Cf g' want A B := by rw [h]
theorem Tj {A B : Prop} : Cf (some true) true A B = A := by simp [Cf]
theorem Ry {A B : Prop} : Cf (some true) false A B = B := by simp [Cf]
theorem Rz {A B : Prop} : Cf (some false) true A B = B := by simp [Cf]
theorem Su {A B : Prop} : Cf (some false) false A B = A := by simp [Cf]
theorem Ri {c : Cfg} {all r : List Oper} {d : Option Tmp} {op : Op} {ty : TypeId} {pos : String} {after : Array Edge} {j : Nat} {want : Bool} {st : St} {K : St → Prop} : iE P c all (⟨d, op, ty, pos, after, some (j, want)⟩ :: r) st K =
  Cf (In all j st want) want (Ae d st ∧ cY P c d op st (Rv P c all r K)) (Ae d st ∧ iE P c all r (st.put d .und) K) := by
 rw [uJ];unfold In Cf;split
 ·rename_i t ht;simp only [ht];split
  ·rename_i h; simp [h]; exact fun _ => Iff.rfl
  ·rename_i h; simp [h]
 ·rename_i h; simp [h]
def Bf (d : D) (A B : Prop) : Prop := match d with
 | .v (.bool t) => (t = true → A) ∧ (t = false → B)
 | _ => False
@[congr] theorem Sk {d d' : D} {A B : Prop} (h : d = d') : Bf d A B = Bf d' A B := by rw [h]
theorem Si {A B : Prop} : Bf (.v (.bool true)) A B = A := by simp [Bf]
theorem Sn {A B : Prop} : Bf (.v (.bool false)) A B = B := by simp [Bf]
theorem Fd {dst : Option Tmp} {c a b : Operand} {st : St} {K : St → Prop} : mZ dst c a b st K = Bf (st.rd c) ((st.rd a).plain = true ∧ K (st.put dst (.d (st.rd a).strip))) ((st.rd b).plain = true ∧ K (st.put dst (.d (st.rd b).strip))) := rfl
theorem yU {c : Cfg} {dst : Option Tmp} {op : Op} {k : DK} {st : St} {K K' : St → Prop} (hk : ∀ s, K s → K' s) (h : nB P c dst op k st K) : nB P c dst op k st K' := by
 unfold nB at *;cases k with
 | op f => exact ⟨h.1, h.2.1, mS hk h.2.2⟩
 | pure =>
  simp only at *;split at h
  ·obtain ⟨h1, r, h2, h3⟩ := h; exact ⟨h1, r, h2, hk _ h3⟩
  ·exact h
 | pureC =>
  simp only at *;split at h
  ·split at h
   ·rename_i hf;obtain ⟨h0, h1, r, h2, h3⟩ := h;exact ⟨h0, h1, r, h2, hk _ h3⟩
   ·exact h.elim
  ·exact h
 | read =>
  simp only at *;split at h
  ·obtain ⟨h1, r, h2, h3⟩ := h; exact ⟨h1, r, h2, hk _ h3⟩
  ·exact h
 | det =>
  simp only at *;split at h
  ·obtain ⟨h1, r, σ0, h2, h3⟩ := h; exact ⟨h1, r, σ0, h2, hk _ h3⟩
  ·exact h
 | readT =>
  simp only at *;split at h
  ·obtain ⟨h1, r, h2, h3⟩ := h; exact ⟨h1, r, h2, hk _ h3⟩
  ·exact h
 | nd =>
  obtain ⟨Q, h1, h2⟩ := h;exact ⟨Q, h1, fun r σ0 hq => hk _ (h2 r σ0 hq)⟩
 | detA =>
  simp only at *;split at h
  ·obtain ⟨h1, r, J, h2, h3⟩ := h; exact ⟨h1, r, J, h2, hk _ h3⟩
  ·exact h
 | pureT =>
  simp only at *;split at h
  ·obtain ⟨h0, h1, r, h2, h3⟩ := h; exact ⟨h0, h1, r, h2, hk _ h3⟩
  ·exact h
 | detT =>
  simp only at *;split at h
  ·obtain ⟨h0, h1, r, σ0, h2, h3⟩ := h; exact ⟨h0, h1, r, σ0, h2, hk _ h3⟩
  ·exact h
theorem oJ {c : Cfg} {all : List Oper} {ks : List DK} {st : St} {K : St → Prop} : fA P c all [] ks st K = K st := by unfold fA; rfl
theorem Nz {c : Cfg} {all r : List Oper} {d : Option Tmp} {op : Op} {ty : TypeId} {pos : String} {after : Array Edge} {j : Nat} {want : Bool} {k : DK} {ks : List DK} {st : St} {K : St → Prop} : fA P c all (⟨d, op, ty, pos, after, some (j, want)⟩ :: r) (k :: ks) st K =
  (Ae d st ∧ Cf (In all j st want) want (nB P c d op k st (Lm P c all r ks K)) (fA P c all r ks (st.put d .und) K)) := by
 conv => lhs; unfold fA
 show (_ ∧ _) = _
 congr 1;simp only;unfold In Cf;split
 ·rename_i t ht;simp only [ht];split
  ·rename_i h; simp [h]; exact fun _ => Iff.rfl
  ·rename_i h; simp [h]
 ·rename_i h; simp [h]
theorem aV {c : Cfg} {all r : List Oper} {d : Option Tmp} {op : Op} {ty : TypeId} {pos : String} {after : Array Edge} {k : DK} {ks : List DK} {st : St} {K : St → Prop} (h : ∀ K' : St → Prop, (∀ s, fA P c all r ks s K → K' s) → Ae d st ∧ nB P c d op k st K') : fA P c all (⟨d, op, ty, pos, after, none⟩ :: r) (k :: ks) st K :=
 h _ fun _ h => h
theorem aL {c : Cfg} {all : List Oper} (n : Nat) {r : List Oper} {ks : List DK} {st : St} {K : St → Prop} (hks : n ≤ ks.length) (h : ∀ K' : St → Prop, (∀ s, fA P c all (r.drop n) (ks.drop n) s K → K' s) → fA P c all (r.take n) (ks.take n) st K') : fA P c all r ks st K := by
 have go : ∀ (n : Nat) (r : List Oper) (ks : List DK) (st : St), n ≤ ks.length → fA P c all (r.take n) (ks.take n) st (fun s => fA P c all (r.drop n) (ks.drop n) s K) → fA P c all r ks st K := by
  intro n;induction n with
  | zero => intro r ks st _ h; simp only [List.take_zero, List.drop_zero, oJ] at h; exact h
  | succ n ih =>
   intro r ks st hks h;cases ks with
   | nil => simp at hks
   | cons k ks =>
    cases r with
    | nil => simp only [List.take_nil, List.drop_nil, oJ] at h ⊢; exact h
    | cons o r =>
     simp only [List.take_succ_cons, List.drop_succ_cons] at h;simp only [List.length_cons] at hks;unfold fA at h ⊢;refine ⟨h.1, ?_⟩;have h2 := h.2;split at h2
     ·exact yU (fun s hs => ih r ks s (by omega) hs) h2
     ·split at h2
      ·split at h2
       ·exact ⟨fun hb => yU (fun s hs => ih r ks s (by omega) hs) (h2.1 hb), fun hb => ih r ks _ (by omega) (h2.2 hb)⟩
       ·exact h2.elim
      ·exact h2.elim
 exact go n r ks st hks (h _ fun _ h => h)
def Gz : List Nat → List (Nat × Slot) → List (Nat × Slot)
 | _, [] => []
 | W, (t, s) :: r => if W.contains t then Gz W r else (t, s) :: Gz (t :: W) r
theorem Nf (n : Nat) (s : Slot) : xF n s (.d .any) = True := by
 unfold xF; split <;> simp_all
theorem Vo (n : Nat) (x : D) : xF n (.d x) (.d x) = True := by
 cases x with
 | sl o es => cases o <;> simp [xF]
 | _ => simp [xF]
theorem Ov (n : Nat) (es : List D) : xF n (.d (.sl true es)) (.d (.sl false es)) = True := by
 unfold xF; simp
theorem Ki (n m o : Nat) : xF n (.lref m o) (.lref m o) = (m < n) := by
 unfold xF; simp
def nV (n : Nat) (env : Nat → Slot) : List (Nat × Slot) → Prop
 | [] => True
 | (a, s) :: r => xF n (env a) s ∧ nV n env r
theorem Fw (n : Nat) (env : Nat → Slot) : nV n env [] = True := rfl
theorem Bq (n : Nat) (env : Nat → Slot) (a : Nat) (s : Slot) (r : List (Nat × Slot)) : nV n env ((a, s) :: r) = (xF n (env a) s ∧ nV n env r) := rfl
theorem jQ {n : Nat} {env : Nat → Slot} : ∀ {l : List (Nat × Slot)}, nV n env l → ∀ p ∈ l, xF n (env p.1) p.2
 | [], _, p, hp => by simp at hp
 | (a, s) :: r, h, p, hp => by
  rcases List.mem_cons.1 hp with rfl | hp
  ·exact h.1
  ·exact jQ h.2 p hp
theorem bI {st : St} {n : Nat} {l : List (Nat × Slot)} {loc obj : List (List D)} (hn : st.n = n) (hl : nV loc.length st.env l) (hloc : loc <+: st.loc) (hobj : st.obj = obj) : Weak st (St.mk' n l loc obj) :=
 uZ hn (jQ hl) hloc hobj
theorem cN {α : Type} {n : Nat} {l l2 : List (Nat × Slot)} {loc obj : List (List D)} (F : α → List (Nat × Slot)) (W : List Nat) (p : α → Prop) (m : α → Nat) (x0 : α) {body : Code} {Q : Exit → St → Prop}
  (hl : Gz W l = l2) (hF : nV loc.length (bU l) (F x0 ++ l2)) (hp : p x0)
  (h : ∀ x, p x → fM P body (sI (fun x => St.mk' n (F x ++ l2) loc obj) p m x Q) (St.mk' n (F x ++ l2) loc obj)) : fM P (.loop body) Q (St.mk' n l loc obj) :=
 yV (fun x => St.mk' n (F x ++ l2) loc obj) p m x0 (uZ rfl (jQ hF) (List.prefix_refl _) rfl) hp h
theorem tV {α : Type} {n : Nat} {l l2 : List (Nat × Slot)} {loc obj : List (List D)} (F : α → List (Nat × Slot)) (G H : α → List (List D)) (W : List Nat) (p : α → Prop) (m : α → Nat) (x0 : α) {body : Code} {Q : Exit → St → Prop}
  (hl : Gz W l = l2) (hF : nV (G x0).length (bU l) (F x0 ++ l2)) (hG : G x0 = loc) (hH : H x0 = obj) (hp : p x0)
  (h : ∀ x, p x → fM P body (sI (fun x => St.mk' n (F x ++ l2) (G x) (H x)) p m x Q) (St.mk' n (F x ++ l2) (G x) (H x))) : fM P (.loop body) Q (St.mk' n l loc obj) :=
 yV (fun x => St.mk' n (F x ++ l2) (G x) (H x)) p m x0 (uZ rfl (jQ hF) (by rw [hG]; exact List.prefix_refl _) hH.symm) hp h
theorem bT {α : Type} {S : α → St} {p : α → Prop} {m : α → Nat} {x : α} {Q : Exit → St → Prop} {s : St} (y : α) (hp : p y) (hm : m y < m x) (hw : Weak s (S y)) : sI S p m x Q .normal s := ⟨y, hp, hm, hw⟩
theorem Ad (n : Nat) : D.strip (.mref n) = .mref n := rfl
theorem On (n : Nat) : D.s1 (.mref n) = .mref n := rfl
theorem Pp (n : Nat) : D.s2 (.mref n) = .mref n := rfl
theorem Bw (n : Nat) : D.plain (.mref n) = true := rfl
theorem Bg (n : Nat) : D.solid (.mref n) = true := rfl
theorem zH (n : Nat) : D.ncells (.mref n) = 1 := rfl
theorem Ai (n : Nat) : D.cells (.mref n) = [.mref n] := rfl
theorem Gq (n a b : Nat) (l : List Nat) : D.strip (.mit n a l b) = .any := rfl
theorem Tq (n a b : Nat) (l : List Nat) : D.s1 (.mit n a l b) = .any := rfl
theorem Sr (n a b : Nat) (l : List Nat) : D.s2 (.mit n a l b) = .any := rfl
theorem Dy (n a b : Nat) (l : List Nat) : D.plain (.mit n a l b) = true := rfl
theorem Gp (n a b : Nat) (l : List Nat) : D.solid (.mit n a l b) = false := rfl
theorem Lk (n c : Nat) (kd : TypeDesc) (kvs : List (Value × Nat × D)) : D.strip (.mp n kd c kvs) = .mref n := rfl
theorem Vl (n c : Nat) (kd : TypeDesc) (kvs : List (Value × Nat × D)) : D.s1 (.mp n kd c kvs) = .mref n := rfl
theorem Vf (n c : Nat) (kd : TypeDesc) (kvs : List (Value × Nat × D)) : D.s2 (.mp n kd c kvs) = .mref n := rfl
theorem Mo (n c : Nat) (kd : TypeDesc) (kvs : List (Value × Nat × D)) : D.plain (.mp n kd c kvs) = true := rfl
theorem Kp (n c : Nat) (kd : TypeDesc) (kvs : List (Value × Nat × D)) : D.solid (.mp n kd c kvs) = true := rfl
theorem Es (n c : Nat) (kd : TypeDesc) (kvs : List (Value × Nat × D)) : D.ncells (.mp n kd c kvs) = 1 := rfl
theorem Hh (n c : Nat) (kd : TypeDesc) (kvs : List (Value × Nat × D)) : D.cells (.mp n kd c kvs) = [.mp n kd c kvs] := rfl
theorem Fm (t : TypeId) (d : D) : D.strip (.ifc t d) = .ifc t d := rfl
theorem Sv (t : TypeId) (d : D) : D.s1 (.ifc t d) = .ifc t d := rfl
theorem Sy (t : TypeId) (d : D) : D.s2 (.ifc t d) = .ifc t d := rfl
theorem Dm (t : TypeId) (d : D) : D.plain (.ifc t d) = true := rfl
theorem Eg (t : TypeId) (d : D) : D.solid (.ifc t d) = true := rfl
theorem Cb (t : TypeId) (d : D) : D.ncells (.ifc t d) = 1 := rfl
theorem Ei (t : TypeId) (d : D) : D.cells (.ifc t d) = [.ifc t d] := rfl
theorem Im (n : Nat) : D.arr (.mref n) = true := rfl
attribute [simp] Gq Tq Sr Dy Gp jU mJ kB Qm Ad On Pp Bw Bg zH Ai Lk Vl Vf Mo Kp Es Hh Fm Sv Sy Dm Eg Cb Ei Im
theorem Ey (n a b c : Nat) : D.strip (.slo n a b c) = .slo n a b c := rfl
theorem Kh (n : Nat) : D.strip (.xl n) = .xl n := rfl
theorem Mn (k : Nat) (es : List D) : D.strip (.xs k es) = .xl es.length := rfl
theorem Re (n a b c : Nat) : D.s2 (.slo n a b c) = .slo n a b c := rfl
theorem Ub (n : Nat) : D.s2 (.xl n) = .xl n := rfl
theorem Ug (k : Nat) (es : List D) : D.s2 (.xs k es) = .xl es.length := rfl
theorem Sh (f : Go.Fn) (a b : List D) : D.s2 (.clo f a b) = .clo f a b := rfl
theorem Rs (n a b c : Nat) : D.s1 (.slo n a b c) = .slo n a b c := rfl
theorem Uq (n : Nat) : D.s1 (.xl n) = .xl n := rfl
theorem Us (k : Nat) (es : List D) : D.s1 (.xs k es) = .xl es.length := rfl
theorem To (f : Go.Fn) (a b : List D) : D.s1 (.clo f a b) = .clo f a b := rfl
theorem Eh (n a b c : Nat) : D.plain (.slo n a b c) = true := rfl
theorem Lz (n : Nat) : D.plain (.xl n) = true := rfl
theorem Lr (k : Nat) (es : List D) : D.plain (.xs k es) = true := rfl
theorem Gv (n a b c : Nat) : D.solid (.slo n a b c) = true := rfl
theorem Ij (n : Nat) : D.solid (.xl n) = true := rfl
theorem Lv (k : Nat) (es : List D) : D.solid (.xs k es) = true := rfl
theorem Bj (n a b c : Nat) : D.ncells (.slo n a b c) = 1 := rfl
theorem Gf (n : Nat) : D.ncells (.xl n) = 1 := rfl
theorem Eu (k : Nat) (es : List D) : D.ncells (.xs k es) = 1 := rfl
theorem Ew (n a b c : Nat) : D.cells (.slo n a b c) = [.slo n a b c] := rfl
theorem Mv (n : Nat) : D.cells (.xl n) = [.xl n] := rfl
theorem Iu (k : Nat) (es : List D) : D.cells (.xs k es) = [.xs k es] := rfl
theorem Um (x : Value) : D.arr (.v x) = true := rfl
theorem Ra (es : List D) : D.arr (.sl false es) = true := rfl
theorem Ng (cs : List D) : D.arr (.agg cs) = cs.all D.flat := rfl
theorem Rb (x : Value) : D.flat (.v x) = true := rfl
theorem Nj (es : List D) : D.flat (.sl false es) = true := rfl
theorem Hq (n o : Nat) : D.flat (.ref n o) = true := rfl
def oM : List (Nat × List D) → List (List D) → List (List D)
 | [], l => l
 | (n, c) :: r, l => (oM r l).set n c
theorem gN (l : List (List D)) : oM [] l = l := rfl
theorem fI (n : Nat) (c : List D) (r : List (Nat × List D)) (l : List (List D)) : oM ((n, c) :: r) l = (oM r l).set n c := rfl
theorem fY {P : Program} {α : Type} {n : Nat} {l l2 : List (Nat × Slot)} {loc obj : List (List D)} (F : α → List (Nat × Slot)) (M N : α → List (Nat × List D)) (W : List Nat) (p : α → Prop) (m : α → Nat) (x0 : α) {body : Code} {Q : Exit → St → Prop}
  (hl : Gz W l = l2) (hF : nV (oM (M x0) loc).length (bU l) (F x0 ++ l2)) (hG : oM (M x0) loc = loc) (hH : oM (N x0) obj = obj) (hp : p x0)
  (h : ∀ x, p x → fM P body (sI (fun x => St.mk' n (F x ++ l2) (oM (M x) loc) (oM (N x) obj)) p m x Q) (St.mk' n (F x ++ l2) (oM (M x) loc) (oM (N x) obj))) : fM P (.loop body) Q (St.mk' n l loc obj) :=
 tV F (fun x => oM (M x) loc) (fun x => oM (N x) obj) W p m x0 hl hF hG hH hp h
theorem Ge {α : Type} (l : List α) (a : α) : (l ++ [a])[l.length]? = some a := by simp
theorem kX {α : Type} (l : List α) (a b : α) : (l ++ [a]).set l.length b = l ++ [b] := by simp
def oI : List Nat → List (Nat × Slot) → List (Nat × Slot)
 | [], _ => []
 | t :: r, l => (t, bU l t) :: oI r l
theorem Gk (l : List (Nat × Slot)) : oI [] l = [] := rfl
theorem qZ (t : Nat) (r : List Nat) (l : List (Nat × Slot)) : oI (t :: r) l = (t, bU l t) :: oI r l := rfl
theorem tI (l : List (Nat × Slot)) (u : Nat) : ∀ K : List Nat, bU (oI K l) u = bU l u ∨ bU (oI K l) u = .any
 | [] => .inr rfl
 | t :: r => by
  rw [qZ, iA];split
  ·rename_i h; subst h; exact .inl rfl
  ·exact tI l u r
theorem Lh {P : Program} (K : List Nat) {l2 : List (Nat × Slot)} {c : Code} {n : Nat} {l : List (Nat × Slot)} {loc obj : List (List D)} {Q : Exit → St → Prop} (hl : oI K l = l2) (h : fM P c Q (St.mk' n l2 loc obj)) : fM P c Q (St.mk' n l loc obj) := by
 subst hl;intro w0 g0 w g tmps hf hok hn;refine h w0 g0 w g tmps hf ⟨hok.mem, hok.xlt, fun t => ?_, hok.ll, hok.loc, hok.ol, hok.obj⟩ hn;have hs := hok.slot t;show SlotOk w g t (bU (oI K l) t) _
 rcases tI l t K with e | e
 ·rw [e]; exact hs
 ·rw [e]; exact ⟨.any _, .flat _ _ _ rfl⟩
theorem jA {P : Program} (ts k : Nat) {es : List D} {c : Code} {n : Nat} {l : List (Nat × Slot)} {loc obj : List (List D)} {Q : Exit → St → Prop} (hs : bU l ts = .d (.xs k es)) (hk0 : 0 < k)
  (h : ∀ (cap : Nat) (rest : List D), es.length ≤ cap → cap ≤ maxLen → rest.length = (cap - es.length) * k → 0 < k → (∀ d ∈ es, d.ncells = k ∧ d.arr = true) → fM P c Q (St.mk' n ((ts, .d (.slo obj.length 0 es.length cap)) :: l) loc (obj ++ [es.flatMap D.cells ++ rest]))) : fM P c Q (St.mk' n l loc obj) := by
 intro w0 g0 w g tmps hf hok hn;obtain ⟨cap, rest, g', a1, a2, a3, a4, a5, _, hfr, hok'⟩ := hok.openX ts k es hs hk0;exact h cap rest a1 a2 a3 a4 a5 w0 g0 w g' tmps (hf.trans hfr) hok' hn
theorem eQ {P : Program} (ts k : Nat) {es : List D} {c : Code} {n : Nat} {l : List (Nat × Slot)} {loc obj : List (List D)} {Q : Exit → St → Prop} (hs : bU l ts = .d (.xs k es)) (hk0 : 0 < k)
  (h : ∀ (cap : Nat) (rest : List D), es.length ≤ cap → cap ≤ maxLen → rest = List.replicate ((cap - es.length) * k) .any → 0 < k → (∀ d ∈ es, d.ncells = k ∧ d.arr = true) → fM P c Q (St.mk' n ((ts, .d (.slo obj.length 0 es.length cap)) :: l) loc (obj ++ [es.flatMap D.cells ++ rest]))) : fM P c Q (St.mk' n l loc obj) := by
 intro w0 g0 w g tmps hf hok hn;obtain ⟨cap, rest, g', a1, a2, a3, a4, a5, _, hfr, hok'⟩ := hok.openX2 ts k es hs hk0;exact h cap rest a1 a2 a3 a4 a5 w0 g0 w g' tmps (hf.trans hfr) hok' hn
theorem bZ {P : Program} (ts k m len cap : Nat) (es cs : List D) {c : Code} {n : Nat} {l : List (Nat × Slot)} {loc obj : List (List D)} {Q : Exit → St → Prop} (hs : bU l ts = .d (.slo m 0 len cap)) (hm : obj[m]? = some cs) (hk : 0 < k) (hcs : cs.length = cap * k) (hl : es.length = len)
  (hes : ∀ d ∈ es, d.ncells = k ∧ d.arr = true) (he : es.flatMap D.cells <+: cs) (h : fM P c Q (St.mk' n ((ts, .d (.xs k es)) :: l) loc (obj.set m []))) : fM P c Q (St.mk' n l loc obj) := by
 intro w0 g0 w g tmps hf hok hn;obtain ⟨g', _, hfr, hok'⟩ := hok.closeX ts k m len cap es cs hs hm hk hcs hl hes he;exact h w0 g0 w g' tmps (hf.trans hfr) hok' hn
theorem Ln {α : Type} (f : α → D) (l : List α) (k : Nat) (h : k < l.length) : (l.map f).getD k .any = f l[k] := by
 simp [List.getD, h]
theorem sW {α : Type} (f : α → D) (l : List α) (k : Nat) (h : k < l.length) : (l.map f)[k]? = some (f l[k]) := by
 simp [h]
theorem Ph (n : Int) : Hg .i64 n = (-9223372036854775808 ≤ n ∧ n ≤ 9223372036854775807) := by
 unfold Hg;rfl
theorem Tf (n : Int) : Hg .u8 n = (0 ≤ n ∧ n ≤ 255) := by
 unfold Hg;rfl
end
theorem Jn : vR [] = true := rfl
theorem Et (r : List (Option Holder)) : vR (none :: r) = vR r := by simp [vR]
theorem Fe (h : Holder) (r : List (Option Holder)) : vR (some h :: r) = (!r.contains (some h) && vR r) := by
 simp only [vR, List.filterMap_cons, id, List.nodup_cons, Bool.decide_and, List.contains_eq_mem];congr 1;rw [← decide_not];congr 1;simp [List.mem_filterMap]
theorem Em : maxLen = 9223372036854775807 := rfl
theorem Nx (n : Nat) (l : List (Nat × Slot)) (loc obj : List (List D)) : ({ n := n, env := bU l, loc := loc, obj := obj } : St) = St.mk' n l loc obj := rfl
def oV : Slot → Slot
 | .d x => .d x.strip
 | s => s
def fT : List Nat → List (Nat × Slot) → List (Nat × Slot)
 | [], l => l
 | t :: r, l => (t, oV (bU l t)) :: fT r l
theorem qD (l : List (Nat × Slot)) (u : Nat) : ∀ ts : List Nat, bU (fT ts l) u = if u ∈ ts then oV (bU l u) else bU l u
 | [] => by simp [fT]
 | t :: r => by
  rw [fT, iA, qD l u r];by_cases h : u = t
  ·subst h; simp
  ·simp [h]
theorem gO (l : List (Nat × Slot)) (ts : List (Option Nat)) : cJ ts (bU l) = bU (fT (ts.filterMap id) l) := by
 funext u;rw [qD];by_cases h : some u ∈ ts
 ·have h1 : ts.contains (some u) = true := by simpa using h
  have h2 : u ∈ ts.filterMap id := by simpa using h
  simp only [cJ, h1, if_true, if_pos h2, oV];split <;> simp_all
 ·have h1 : ts.contains (some u) = false := by simpa using h
  have h2 : ¬ u ∈ ts.filterMap id := by simpa using h
  simp only [cJ, h1, if_neg h2]; rfl
theorem Bl {P : Program} {d : Nat} {f : FuncId} {args : List Operand} {n : Nat} {l : List (Nat × Slot)} {loc obj : List (List D)} {K : St → Prop} : fS P (some d) f args (St.mk' n l loc obj) K =
  ((args.filterMap aW).Nodup ∧ (∀ x ∈ args, mA ((St.mk' n l loc obj).rdS x) = true ∧ ((St.mk' n l loc obj).rd x).plain = true) ∧
   Ct P f (args.map (kK (St.mk' n l loc obj))) obj (fun r σ' => K (St.mk' n ((d, .d r) :: fT (args.filterMap aW) l) loc σ'))) := by
 unfold fS;have e : (args.map aW).filterMap id = args.filterMap aW := by rw [List.filterMap_map]; rfl
 simp only [qO, qN, qR, Cw, gO, e];rfl
theorem zJ (l : List (Nat × Slot)) : fT [] l = l := rfl
theorem vM (t : Nat) (r : List Nat) (l : List (Nat × Slot)) : fT (t :: r) l = (t, oV (bU l t)) :: fT r l := rfl
theorem Mh (x : D) : oV (.d x) = .d x.strip := rfl
theorem xO (a b : Nat) : oV (.lref a b) = .lref a b := rfl
theorem Dw : List.filterMap aW [] = [] := rfl
theorem Ev (t : Tmp) (r : List Operand) : List.filterMap aW (.tmp t :: r) = t :: List.filterMap aW r := rfl
theorem xK (v : Value) (r : List Operand) : List.filterMap aW (.const v :: r) = List.filterMap aW r := rfl
theorem Bt (v : FuncId) (r : List Operand) : List.filterMap aW (.func v :: r) = List.filterMap aW r := rfl
theorem vF {P : Program} {c : Cfg} {d : Nat} {f : FuncId} {args : Array Operand} {ts : Array TypeId} {n : Nat} {l : List (Nat × Slot)} {loc obj : List (List D)} {K : St → Prop} :
  nB P c (some d) (.call ⟨.value (.func f), args, ts⟩) .pureT (St.mk' n l loc obj) K =
  ((args.toList.filterMap aW).Nodup ∧ (∀ x ∈ args.toList, mA ((St.mk' n l loc obj).rdS x) = true ∧ ((St.mk' n l loc obj).rd x).plain = true) ∧
   ∃ r, (∀ σ, Ct P f (args.toList.map (kK (St.mk' n l loc obj))) σ fun r' σ' => r' = r ∧ σ' = σ) ∧ K (St.mk' n ((d, .d r) :: fT (args.toList.filterMap aW) l) loc obj)) := by
 have e : (args.toList.map aW).filterMap id = args.toList.filterMap aW := by rw [List.filterMap_map]; rfl
 simp only [nB, qO, qN, qR, Cw, gO, e];rfl
theorem yB {P : Program} {c : Cfg} {d : Nat} {f : FuncId} {args : Array Operand} {ts : Array TypeId} {n : Nat} {l : List (Nat × Slot)} {loc obj : List (List D)} {K : St → Prop} :
  nB P c (some d) (.call ⟨.value (.func f), args, ts⟩) .detT (St.mk' n l loc obj) K =
  ((args.toList.filterMap aW).Nodup ∧ (∀ x ∈ args.toList, mA ((St.mk' n l loc obj).rdS x) = true ∧ ((St.mk' n l loc obj).rd x).plain = true) ∧
   ∃ r σ0, (Ct P f (args.toList.map (kK (St.mk' n l loc obj))) obj fun r' σ' => r' = r ∧ σ' = σ0) ∧ K (St.mk' n ((d, .d r) :: fT (args.toList.filterMap aW) l) loc σ0)) := by
 have e : (args.toList.map aW).filterMap id = args.toList.filterMap aW := by rw [List.filterMap_map]; rfl
 simp only [nB, qO, qN, qR, Cw, gO, e];rfl
theorem Tl {P : Program} {c : Cfg} {d : Option Tmp} {op : Op} {f : Fl} {st : St} {K : St → Prop} : nB P c d op (.op f) st K = (dZ op = false ∧ fW c d st op = f ∧ cY P c d op st K) := rfl
theorem Lw {P : Program} {c : Cfg} {d : Option Tmp} {f : FuncId} {args : Array Operand} {ts : Array TypeId} {st : St} {K : St → Prop} : nB P c d (.call ⟨.value (.func f), args, ts⟩) .pure st K =
  (eL args.toList st ∧ ∃ r, (∀ σ, Ct P f (cF args.toList st) σ fun r' σ' => r' = r ∧ σ' = σ) ∧ K (st.put d (.d r))) := rfl
def Vg (P : Program) (dst : Option Tmp) (d : D) (args : List Operand) (st : St) (K : St → Prop) : Prop := match d with
 | .clo (.func fid) first caps => (∀ d ∈ first ++ caps, d.plain = true) ∧ eL args st ∧ ∃ r, (∀ σ, Ct P fid (first.map D.strip ++ cF args st ++ caps.map D.strip) σ fun r' σ' => r' = r ∧ σ' = σ) ∧ K (st.put dst (.d r))
 | _ => False
theorem Gb {P : Program} {c : Cfg} {d : Option Tmp} {f : Operand} {args : Array Operand} {ts : Array TypeId} {st : St} {K : St → Prop} : nB P c d (.call ⟨.value f, args, ts⟩) .pureC st K = Vg P d (st.rd f) args.toList st K := rfl
theorem Oh {P : Program} {dst : Option Tmp} {fid : FuncId} {first caps : List D} {args : List Operand} {st : St} {K : St → Prop} : Vg P dst (.clo (.func fid) first caps) args st K = ((∀ d ∈ first ++ caps, d.plain = true) ∧ eL args st ∧ ∃ r, (∀ σ, Ct P fid (first.map D.strip ++ cF args st ++ caps.map D.strip) σ fun r' σ' => r' = r ∧ σ' = σ) ∧ K (st.put dst (.d r))) := rfl
theorem Hk {P : Program} {c : Cfg} {d : Option Tmp} {f : FuncId} {args : Array Operand} {ts : Array TypeId} {st : St} {K : St → Prop} : nB P c d (.call ⟨.value (.func f), args, ts⟩) .read st K =
  (eL args.toList st ∧ ∃ r, (Ct P f (cF args.toList st) st.obj fun r' σ' => r' = r ∧ σ' = st.obj) ∧ K (st.put d (.d r))) := rfl
theorem Sp {P : Program} {c : Cfg} {d : Option Tmp} {f : FuncId} {args : Array Operand} {ts : Array TypeId} {st : St} {K : St → Prop} : nB P c d (.call ⟨.value (.func f), args, ts⟩) .nd st K =
  ∃ Q, (eL args.toList st ∧ Ct P f (cF args.toList st) st.obj Q ∧ ∃ r σ0, Q r σ0) ∧ ∀ r σ0, Q r σ0 → K (({ st with obj := σ0 } : St).put d (.d r)) := rfl
theorem Gc {P : Program} {c : Cfg} {d : Option Tmp} {f : FuncId} {args : Array Operand} {ts : Array TypeId} {st : St} {K : St → Prop} : nB P c d (.call ⟨.value (.func f), args, ts⟩) .readT st K =
  (eL args.toList st ∧ ∃ r, (∀ J, Ct P f (cF args.toList st) (st.obj ++ J) fun r' σ' => r' = r ∧ σ' = st.obj ++ J) ∧ K (st.put d (.d r))) := rfl
theorem Iv {P : Program} {c : Cfg} {d : Option Tmp} {f : FuncId} {args : Array Operand} {ts : Array TypeId} {st : St} {K : St → Prop} : nB P c d (.call ⟨.value (.func f), args, ts⟩) .detA st K =
  (eL args.toList st ∧ ∃ r J, (Ct P f (cF args.toList st) st.obj fun r' σ' => r' = r ∧ σ' = st.obj ++ J) ∧ K (({ st with obj := st.obj ++ J } : St).put d (.d r))) := rfl
theorem Ot {P : Program} {c : Cfg} {d : Option Tmp} {f : FuncId} {args : Array Operand} {ts : Array TypeId} {st : St} {K : St → Prop} : nB P c d (.call ⟨.value (.func f), args, ts⟩) .det st K =
  (eL args.toList st ∧ ∃ r σ0, (Ct P f (cF args.toList st) st.obj fun r' σ' => r' = r ∧ σ' = σ0) ∧ K (({ st with obj := σ0 } : St).put d (.d r))) := rfl
theorem Od {P : Program} {t : Nat} {a b : Code} {s : Slot} {n : Nat} {l : List (Nat × Slot)} {loc obj : List (List D)} {Q : Exit → St → Prop} (hs : bU l t = s)
  (h : sB s.toD (fM P a Q (St.mk' n ((t, .d (.bool true)) :: l) loc obj)) (fM P b Q (St.mk' n ((t, .d (.bool false)) :: l) loc obj))) : fM P (.cond (.tmp t) a b) Q (St.mk' n l loc obj) := by
 unfold sB at h;split at h
 ·rename_i v hv;have hs' : bU l t = .d (.v (.bool v)) := by
   rw [hs];cases s with
   | d d => simp only [Slot.toD] at hv; rw [hv]
   | lref n o => simp [Slot.toD] at hv
  rw [yF hs'];cases v with
  | true => exact fP (t := true) (by simp [St.rd, St.rdS, iA, St.mk']) (fun _ => h.1 rfl) (fun h => by cases h)
  | false => exact fP (t := false) (by simp [St.rd, St.rdS, iA, St.mk']) (fun h => by cases h) (fun _ => h.2 rfl)
 ·exact h.elim
def iK (o : Oper) : Oper := ⟨o.dst, o.op, 0, "", #[], o.guard⟩
theorem iC : List.map iK [] = [] := rfl
theorem gC (d : Option Tmp) (op : Op) (ty : TypeId) (pos : String) (after : Array Edge) (g : Option (Nat × Bool)) (r : List Oper) : List.map iK (⟨d, op, ty, pos, after, g⟩ :: r) = ⟨d, op, 0, "", #[], g⟩ :: List.map iK r := rfl
theorem rZ {P : Program} {c : Cfg} {all : List Oper} {K : St → Prop} : ∀ (r : List Oper) (st : St), iE P c all (r.map iK) st K = iE P c all r st K
 | [], _ => rfl
 | o :: r, st => by
  have ih : (fun st' => iE P c all (r.map iK) st' K) = fun st' => iE P c all r st' K := funext fun st' => rZ r st';show iE P c all (iK o :: r.map iK) st K = _
  unfold iE;simp only [iK, ih];split
  ·rfl
  ·split
   ·split
    ·rw [rZ r]; rfl
    ·rfl
   ·rfl
theorem pR {P : Program} {c : Cfg} {all : List Oper} {K : St → Prop} : ∀ (r : List Oper) (ks : List DK) (st : St), fA P c all (r.map iK) ks st K = fA P c all r ks st K
 | [], _, _ => rfl
 | _ :: _, [], _ => rfl
 | o :: r, k :: ks, st => by
  have ih : (fun st' => fA P c all (r.map iK) ks st' K) = fun st' => fA P c all r ks st' K := funext fun st' => pR r ks st';show fA P c all (iK o :: r.map iK) (k :: ks) st K = _
  unfold fA;simp only [iK, ih];congr 1;split
  ·rfl
  ·split
   ·split
    ·rw [pR r]
    ·rfl
   ·rfl
theorem lJ {P : Program} {c : Cfg} {id : Nat} {ops ops' : List Oper} {Q : Exit → St → Prop} {st : St} (he : ops.map iK = ops') (h : ∀ all : List Oper, (∀ j, bK all j = bK ops j) → ∀ K : St → Prop, (∀ s, Q .normal s → K s) → iE P c all ops' st K) : fM P (.region id ops.toArray false) Q st :=
 Aa fun K hK => by
  have := h ops (fun _ => rfl) K hK
  rwa [← he, rZ] at this
theorem tT {P : Program} {c : Cfg} {id : Nat} {ops ops' : List Oper} (ks : List DK) {Q : Exit → St → Prop} {st : St} (hm : P.follows .mixedOrders = true) (hok : qU c ops ks = true) (he : ops.map iK = ops')
  (h : ∀ all : List Oper, (∀ j, bK all j = bK ops j) → ∀ K : St → Prop, (∀ s, Q .normal s → K s) → fA P c all ops' ks st K) : fM P (.region id ops.toArray true) Q st :=
 Hr ks hm hok fun K hK => by
  have := h ops (fun _ => rfl) K hK
  rwa [← he, pR] at this
def Bk : D → Prop
 | .v (.slice none 0 0) => True
 | _ => False
def tQ (x y : D) : Prop := y = x ∨ (x.plain = true ∧ y = x.strip) ∨ (Bk x ∧ (y = .sl false [] ∨ y = .sl true []))
theorem Ax : Bk (.v (.slice none 0 0)) = True := rfl
def gB : List D → List D → Prop
 | [], [] => True
 | a :: r, b :: q => tQ a b ∧ gB r q
 | _, _ => False
theorem dM {a b : List D} (h : a = b) : gB a b := by
 subst h;induction a with
 | nil => trivial
 | cons x r ih => exact ⟨.inl rfl, ih⟩
theorem rN : ∀ {a b : List D}, gB a b → a.length = b.length
 | [], [], _ => rfl
 | _ :: _, _ :: _, h => by simp [rN h.2]
 | [], _ :: _, h => h.elim
 | _ :: _, [], h => h.elim
theorem sH : ∀ {a b : List D}, gB a b → ∀ (i : Nat) (y : D), b[i]? = some y → ∃ x, a[i]? = some x ∧ tQ x y
 | x :: _, _ :: _, h, 0, y, hy => by simp at hy; subst hy; exact ⟨x, rfl, h.1⟩
 | _ :: _, _ :: _, h, i + 1, y, hy => by simpa using sH h.2 i y (by simpa using hy)
 | [], [], _, _, _, hy => by simp at hy
 | [], _ :: _, h, _, _, _ => h.elim
 | _ :: _, [], h, _, _, _ => h.elim
theorem Ct.of_le {P : Program} {f : FuncId} {a a' : List D} {σ σ' : List (List D)} {Q : D → List (List D) → Prop} (h : Ct P f a σ Q) (e : gB a' a) (e2 : σ' = σ) : Ct P f a' σ' Q := by
 subst e2;refine ⟨h.1, fun w g vs hs hb ho => h.2 w g vs (by rw [hs, rN e]) hb ⟨ho.mem, ho.xlt, fun t => ?_, ho.ll, ho.loc, ho.ol, ho.obj⟩⟩;have hsl := ho.slot t;simp only [St.ofArgs] at hsl ⊢;unfold cC at hsl ⊢;cases hy : a[t]? with
 | none => exact ⟨.any _, .flat _ _ _ rfl⟩
 | some y =>
  obtain ⟨x, hx, hle⟩ := sH e t y hy;rw [hx] at hsl;rcases hle with rfl | ⟨hp, rfl⟩ | ⟨hn, hy⟩
  ·exact hsl
  ·exact gU hsl.1 hp t
  ·have hxn : x = .v (.slice none 0 0) := by
    unfold Bk at hn;split at hn
    ·rfl
    ·exact hn.elim
   subst hxn;obtain ⟨hr, _⟩ := hsl;have hv := hr.vEq;rcases hy with rfl | rfl
   ·exact ⟨by rw [hv]; exact .nil _, .flat _ _ _ rfl⟩
   ·exact ⟨by rw [hv]; exact .nil _, .sl _ _ _ (.inl ⟨_, _, hv⟩)⟩
theorem nG : ∀ (sets : List (Nat × Slot)) (l : List (Nat × Slot)), bY sets (bU l) = bU (sets.reverseAux l)
 | [], l => rfl
 | (a, s) :: r, l => by
  show bY r (fun u => if u = a then s else bU l u) = _
  have : (fun u => if u = a then s else bU l u) = bU ((a, s) :: l) := by funext u; rw [iA]
  rw [this, nG r]; rfl
theorem Sf (n : Nat) (l : List (Nat × Slot)) (loc obj : List (List D)) (sets : List (Nat × Slot)) (ob : Option (List (List D))) : (St.mk' n l loc obj).upd ⟨sets, none, ob⟩ = St.mk' n (sets.reverseAux l) loc (ob.getD obj) := by
 show ({ n := n, env := bY sets (bU l), loc := loc, obj := ob.getD obj } : St) = _
 rw [nG]; rfl
theorem Bi (l : List (Nat × Slot)) : List.reverseAux [] l = l := rfl
theorem xA (a : Nat × Slot) (r l : List (Nat × Slot)) : List.reverseAux (a :: r) l = List.reverseAux r (a :: l) := rfl
def Hf (R : fC) (K : List (Nat × Slot) → Option (List (List D)) → Prop) : Prop := ∃ sets ob, R sets ob ∧ K sets ob
@[congr] theorem Yt {R R' : fC} {K : List (Nat × Slot) → Option (List (List D)) → Prop} (h : R = R') : Hf R K = Hf R' K := by rw [h]
theorem Rc {P : Program} {alt : Bool} {dst : Option Tmp} {op : Op} {st : St} {K : St → Prop} : Wd P alt dst op st K = Hf (fun sets ob => yR P alt dst op st.rdS (if (Lc alt op).rO = true then st.obj else []) sets ob) (fun sets ob => K (st.upd ⟨sets, none, ob⟩)) := rfl
theorem Rk {S : List (Nat × Slot)} {O : Option (List (List D))} {K : List (Nat × Slot) → Option (List (List D)) → Prop} : Hf (fun sets ob => sets = S ∧ ob = O) K = K S O := by
 apply propext;constructor
 ·rintro ⟨_, _, ⟨rfl, rfl⟩, h⟩; exact h
 ·intro h; exact ⟨_, _, ⟨rfl, rfl⟩, h⟩
theorem No {C : Prop} {R : fC} {K : List (Nat × Slot) → Option (List (List D)) → Prop} : Hf (fun sets ob => C ∧ R sets ob) K = (C ∧ Hf (fun sets ob => R sets ob) K) := by
 apply propext;constructor
 ·rintro ⟨_, _, ⟨h1, h2⟩, h⟩; exact ⟨h1, _, _, h2, h⟩
 ·rintro ⟨h1, _, _, h2, h⟩; exact ⟨_, _, ⟨h1, h2⟩, h⟩
theorem Ss {α : Type} {R : α → fC} {K : List (Nat × Slot) → Option (List (List D)) → Prop} : Hf (fun sets ob => ∃ x, R x sets ob) K = ∃ x, Hf (fun sets ob => R x sets ob) K := by
 apply propext;constructor
 ·rintro ⟨_, _, ⟨x, h2⟩, h⟩; exact ⟨x, _, _, h2, h⟩
 ·rintro ⟨x, _, _, h2, h⟩; exact ⟨_, _, ⟨x, h2⟩, h⟩
theorem Rx {R S : fC} {K : List (Nat × Slot) → Option (List (List D)) → Prop} : Hf (fun sets ob => R sets ob ∨ S sets ob) K = (Hf (fun sets ob => R sets ob) K ∨ Hf (fun sets ob => S sets ob) K) := by
 apply propext;constructor
 ·rintro ⟨_, _, h1 | h1, h⟩
  ·exact .inl ⟨_, _, h1, h⟩
  ·exact .inr ⟨_, _, h1, h⟩
 ·rintro (⟨_, _, h1, h⟩ | ⟨_, _, h1, h⟩)
  ·exact ⟨_, _, .inl h1, h⟩
  ·exact ⟨_, _, .inr h1, h⟩
theorem Uc {K : List (Nat × Slot) → Option (List (List D)) → Prop} : Hf (fun _ _ => False) K = False := by
 apply propext;exact ⟨fun ⟨_, _, h, _⟩ => h, False.elim⟩
attribute [simp] Rc Rk No Ss Rx Uc
attribute [simp] Sf Bi xA Za pE vK yR Na Mz pH uL Ds He lN tW Hb Lc zL oD Ju Ax jZ jY lQ rI iJ pN lX oR lW tX iX Bool.true_or Bool.false_or
theorem Dn (cs : List D) : D.strip (.tup cs) = .tup (cs.map D.s2) := rfl
attribute [simp] Dn D.plain
theorem Rn (n : Nat) (cs : List D) : lG true n cs = if n ≤ cs.length then some (.agg (cs.take n)) else none := rfl
theorem Sj (n : Nat) (cs : List D) : lG false n cs = cs.head? := rfl
theorem aI (cs : List D) (off : Nat) (ds : List D) : bJ cs off ds = cs.take off ++ ds ++ cs.drop (off + ds.length) := rfl
attribute [simp low] Rn Sj aI
attribute [simp] vF yB Tl Lw Gb Oh Hk Ot Gc Iv Sp
attribute [simp] Ey Kh Mn Re Ub Ug Sh Rs Uq Us To Eh Lz Lr Gv Ij Lv Bj Gf Eu Ew Mv Iu Um Ra Ng Rb Nj Hq Ge kX gN fI Bl zJ vM Mh xO Dw Ev xK Bt
attribute [simp] Nx List.getElem?_cons_zero Option.bind_some Cw qO qN qR uA tU Nt Jh Kb Hp Js Cn Gi Iy Rr Jo lP Ue Jd
 Qf Lp Bv Nq Pe Nb Ix Fh Gu Gl Gy Gs Zd Uz Tc Qx Rw Sg Ob Va Ti Sb Rf
 Ny Jc Fc Dv Eo Dr Ec Oo Iz Ej Ez Gg Ff Jm Do Ca zQ Oi Kg Hc Gt
 iR Ni Mj Hl Fz Ri Pv Ja Ke Nd Qo Qk Tj Ry Rz Su Fd Si Sn Nz Jx Iw aM cY wR Oj bE Dl pK dU iH jD gA cT Tx lY sM zE dN kJ qB Oq pW qK dW dG eO jK eM jO jW cI gD uQ jT fX
 iO qC lM jJ dT fH gY sE iI lB eJ eL cF kK mA uF St.cellsAt St.park Slot.plus Slot.isAddr Da D.ofList
 Fw Bq Nf Vo Ov Ki Gz Ln sW Ph Tf Mc dZ fW dH oJ rV pC Jn Et Fe Em
end Go.Vm

