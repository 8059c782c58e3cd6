import Derived.Test.YtighdhfgcdjmeaaDoorVm21
namespace Go.Vm
open Go
set_option linter.all false
section
variable {P : Program}
theorem aD {y : Code} {Q : Exit → St → Prop} {s : St} (h : fH P y Q s) : Bt P y Q .normal s := h
theorem bO {y : Code} {Q : Exit → St → Prop} {s : St} {i : Nat} (h : Q (.exit i) s) : Bt P y Q (.exit i) s := h
theorem bJ {y : Code} {Q : Exit → St → Prop} {s : St} (h : Q .ret s) : Bt P y Q .ret s := h
theorem aX {i : Nat} {Q : Exit → St → Prop} {s : St} (h : Q .normal s) : oC i Q .normal s := h
theorem bE {i : Nat} {Q : Exit → St → Prop} {s : St} (h : Q .normal s) : oC i Q (.exit i) s := by simpa [oC] using h
theorem tL {i : Nat} {Q : Exit → St → Prop} {s : St} (h : Q .ret s) : oC i Q .ret s := h
theorem bP {α : Type} {S : α → St} {p : α → Prop} {m : α → Nat} {x : α} {Q : Exit → St → Prop} {s : St} {i : Nat} (h : Q (.exit i) s) : sI S p m x Q (.exit i) s := h
theorem Hp {α : Type} {S : α → St} {p : α → Prop} {m : α → Nat} {x : α} {Q : Exit → St → Prop} {s : St} (h : Q .ret s) : sI S p m x Q .ret s := h
def qQ (d : D) (A B : Prop) : Prop := match d with
 | .v (.bool t) => (t = true → A) ∧ (t = false → B)
 | _ => False
theorem aI {c : Cfg} {all r : List Oper} {d : Option Tmp} {op : Op} {ty : TypeId} {pos : String} {after : Array Edge} {st : St} {K : St → Prop} (h : ∀ K' : St → Prop, (∀ s, gO P c all r s K → K' s) → zE d st ∧ cQ P c d op st K') : gO P c all (⟨d, op, ty, pos, after, none⟩ :: r) st K :=
 h _ fun _ h => h
theorem aC {c : Cfg} {all : List Oper} (n : Nat) {r : List Oper} {st : St} {K : St → Prop} (h : ∀ K' : St → Prop, (∀ s, gO P c all (r.drop n) s K → K' s) → gO P c all (r.take n) st K') : gO P c all r st K := by
 have go : ∀ (n : Nat) (r : List Oper) (st : St), gO P c all (r.take n) st (fun s => gO P c all (r.drop n) s K) → gO P c all r st K := by
  intro n;induction n with
  | zero => intro r st h; exact h
  | succ n ih =>
   intro r st h;cases r with
   | nil => exact h
   | cons o r =>
    simp only [List.take_succ_cons, List.drop_succ_cons] at h;unfold gO at h ⊢;split at h
    ·rename_i hg;have hd := h.1;refine ⟨hd, ?_⟩;exact lX (fun s hs => ih r s hs) h.2
    ·rename_i j want hg;split at h
     ·split at h
      ·exact ⟨fun hb => ⟨(h.1 hb).1, lX (fun s hs => ih r s hs) (h.1 hb).2⟩, fun hb => ⟨(h.2 hb).1, ih r _ (h.2 hb).2⟩⟩
      ·exact h.elim
     ·exact h.elim
 exact go n r st (h _ fun _ h => h)
theorem Rg {c : Cfg} {all r : List Oper} {d : Option Tmp} {op : Op} {ty : TypeId} {pos : String} {after : Array Edge} {j t : Nat} {b want : Bool} {st : St} {K : St → Prop} (hg : aY all j = some t) (hs : st.env t = .d (.v (.bool b)))
  (h1 : b = want → ∀ K' : St → Prop, (∀ s, gO P c all r s K → K' s) → zE d st ∧ cQ P c d op st K') (h2 : b = !want → zE d st ∧ gO P c all r (st.put d .und) K) : gO P c all (⟨d, op, ty, pos, after, some (j, want)⟩ :: r) st K := by
 rw [sW];simp only [hg, hs];exact ⟨fun hb => h1 hb _ fun _ h => h, h2⟩
theorem Qf {c : Cfg} {all r : List Oper} {d : Option Tmp} {op : Op} {ty : TypeId} {pos : String} {after : Array Edge} {j t : Nat} {b want : Bool} {st : St} {K : St → Prop} (hg : aY all j = some t) (hs : st.env t = .d (.v (.bool b))) (hb : b = want)
  (h1 : ∀ K' : St → Prop, (∀ s, gO P c all r s K → K' s) → zE d st ∧ cQ P c d op st K') : gO P c all (⟨d, op, ty, pos, after, some (j, want)⟩ :: r) st K :=
 Rg hg hs (fun _ => h1) fun h => (by rw [hb] at h; cases want <;> cases h)
theorem wJ {n t : Nat} {l : List (Nat × Slot)} {loc obj : List (List D)} {b : Bool} (hs : bN l t = .d (.v (.bool b))) : St.mk' n l loc obj = St.mk' n ((t, .d (.bool b)) :: l) loc obj := by
 unfold St.mk';congr 1;funext u;simp only [bN];split
 ·rename_i e; rw [e, hs]
 ·rfl
theorem cC {c : Cfg} {all r : List Oper} {n : Nat} {l : List (Nat × Slot)} {loc obj : List (List D)} {K : St → Prop} (t : Nat) {s : Slot} (hs : bN l t = s)
  (h : qQ s.toD (gO P c all r (St.mk' n ((t, .d (.bool true)) :: l) loc obj) K) (gO P c all r (St.mk' n ((t, .d (.bool false)) :: l) loc obj) K)) : gO P c all r (St.mk' n l loc obj) K := by
 unfold qQ at h;split at h
 ·rename_i b hb;have hs' : bN l t = .d (.v (.bool b)) := by
   rw [hs];cases s with
   | d d => simp only [Slot.toD] at hb; rw [hb]
   | lref n o => simp [Slot.toD] at hb
  rw [wJ hs'];cases b
  ·exact h.2 rfl
  ·exact h.1 rfl
 ·exact h.elim
def Ot (P : Program) (c : Cfg) (all r : List Oper) (K : St → Prop) : St → Prop := fun st => gO P c all r st K
theorem Kb {c : Cfg} {all r : List Oper} {K : St → Prop} {st : St} : Ot P c all r K st = gO P c all r st K := rfl
theorem Ng {c : Cfg} {all r : List Oper} {d : Option Tmp} {op : Op} {ty : TypeId} {pos : String} {after : Array Edge} {st : St} {K : St → Prop} : gO P c all (⟨d, op, ty, pos, after, none⟩ :: r) st K = (zE d st ∧ cQ P c d op st (Ot P c all r K)) := rfl
def Ie (P : Program) (c : Cfg) (all r : List Oper) (ks : List DK) (K : St → Prop) : St → Prop := fun st => eJ P c all r ks st K
theorem Ft {c : Cfg} {all r : List Oper} {ks : List DK} {K : St → Prop} {st : St} : Ie P c all r ks K st = eJ P c all r ks st K := rfl
theorem Hc {c : Cfg} {all r : List Oper} {d : Option Tmp} {op : Op} {ty : TypeId} {pos : String} {after : Array Edge} {k : DK} {ks : List DK} {st : St} {K : St → Prop} : eJ P c all (⟨d, op, ty, pos, after, none⟩ :: r) (k :: ks) st K = (zE d st ∧ lW P c d op k st (Ie P c all r ks K)) := rfl
@[congr] theorem Sa {op : BinOp} {t : TypeId} {x y x' y' : Slot} {K : D → Prop} (hx : x = x') (hy : y = y') : jN P op t x y K = jN P op t x' y' K := by rw [hx, hy]
@[congr] theorem Rl {op : BinOp} {k : IntKind} {a b a' b' : Int} {K : D → Prop} (hx : a = a') (hy : b = b') : pP op k a b K = pP op k a' b' K := by rw [hx, hy]
@[congr] theorem Rv {op : BinOp} {a b a' b' : ByteArray} {K : D → Prop} (hx : a = a') (hy : b = b') : pJ op a b K = pJ op a' b' K := by rw [hx, hy]
@[congr] theorem Ru {t : TypeId} {a b a' b' : List D} {K : Bool → Prop} (hx : a = a') (hy : b = b') : uB P t a b K = uB P t a' b' K := by rw [hx, hy]
@[congr] theorem Sm {op : UnOp} {x x' : D} {K : D → Prop} (hx : x = x') : pY op x K = pY op x' K := by rw [hx]
def Qy (b : Bool) (s r : Slot) : Slot := if b = true then s else r
@[congr] theorem Ta {b b' : Bool} {s r : Slot} (h : b = b') : Qy b s r = Qy b' s r := by rw [h]
theorem Ny {s r : Slot} : Qy true s r = s := rfl
theorem Od {s r : Slot} : Qy false s r = r := rfl
theorem tT (a : Nat) (s : Slot) (r : List (Nat × Slot)) (t : Nat) : bN ((a, s) :: r) t = Qy (t == a) s (bN r t) := by
 simp only [bN, Qy, beq_iff_eq]
def Ss (s : Slot) (want : Bool) : Option Bool := pN s want
def Sq (o : Option Tmp) (st : St) (want : Bool) : Option Bool := match o with
 | some t => Ss (st.env t) want
 | none => none
@[congr] theorem Tw {o o' : Option Tmp} {st : St} {want : Bool} (h : o = o') : Sq o st want = Sq o' st want := by rw [h]
theorem Ik (t : Tmp) (st : St) (want : Bool) : Sq (some t) st want = Ss (st.env t) want := rfl
theorem He (b want : Bool) : Ss (.d (.v (.bool b))) want = some b := rfl
theorem Md (want : Bool) : Ss (.d (.tup [])) want = some (!want) := rfl
def Gu (all : List Oper) (j : Nat) (st : St) (want : Bool) : Option Bool := match aY all j with
 | some t => pN (st.env t) want
 | none => none
theorem Mp (all : List Oper) (j : Nat) (st : St) (want : Bool) : Gu all j st want = Sq (aY all j) st want := rfl
def Cd (g : Option Bool) (want : Bool) (A B : Prop) : Prop := match g with
 | some b => (b = want → A) ∧ (b = !want → B)
 | none => False
@[congr] theorem Qz {g g' : Option Bool} {want : Bool} {A B : Prop} (h : g = g') : Cd g want A B = Cd g' want A B := by rw [h]
theorem Pw {A B : Prop} : Cd (some true) true A B = A := by simp [Cd]
theorem Qm {A B : Prop} : Cd (some true) false A B = B := by simp [Cd]
theorem Qn {A B : Prop} : Cd (some false) true A B = B := by simp [Cd]
theorem Qu {A B : Prop} : Cd (some false) false A B = A := by simp [Cd]
theorem Ql {c : Cfg} {all r : List Oper} {d : Option Tmp} {op : Op} {ty : TypeId} {pos : String} {after : Array Edge} {j : Nat} {want : Bool} {st : St} {K : St → Prop} : gO P c all (⟨d, op, ty, pos, after, some (j, want)⟩ :: r) st K =
  Cd (Gu all j st want) want (zE d st ∧ cQ P c d op st (Ot P c all r K)) (zE d st ∧ gO P c all r (st.put d .und) K) := by
 rw [sW];unfold Gu Cd;split
 ·rename_i t ht;simp only [ht];split
  ·rename_i h; simp [h]; exact fun _ => Iff.rfl
  ·rename_i h; simp [h]
 ·rename_i h; simp [h]
def Ax (d : D) (A B : Prop) : Prop := match d with
 | .v (.bool t) => (t = true → A) ∧ (t = false → B)
 | _ => False
@[congr] theorem Pq {d d' : D} {A B : Prop} (h : d = d') : Ax d A B = Ax d' A B := by rw [h]
theorem Qh {A B : Prop} : Ax (.v (.bool true)) A B = A := by simp [Ax]
theorem Pr {A B : Prop} : Ax (.v (.bool false)) A B = B := by simp [Ax]
theorem Cs {dst : Option Tmp} {c a b : Operand} {st : St} {K : St → Prop} : lU dst c a b st K = Ax (st.rd c) ((st.rd a).plain = true ∧ K (st.put dst (.d (st.rd a).strip))) ((st.rd b).plain = true ∧ K (st.put dst (.d (st.rd b).strip))) := rfl
theorem yI {c : Cfg} {dst : Option Tmp} {op : Op} {k : DK} {st : St} {K K' : St → Prop} (hk : ∀ s, K s → K' s) (h : lW P c dst op k st K) : lW P c dst op k st K' := by
 unfold lW at *;cases k with
 | op f => exact ⟨h.1, h.2.1, lX hk h.2.2⟩
 | pure =>
  simp only at *;split at h
  ·obtain ⟨h1, r, h2, h3⟩ := h; exact ⟨h1, r, h2, hk _ h3⟩
  ·exact h
 | pureC =>
  simp only at *;split at h
  ·split at h
   ·rename_i hf;obtain ⟨h0, h1, r, h2, h3⟩ := h;exact ⟨h0, h1, r, h2, hk _ h3⟩
   ·exact h.elim
  ·exact h
 | read =>
  simp only at *;split at h
  ·obtain ⟨h1, r, h2, h3⟩ := h; exact ⟨h1, r, h2, hk _ h3⟩
  ·exact h
 | det =>
  simp only at *;split at h
  ·obtain ⟨h1, r, σ0, h2, h3⟩ := h; exact ⟨h1, r, σ0, h2, hk _ h3⟩
  ·exact h
 | readT =>
  simp only at *;split at h
  ·obtain ⟨h1, r, h2, h3⟩ := h; exact ⟨h1, r, h2, hk _ h3⟩
  ·exact h
 | nd =>
  obtain ⟨Q, h1, h2⟩ := h;exact ⟨Q, h1, fun r σ0 hq => hk _ (h2 r σ0 hq)⟩
 | detA =>
  simp only at *;split at h
  ·obtain ⟨h1, r, J, h2, h3⟩ := h; exact ⟨h1, r, J, h2, hk _ h3⟩
  ·exact h
 | pureT =>
  simp only at *;split at h
  ·obtain ⟨h0, h1, r, h2, h3⟩ := h; exact ⟨h0, h1, r, h2, hk _ h3⟩
  ·exact h
 | detT =>
  simp only at *;split at h
  ·obtain ⟨h0, h1, r, σ0, h2, h3⟩ := h; exact ⟨h0, h1, r, σ0, h2, hk _ h3⟩
  ·exact h
theorem mU {c : Cfg} {all : List Oper} {ks : List DK} {st : St} {K : St → Prop} : eJ P c all [] ks st K = K st := by unfold eJ; rfl
theorem No {c : Cfg} {all r : List Oper} {d : Option Tmp} {op : Op} {ty : TypeId} {pos : String} {after : Array Edge} {j : Nat} {want : Bool} {k : DK} {ks : List DK} {st : St} {K : St → Prop} : eJ P c all (⟨d, op, ty, pos, after, some (j, want)⟩ :: r) (k :: ks) st K =
  (zE d st ∧ Cd (Gu all j st want) want (lW P c d op k st (Ie P c all r ks K)) (eJ P c all r ks (st.put d .und) K)) := by
 conv => lhs; unfold eJ
 show (_ ∧ _) = _
 congr 1;simp only;unfold Gu Cd;split
 ·rename_i t ht;simp only [ht];split
  ·rename_i h; simp [h]; exact fun _ => Iff.rfl
  ·rename_i h; simp [h]
 ·rename_i h; simp [h]
theorem cZ {c : Cfg} {all r : List Oper} {d : Option Tmp} {op : Op} {ty : TypeId} {pos : String} {after : Array Edge} {k : DK} {ks : List DK} {st : St} {K : St → Prop} (h : ∀ K' : St → Prop, (∀ s, eJ P c all r ks s K → K' s) → zE d st ∧ lW P c d op k st K') : eJ P c all (⟨d, op, ty, pos, after, none⟩ :: r) (k :: ks) st K :=
 h _ fun _ h => h
theorem bL {c : Cfg} {all : List Oper} (n : Nat) {r : List Oper} {ks : List DK} {st : St} {K : St → Prop} (hks : n ≤ ks.length) (h : ∀ K' : St → Prop, (∀ s, eJ P c all (r.drop n) (ks.drop n) s K → K' s) → eJ P c all (r.take n) (ks.take n) st K') : eJ P c all r ks st K := by
 have go : ∀ (n : Nat) (r : List Oper) (ks : List DK) (st : St), n ≤ ks.length → eJ P c all (r.take n) (ks.take n) st (fun s => eJ P c all (r.drop n) (ks.drop n) s K) → eJ P c all r ks st K := by
  intro n;induction n with
  | zero => intro r ks st _ h; simp only [List.take_zero, List.drop_zero, mU] at h; exact h
  | succ n ih =>
   intro r ks st hks h;cases ks with
   | nil => simp at hks
   | cons k ks =>
    cases r with
    | nil => simp only [List.take_nil, List.drop_nil, mU] at h ⊢; exact h
    | cons o r =>
     simp only [List.take_succ_cons, List.drop_succ_cons] at h;simp only [List.length_cons] at hks;unfold eJ at h ⊢;refine ⟨h.1, ?_⟩;have h2 := h.2;split at h2
     ·exact yI (fun s hs => ih r ks s (by omega) hs) h2
     ·split at h2
      ·split at h2
       ·exact ⟨fun hb => yI (fun s hs => ih r ks s (by omega) hs) (h2.1 hb), fun hb => ih r ks _ (by omega) (h2.2 hb)⟩
       ·exact h2.elim
      ·exact h2.elim
 exact go n r ks st hks (h _ fun _ h => h)
def Fb : List Nat → List (Nat × Slot) → List (Nat × Slot)
 | _, [] => []
 | W, (t, s) :: r => if W.contains t then Fb W r else (t, s) :: Fb (t :: W) r
theorem Lv (n : Nat) (s : Slot) : wG n s (.d .any) = True := by
 unfold wG; split <;> simp_all
theorem Rb (n : Nat) (x : D) : wG n (.d x) (.d x) = True := by
 cases x with
 | sl o es => cases o <;> simp [wG]
 | _ => simp [wG]
theorem Lj (n : Nat) (es : List D) : wG n (.d (.sl true es)) (.d (.sl false es)) = True := by
 unfold wG; simp
theorem Ib (n m o : Nat) : wG n (.lref m o) (.lref m o) = (m < n) := by
 unfold wG; simp
def nN (n : Nat) (env : Nat → Slot) : List (Nat × Slot) → Prop
 | [] => True
 | (a, s) :: r => wG n (env a) s ∧ nN n env r
theorem Gd (n : Nat) (env : Nat → Slot) : nN n env [] = True := rfl
theorem Bi (n : Nat) (env : Nat → Slot) (a : Nat) (s : Slot) (r : List (Nat × Slot)) : nN n env ((a, s) :: r) = (wG n (env a) s ∧ nN n env r) := rfl
theorem iV {n : Nat} {env : Nat → Slot} : ∀ {l : List (Nat × Slot)}, nN n env l → ∀ p ∈ l, wG n (env p.1) p.2
 | [], _, p, hp => by simp at hp
 | (a, s) :: r, h, p, hp => by
  rcases List.mem_cons.1 hp with rfl | hp
  ·exact h.1
  ·exact iV h.2 p hp
theorem bK {st : St} {n : Nat} {l : List (Nat × Slot)} {loc obj : List (List D)} (hn : st.n = n) (hl : nN loc.length st.env l) (hloc : loc <+: st.loc) (hobj : st.obj = obj) : Weak st (St.mk' n l loc obj) :=
 vP hn (iV hl) hloc hobj
theorem dA {α : Type} {n : Nat} {l l2 : List (Nat × Slot)} {loc obj : List (List D)} (F : α → List (Nat × Slot)) (W : List Nat) (p : α → Prop) (m : α → Nat) (x0 : α) {body : Code} {Q : Exit → St → Prop}
  (hl : Fb W l = l2) (hF : nN loc.length (bN l) (F x0 ++ l2)) (hp : p x0)
  (h : ∀ x, p x → fH P body (sI (fun x => St.mk' n (F x ++ l2) loc obj) p m x Q) (St.mk' n (F x ++ l2) loc obj)) : fH P (.loop body) Q (St.mk' n l loc obj) :=
 wK (fun x => St.mk' n (F x ++ l2) loc obj) p m x0 (vP rfl (iV hF) (List.prefix_refl _) rfl) hp h
theorem gB {α : Type} {n : Nat} {l l2 : List (Nat × Slot)} {loc obj : List (List D)} (F : α → List (Nat × Slot)) (G H : α → List (List D)) (W : List Nat) (p : α → Prop) (m : α → Nat) (x0 : α) {body : Code} {Q : Exit → St → Prop}
  (hl : Fb W l = l2) (hF : nN (G x0).length (bN l) (F x0 ++ l2)) (hG : G x0 = loc) (hH : H x0 = obj) (hp : p x0)
  (h : ∀ x, p x → fH P body (sI (fun x => St.mk' n (F x ++ l2) (G x) (H x)) p m x Q) (St.mk' n (F x ++ l2) (G x) (H x))) : fH P (.loop body) Q (St.mk' n l loc obj) :=
 wK (fun x => St.mk' n (F x ++ l2) (G x) (H x)) p m x0 (vP rfl (iV hF) (by rw [hG]; exact List.prefix_refl _) hH.symm) hp h
theorem bW {α : Type} {S : α → St} {p : α → Prop} {m : α → Nat} {x : α} {Q : Exit → St → Prop} {s : St} (y : α) (hp : p y) (hm : m y < m x) (hw : Weak s (S y)) : sI S p m x Q .normal s := ⟨y, hp, hm, hw⟩
theorem zW (n : Nat) : D.strip (.mref n) = .mref n := rfl
theorem Mb (n : Nat) : D.s1 (.mref n) = .mref n := rfl
theorem Lm (n : Nat) : D.s2 (.mref n) = .mref n := rfl
theorem Ac (n : Nat) : D.plain (.mref n) = true := rfl
theorem zL (n : Nat) : D.solid (.mref n) = true := rfl
theorem xA (n : Nat) : D.ncells (.mref n) = 1 := rfl
theorem Bc (n : Nat) : D.cells (.mref n) = [.mref n] := rfl
theorem Dz (n a b : Nat) (l : List Nat) : D.strip (.mit n a l b) = .any := rfl
theorem Ol (n a b : Nat) (l : List Nat) : D.s1 (.mit n a l b) = .any := rfl
theorem Oq (n a b : Nat) (l : List Nat) : D.s2 (.mit n a l b) = .any := rfl
theorem Eh (n a b : Nat) (l : List Nat) : D.plain (.mit n a l b) = true := rfl
theorem Dk (n a b : Nat) (l : List Nat) : D.solid (.mit n a l b) = false := rfl
theorem Jj (n c : Nat) (kd : TypeDesc) (kvs : List (Value × Nat × D)) : D.strip (.mp n kd c kvs) = .mref n := rfl
theorem Rd (n c : Nat) (kd : TypeDesc) (kvs : List (Value × Nat × D)) : D.s1 (.mp n kd c kvs) = .mref n := rfl
theorem Rs (n c : Nat) (kd : TypeDesc) (kvs : List (Value × Nat × D)) : D.s2 (.mp n kd c kvs) = .mref n := rfl
theorem Hl (n c : Nat) (kd : TypeDesc) (kvs : List (Value × Nat × D)) : D.plain (.mp n kd c kvs) = true := rfl
theorem Jw (n c : Nat) (kd : TypeDesc) (kvs : List (Value × Nat × D)) : D.solid (.mp n kd c kvs) = true := rfl
theorem Ej (n c : Nat) (kd : TypeDesc) (kvs : List (Value × Nat × D)) : D.ncells (.mp n kd c kvs) = 1 := rfl
theorem Jn (n c : Nat) (kd : TypeDesc) (kvs : List (Value × Nat × D)) : D.cells (.mp n kd c kvs) = [.mp n kd c kvs] := rfl
theorem Dy (t : TypeId) (d : D) : D.strip (.ifc t d) = .ifc t d := rfl
theorem Qp (t : TypeId) (d : D) : D.s1 (.ifc t d) = .ifc t d := rfl
theorem Ov (t : TypeId) (d : D) : D.s2 (.ifc t d) = .ifc t d := rfl
theorem Dw (t : TypeId) (d : D) : D.plain (.ifc t d) = true := rfl
theorem Fo (t : TypeId) (d : D) : D.solid (.ifc t d) = true := rfl
theorem Al (t : TypeId) (d : D) : D.ncells (.ifc t d) = 1 := rfl
theorem Dv (t : TypeId) (d : D) : D.cells (.ifc t d) = [.ifc t d] := rfl
theorem Hq (n : Nat) : D.arr (.mref n) = true := rfl
attribute [simp] Dz Ol Oq Eh Dk jG lQ iZ Nv zW Mb Lm Ac zL xA Bc Jj Rd Rs Hl Jw Ej Jn Dy Qp Ov Dw Fo Al Dv Hq
theorem Ei (n a b c : Nat) : D.strip (.slo n a b c) = .slo n a b c := rfl
theorem Ky (n : Nat) : D.strip (.xl n) = .xl n := rfl
theorem Kk (k : Nat) (es : List D) : D.strip (.xs k es) = .xl es.length := rfl
theorem On (n a b c : Nat) : D.s2 (.slo n a b c) = .slo n a b c := rfl
theorem Ra (n : Nat) : D.s2 (.xl n) = .xl n := rfl
theorem Sb (k : Nat) (es : List D) : D.s2 (.xs k es) = .xl es.length := rfl
theorem Oi (f : Go.Fn) (a b : List D) : D.s2 (.clo f a b) = .clo f a b := rfl
theorem Pu (n a b c : Nat) : D.s1 (.slo n a b c) = .slo n a b c := rfl
theorem Rr (n : Nat) : D.s1 (.xl n) = .xl n := rfl
theorem Sk (k : Nat) (es : List D) : D.s1 (.xs k es) = .xl es.length := rfl
theorem Qs (f : Go.Fn) (a b : List D) : D.s1 (.clo f a b) = .clo f a b := rfl
theorem Fd (n a b c : Nat) : D.plain (.slo n a b c) = true := rfl
theorem Kw (n : Nat) : D.plain (.xl n) = true := rfl
theorem Ha (k : Nat) (es : List D) : D.plain (.xs k es) = true := rfl
theorem Co (n a b c : Nat) : D.solid (.slo n a b c) = true := rfl
theorem Jf (n : Nat) : D.solid (.xl n) = true := rfl
theorem Hx (k : Nat) (es : List D) : D.solid (.xs k es) = true := rfl
theorem Ap (n a b c : Nat) : D.ncells (.slo n a b c) = 1 := rfl
theorem Eb (n : Nat) : D.ncells (.xl n) = 1 := rfl
theorem Df (k : Nat) (es : List D) : D.ncells (.xs k es) = 1 := rfl
theorem Es (n a b c : Nat) : D.cells (.slo n a b c) = [.slo n a b c] := rfl
theorem Hf (n : Nat) : D.cells (.xl n) = [.xl n] := rfl
theorem Ij (k : Nat) (es : List D) : D.cells (.xs k es) = [.xs k es] := rfl
theorem Si (x : Value) : D.arr (.v x) = true := rfl
theorem Pk (es : List D) : D.arr (.sl false es) = true := rfl
theorem Mi (cs : List D) : D.arr (.agg cs) = cs.all D.flat := rfl
theorem Pi (x : Value) : D.flat (.v x) = true := rfl
theorem Lq (es : List D) : D.flat (.sl false es) = true := rfl
theorem Jo (n o : Nat) : D.flat (.ref n o) = true := rfl
def oB : List (Nat × List D) → List (List D) → List (List D)
 | [], l => l
 | (n, c) :: r, l => (oB r l).set n c
theorem nH (l : List (List D)) : oB [] l = l := rfl
theorem kV (n : Nat) (c : List D) (r : List (Nat × List D)) (l : List (List D)) : oB ((n, c) :: r) l = (oB r l).set n c := rfl
theorem pC {P : Program} {α : Type} {n : Nat} {l l2 : List (Nat × Slot)} {loc obj : List (List D)} (F : α → List (Nat × Slot)) (M N : α → List (Nat × List D)) (W : List Nat) (p : α → Prop) (m : α → Nat) (x0 : α) {body : Code} {Q : Exit → St → Prop}
  (hl : Fb W l = l2) (hF : nN (oB (M x0) loc).length (bN l) (F x0 ++ l2)) (hG : oB (M x0) loc = loc) (hH : oB (N x0) obj = obj) (hp : p x0)
  (h : ∀ x, p x → fH P body (sI (fun x => St.mk' n (F x ++ l2) (oB (M x) loc) (oB (N x) obj)) p m x Q) (St.mk' n (F x ++ l2) (oB (M x) loc) (oB (N x) obj))) : fH P (.loop body) Q (St.mk' n l loc obj) :=
 gB F (fun x => oB (M x) loc) (fun x => oB (N x) obj) W p m x0 hl hF hG hH hp h
theorem Gb {α : Type} (l : List α) (a : α) : (l ++ [a])[l.length]? = some a := by simp
theorem Iv {α : Type} (l : List α) (a b : α) : (l ++ [a]).set l.length b = l ++ [b] := by simp
def mQ : List Nat → List (Nat × Slot) → List (Nat × Slot)
 | [], _ => []
 | t :: r, l => (t, bN l t) :: mQ r l
theorem Dp (l : List (Nat × Slot)) : mQ [] l = [] := rfl
theorem sD (t : Nat) (r : List Nat) (l : List (Nat × Slot)) : mQ (t :: r) l = (t, bN l t) :: mQ r l := rfl
theorem tD (l : List (Nat × Slot)) (u : Nat) : ∀ K : List Nat, bN (mQ K l) u = bN l u ∨ bN (mQ K l) u = .any
 | [] => .inr rfl
 | t :: r => by
  rw [sD, gY];split
  ·rename_i h; subst h; exact .inl rfl
  ·exact tD l u r
theorem Ix {P : Program} (K : List Nat) {l2 : List (Nat × Slot)} {c : Code} {n : Nat} {l : List (Nat × Slot)} {loc obj : List (List D)} {Q : Exit → St → Prop} (hl : mQ K l = l2) (h : fH P c Q (St.mk' n l2 loc obj)) : fH P c Q (St.mk' n l loc obj) := by
 subst hl;intro w0 g0 w g tmps hf hok hn;refine h w0 g0 w g tmps hf ⟨hok.mem, hok.xlt, fun t => ?_, hok.ll, hok.loc, hok.ol, hok.obj⟩ hn;have hs := hok.slot t;show SlotOk w g t (bN (mQ K l) t) _
 rcases tD l t K with e | e
 ·rw [e]; exact hs
 ·rw [e]; exact ⟨.any _, .flat _ _ _ rfl⟩
theorem oE {P : Program} (ts k : Nat) {es : List D} {c : Code} {n : Nat} {l : List (Nat × Slot)} {loc obj : List (List D)} {Q : Exit → St → Prop} (hs : bN l ts = .d (.xs k es)) (hk0 : 0 < k)
  (h : ∀ (cap : Nat) (rest : List D), es.length ≤ cap → cap ≤ maxLen → rest.length = (cap - es.length) * k → 0 < k → (∀ d ∈ es, d.ncells = k ∧ d.arr = true) → fH P c Q (St.mk' n ((ts, .d (.slo obj.length 0 es.length cap)) :: l) loc (obj ++ [es.flatMap D.cells ++ rest]))) : fH P c Q (St.mk' n l loc obj) := by
 intro w0 g0 w g tmps hf hok hn;obtain ⟨cap, rest, g', a1, a2, a3, a4, a5, _, hfr, hok'⟩ := hok.openX ts k es hs hk0;exact h cap rest a1 a2 a3 a4 a5 w0 g0 w g' tmps (hf.trans hfr) hok' hn
theorem eN {P : Program} (ts k : Nat) {es : List D} {c : Code} {n : Nat} {l : List (Nat × Slot)} {loc obj : List (List D)} {Q : Exit → St → Prop} (hs : bN l ts = .d (.xs k es)) (hk0 : 0 < k)
  (h : ∀ (cap : Nat) (rest : List D), es.length ≤ cap → cap ≤ maxLen → rest = List.replicate ((cap - es.length) * k) .any → 0 < k → (∀ d ∈ es, d.ncells = k ∧ d.arr = true) → fH P c Q (St.mk' n ((ts, .d (.slo obj.length 0 es.length cap)) :: l) loc (obj ++ [es.flatMap D.cells ++ rest]))) : fH P c Q (St.mk' n l loc obj) := by
 intro w0 g0 w g tmps hf hok hn;obtain ⟨cap, rest, g', a1, a2, a3, a4, a5, _, hfr, hok'⟩ := hok.openX2 ts k es hs hk0;exact h cap rest a1 a2 a3 a4 a5 w0 g0 w g' tmps (hf.trans hfr) hok' hn
theorem cR {P : Program} (ts k m len cap : Nat) (es cs : List D) {c : Code} {n : Nat} {l : List (Nat × Slot)} {loc obj : List (List D)} {Q : Exit → St → Prop} (hs : bN l ts = .d (.slo m 0 len cap)) (hm : obj[m]? = some cs) (hk : 0 < k) (hcs : cs.length = cap * k) (hl : es.length = len)
  (hes : ∀ d ∈ es, d.ncells = k ∧ d.arr = true) (he : es.flatMap D.cells <+: cs) (h : fH P c Q (St.mk' n ((ts, .d (.xs k es)) :: l) loc (obj.set m []))) : fH P c Q (St.mk' n l loc obj) := by
 intro w0 g0 w g tmps hf hok hn;obtain ⟨g', _, hfr, hok'⟩ := hok.closeX ts k m len cap es cs hs hm hk hcs hl hes he;exact h w0 g0 w g' tmps (hf.trans hfr) hok' hn
theorem Gw {α : Type} (f : α → D) (l : List α) (k : Nat) (h : k < l.length) : (l.map f).getD k .any = f l[k] := by
 simp [List.getD, h]
theorem sO {α : Type} (f : α → D) (l : List α) (k : Nat) (h : k < l.length) : (l.map f)[k]? = some (f l[k]) := by
 simp [h]
theorem Ni (n : Int) : qA .i64 n = (-9223372036854775808 ≤ n ∧ n ≤ 9223372036854775807) := by
 unfold qA;rfl
theorem Pn (n : Int) : qA .u8 n = (0 ≤ n ∧ n ≤ 255) := by
 unfold qA;rfl
end
theorem Gs : vG [] = true := rfl
theorem Er (r : List (Option Holder)) : vG (none :: r) = vG r := by simp [vG]
theorem Ef (h : Holder) (r : List (Option Holder)) : vG (some h :: r) = (!r.contains (some h) && vG r) := by
 simp only [vG, List.filterMap_cons, id, List.nodup_cons, Bool.decide_and, List.contains_eq_mem];congr 1;rw [← decide_not];congr 1;simp [List.mem_filterMap]
theorem Ec : maxLen = 9223372036854775807 := rfl
theorem Ml (n : Nat) (l : List (Nat × Slot)) (loc obj : List (List D)) : ({ n := n, env := bN l, loc := loc, obj := obj } : St) = St.mk' n l loc obj := rfl
def oS : Slot → Slot
 | .d x => .d x.strip
 | s => s
def fJ : List Nat → List (Nat × Slot) → List (Nat × Slot)
 | [], l => l
 | t :: r, l => (t, oS (bN l t)) :: fJ r l
theorem pM (l : List (Nat × Slot)) (u : Nat) : ∀ ts : List Nat, bN (fJ ts l) u = if u ∈ ts then oS (bN l u) else bN l u
 | [] => by simp [fJ]
 | t :: r => by
  rw [fJ, gY, pM l u r];by_cases h : u = t
  ·subst h; simp
  ·simp [h]
theorem gG (l : List (Nat × Slot)) (ts : List (Option Nat)) : cF ts (bN l) = bN (fJ (ts.filterMap id) l) := by
 funext u;rw [pM];by_cases h : some u ∈ ts
 ·have h1 : ts.contains (some u) = true := by simpa using h
  have h2 : u ∈ ts.filterMap id := by simpa using h
  simp only [cF, h1, if_true, if_pos h2, oS];split <;> simp_all
 ·have h1 : ts.contains (some u) = false := by simpa using h
  have h2 : ¬ u ∈ ts.filterMap id := by simpa using h
  simp only [cF, h1, if_neg h2]; rfl
theorem zK {P : Program} {d : Nat} {f : FuncId} {args : List Operand} {n : Nat} {l : List (Nat × Slot)} {loc obj : List (List D)} {K : St → Prop} : fS P (some d) f args (St.mk' n l loc obj) K =
  ((args.filterMap aT).Nodup ∧ (∀ x ∈ args, lJ ((St.mk' n l loc obj).rdS x) = true ∧ ((St.mk' n l loc obj).rd x).plain = true) ∧
   Ct P f (args.map (jR (St.mk' n l loc obj))) obj (fun r σ' => K (St.mk' n ((d, .d r) :: fJ (args.filterMap aT) l) loc σ'))) := by
 unfold fS;have e : (args.map aT).filterMap id = args.filterMap aT := by rw [List.filterMap_map]; rfl
 simp only [pZ, qF, qE, Bp, gG, e];rfl
theorem xH (l : List (Nat × Slot)) : fJ [] l = l := rfl
theorem vV (t : Nat) (r : List Nat) (l : List (Nat × Slot)) : fJ (t :: r) l = (t, oS (bN l t)) :: fJ r l := rfl
theorem Jb (x : D) : oS (.d x) = .d x.strip := rfl
theorem xM (a b : Nat) : oS (.lref a b) = .lref a b := rfl
theorem Dd : List.filterMap aT [] = [] := rfl
theorem Cx (t : Tmp) (r : List Operand) : List.filterMap aT (.tmp t :: r) = t :: List.filterMap aT r := rfl
theorem yE (v : Value) (r : List Operand) : List.filterMap aT (.const v :: r) = List.filterMap aT r := rfl
theorem zQ (v : FuncId) (r : List Operand) : List.filterMap aT (.func v :: r) = List.filterMap aT r := rfl
theorem uJ {P : Program} {c : Cfg} {d : Nat} {f : FuncId} {args : Array Operand} {ts : Array TypeId} {n : Nat} {l : List (Nat × Slot)} {loc obj : List (List D)} {K : St → Prop} :
  lW P c (some d) (.call ⟨.value (.func f), args, ts⟩) .pureT (St.mk' n l loc obj) K =
  ((args.toList.filterMap aT).Nodup ∧ (∀ x ∈ args.toList, lJ ((St.mk' n l loc obj).rdS x) = true ∧ ((St.mk' n l loc obj).rd x).plain = true) ∧
   ∃ r, (∀ σ, Ct P f (args.toList.map (jR (St.mk' n l loc obj))) σ fun r' σ' => r' = r ∧ σ' = σ) ∧ K (St.mk' n ((d, .d r) :: fJ (args.toList.filterMap aT) l) loc obj)) := by
 have e : (args.toList.map aT).filterMap id = args.toList.filterMap aT := by rw [List.filterMap_map]; rfl
 simp only [lW, pZ, qF, qE, Bp, gG, e];rfl
theorem xR {P : Program} {c : Cfg} {d : Nat} {f : FuncId} {args : Array Operand} {ts : Array TypeId} {n : Nat} {l : List (Nat × Slot)} {loc obj : List (List D)} {K : St → Prop} :
  lW P c (some d) (.call ⟨.value (.func f), args, ts⟩) .detT (St.mk' n l loc obj) K =
  ((args.toList.filterMap aT).Nodup ∧ (∀ x ∈ args.toList, lJ ((St.mk' n l loc obj).rdS x) = true ∧ ((St.mk' n l loc obj).rd x).plain = true) ∧
   ∃ r σ0, (Ct P f (args.toList.map (jR (St.mk' n l loc obj))) obj fun r' σ' => r' = r ∧ σ' = σ0) ∧ K (St.mk' n ((d, .d r) :: fJ (args.toList.filterMap aT) l) loc σ0)) := by
 have e : (args.toList.map aT).filterMap id = args.toList.filterMap aT := by rw [List.filterMap_map]; rfl
 simp only [lW, pZ, qF, qE, Bp, gG, e];rfl
theorem Qd {P : Program} {c : Cfg} {d : Option Tmp} {op : Op} {f : Fl} {st : St} {K : St → Prop} : lW P c d op (.op f) st K = (dZ op = false ∧ fV c d st op = f ∧ cQ P c d op st K) := rfl
theorem Gm {P : Program} {c : Cfg} {d : Option Tmp} {f : FuncId} {args : Array Operand} {ts : Array TypeId} {st : St} {K : St → Prop} : lW P c d (.call ⟨.value (.func f), args, ts⟩) .pure st K =
  (eI args.toList st ∧ ∃ r, (∀ σ, Ct P f (bX args.toList st) σ fun r' σ' => r' = r ∧ σ' = σ) ∧ K (st.put d (.d r))) := rfl
def Ri (P : Program) (dst : Option Tmp) (d : D) (args : List Operand) (st : St) (K : St → Prop) : Prop := match d with
 | .clo (.func fid) first caps => (∀ d ∈ first ++ caps, d.plain = true) ∧ eI args st ∧ ∃ r, (∀ σ, Ct P fid (first.map D.strip ++ bX args st ++ caps.map D.strip) σ fun r' σ' => r' = r ∧ σ' = σ) ∧ K (st.put dst (.d r))
 | _ => False
theorem Cm {P : Program} {c : Cfg} {d : Option Tmp} {f : Operand} {args : Array Operand} {ts : Array TypeId} {st : St} {K : St → Prop} : lW P c d (.call ⟨.value f, args, ts⟩) .pureC st K = Ri P d (st.rd f) args.toList st K := rfl
theorem Lk {P : Program} {dst : Option Tmp} {fid : FuncId} {first caps : List D} {args : List Operand} {st : St} {K : St → Prop} : Ri P dst (.clo (.func fid) first caps) args st K = ((∀ d ∈ first ++ caps, d.plain = true) ∧ eI args st ∧ ∃ r, (∀ σ, Ct P fid (first.map D.strip ++ bX args st ++ caps.map D.strip) σ fun r' σ' => r' = r ∧ σ' = σ) ∧ K (st.put dst (.d r))) := rfl
theorem Jz {P : Program} {c : Cfg} {d : Option Tmp} {f : FuncId} {args : Array Operand} {ts : Array TypeId} {st : St} {K : St → Prop} : lW P c d (.call ⟨.value (.func f), args, ts⟩) .read st K =
  (eI args.toList st ∧ ∃ r, (Ct P f (bX args.toList st) st.obj fun r' σ' => r' = r ∧ σ' = st.obj) ∧ K (st.put d (.d r))) := rfl
theorem Qq {P : Program} {c : Cfg} {d : Option Tmp} {f : FuncId} {args : Array Operand} {ts : Array TypeId} {st : St} {K : St → Prop} : lW P c d (.call ⟨.value (.func f), args, ts⟩) .nd st K =
  ∃ Q, (eI args.toList st ∧ Ct P f (bX args.toList st) st.obj Q ∧ ∃ r σ0, Q r σ0) ∧ ∀ r σ0, Q r σ0 → K (({ st with obj := σ0 } : St).put d (.d r)) := rfl
theorem Ev {P : Program} {c : Cfg} {d : Option Tmp} {f : FuncId} {args : Array Operand} {ts : Array TypeId} {st : St} {K : St → Prop} : lW P c d (.call ⟨.value (.func f), args, ts⟩) .readT st K =
  (eI args.toList st ∧ ∃ r, (∀ J, Ct P f (bX args.toList st) (st.obj ++ J) fun r' σ' => r' = r ∧ σ' = st.obj ++ J) ∧ K (st.put d (.d r))) := rfl
theorem Ig {P : Program} {c : Cfg} {d : Option Tmp} {f : FuncId} {args : Array Operand} {ts : Array TypeId} {st : St} {K : St → Prop} : lW P c d (.call ⟨.value (.func f), args, ts⟩) .detA st K =
  (eI args.toList st ∧ ∃ r J, (Ct P f (bX args.toList st) st.obj fun r' σ' => r' = r ∧ σ' = st.obj ++ J) ∧ K (({ st with obj := st.obj ++ J } : St).put d (.d r))) := rfl
theorem Le {P : Program} {c : Cfg} {d : Option Tmp} {f : FuncId} {args : Array Operand} {ts : Array TypeId} {st : St} {K : St → Prop} : lW P c d (.call ⟨.value (.func f), args, ts⟩) .det st K =
  (eI args.toList st ∧ ∃ r σ0, (Ct P f (bX args.toList st) st.obj fun r' σ' => r' = r ∧ σ' = σ0) ∧ K (({ st with obj := σ0 } : St).put d (.d r))) := rfl
theorem Lr {P : Program} {t : Nat} {a b : Code} {s : Slot} {n : Nat} {l : List (Nat × Slot)} {loc obj : List (List D)} {Q : Exit → St → Prop} (hs : bN l t = s)
  (h : qQ s.toD (fH P a Q (St.mk' n ((t, .d (.bool true)) :: l) loc obj)) (fH P b Q (St.mk' n ((t, .d (.bool false)) :: l) loc obj))) : fH P (.cond (.tmp t) a b) Q (St.mk' n l loc obj) := by
 unfold qQ at h;split at h
 ·rename_i v hv;have hs' : bN l t = .d (.v (.bool v)) := by
   rw [hs];cases s with
   | d d => simp only [Slot.toD] at hv; rw [hv]
   | lref n o => simp [Slot.toD] at hv
  rw [wJ hs'];cases v with
  | true => exact dR (t := true) (by simp [St.rd, St.rdS, gY, St.mk']) (fun _ => h.1 rfl) (fun h => by cases h)
  | false => exact dR (t := false) (by simp [St.rd, St.rdS, gY, St.mk']) (fun h => by cases h) (fun _ => h.2 rfl)
 ·exact h.elim
def hD (o : Oper) : Oper := ⟨o.dst, o.op, 0, "", #[], o.guard⟩
theorem fK : List.map hD [] = [] := rfl
theorem eQ (d : Option Tmp) (op : Op) (ty : TypeId) (pos : String) (after : Array Edge) (g : Option (Nat × Bool)) (r : List Oper) : List.map hD (⟨d, op, ty, pos, after, g⟩ :: r) = ⟨d, op, 0, "", #[], g⟩ :: List.map hD r := rfl
theorem qJ {P : Program} {c : Cfg} {all : List Oper} {K : St → Prop} : ∀ (r : List Oper) (st : St), gO P c all (r.map hD) st K = gO P c all r st K
 | [], _ => rfl
 | o :: r, st => by
  have ih : (fun st' => gO P c all (r.map hD) st' K) = fun st' => gO P c all r st' K := funext fun st' => qJ r st';show gO P c all (hD o :: r.map hD) st K = _
  unfold gO;simp only [hD, ih];split
  ·rfl
  ·split
   ·split
    ·rw [qJ r]; rfl
    ·rfl
   ·rfl
theorem lE {P : Program} {c : Cfg} {all : List Oper} {K : St → Prop} : ∀ (r : List Oper) (ks : List DK) (st : St), eJ P c all (r.map hD) ks st K = eJ P c all r ks st K
 | [], _, _ => rfl
 | _ :: _, [], _ => rfl
 | o :: r, k :: ks, st => by
  have ih : (fun st' => eJ P c all (r.map hD) ks st' K) = fun st' => eJ P c all r ks st' K := funext fun st' => lE r ks st';show eJ P c all (hD o :: r.map hD) (k :: ks) st K = _
  unfold eJ;simp only [hD, ih];congr 1;split
  ·rfl
  ·split
   ·split
    ·rw [lE r]
    ·rfl
   ·rfl
theorem jZ {P : Program} {c : Cfg} {id : Nat} {ops ops' : List Oper} {Q : Exit → St → Prop} {st : St} (he : ops.map hD = ops') (h : ∀ all : List Oper, (∀ j, aY all j = aY ops j) → ∀ K : St → Prop, (∀ s, Q .normal s → K s) → gO P c all ops' st K) : fH P (.region id ops.toArray false) Q st :=
 zF fun K hK => by
  have := h ops (fun _ => rfl) K hK
  rwa [← he, qJ] at this
theorem tM {P : Program} {c : Cfg} {id : Nat} {ops ops' : List Oper} (ks : List DK) {Q : Exit → St → Prop} {st : St} (hm : P.follows .mixedOrders = true) (hok : qL c ops ks = true) (he : ops.map hD = ops')
  (h : ∀ all : List Oper, (∀ j, aY all j = aY ops j) → ∀ K : St → Prop, (∀ s, Q .normal s → K s) → eJ P c all ops' ks st K) : fH P (.region id ops.toArray true) Q st :=
 Gx ks hm hok fun K hK => by
  have := h ops (fun _ => rfl) K hK
  rwa [← he, lE] at this
def Az : D → Prop
 | .v (.slice none 0 0) => True
 | _ => False
def qY (x y : D) : Prop := y = x ∨ (x.plain = true ∧ y = x.strip) ∨ (Az x ∧ (y = .sl false [] ∨ y = .sl true []))
theorem zN : Az (.v (.slice none 0 0)) = True := rfl
def fD : List D → List D → Prop
 | [], [] => True
 | a :: r, b :: q => qY a b ∧ fD r q
 | _, _ => False
theorem cM {a b : List D} (h : a = b) : fD a b := by
 subst h;induction a with
 | nil => trivial
 | cons x r ih => exact ⟨.inl rfl, ih⟩
theorem rX : ∀ {a b : List D}, fD a b → a.length = b.length
 | [], [], _ => rfl
 | _ :: _, _ :: _, h => by simp [rX h.2]
 | [], _ :: _, h => h.elim
 | _ :: _, [], h => h.elim
theorem qV : ∀ {a b : List D}, fD a b → ∀ (i : Nat) (y : D), b[i]? = some y → ∃ x, a[i]? = some x ∧ qY x y
 | x :: _, _ :: _, h, 0, y, hy => by simp at hy; subst hy; exact ⟨x, rfl, h.1⟩
 | _ :: _, _ :: _, h, i + 1, y, hy => by simpa using qV h.2 i y (by simpa using hy)
 | [], [], _, _, _, hy => by simp at hy
 | [], _ :: _, h, _, _, _ => h.elim
 | _ :: _, [], h, _, _, _ => h.elim
theorem Ct.of_le {P : Program} {f : FuncId} {a a' : List D} {σ σ' : List (List D)} {Q : D → List (List D) → Prop} (h : Ct P f a σ Q) (e : fD a' a) (e2 : σ' = σ) : Ct P f a' σ' Q := by
 subst e2;refine ⟨h.1, fun w g vs hs hb ho => h.2 w g vs (by rw [hs, rX e]) hb ⟨ho.mem, ho.xlt, fun t => ?_, ho.ll, ho.loc, ho.ol, ho.obj⟩⟩;have hsl := ho.slot t;simp only [St.ofArgs] at hsl ⊢;unfold bS at hsl ⊢;cases hy : a[t]? with
 | none => exact ⟨.any _, .flat _ _ _ rfl⟩
 | some y =>
  obtain ⟨x, hx, hle⟩ := qV e t y hy;rw [hx] at hsl;rcases hle with rfl | ⟨hp, rfl⟩ | ⟨hn, hy⟩
  ·exact hsl
  ·exact gH hsl.1 hp t
  ·have hxn : x = .v (.slice none 0 0) := by
    unfold Az at hn;split at hn
    ·rfl
    ·exact hn.elim
   subst hxn;obtain ⟨hr, _⟩ := hsl;have hv := hr.vEq;rcases hy with rfl | rfl
   ·exact ⟨by rw [hv]; exact .nil _, .flat _ _ _ rfl⟩
   ·exact ⟨by rw [hv]; exact .nil _, .sl _ _ _ (.inl ⟨_, _, hv⟩)⟩
theorem nD : ∀ (sets : List (Nat × Slot)) (l : List (Nat × Slot)), bV sets (bN l) = bN (sets.reverseAux l)
 | [], l => rfl
 | (a, s) :: r, l => by
  show bV r (fun u => if u = a then s else bN l u) = _
  have : (fun u => if u = a then s else bN l u) = bN ((a, s) :: l) := by funext u; rw [gY]
  rw [this, nD r]; rfl
theorem Ps (n : Nat) (l : List (Nat × Slot)) (loc obj : List (List D)) (sets : List (Nat × Slot)) (ob : Option (List (List D))) : (St.mk' n l loc obj).upd ⟨sets, none, ob⟩ = St.mk' n (sets.reverseAux l) loc (ob.getD obj) := by
 show ({ n := n, env := bV sets (bN l), loc := loc, obj := ob.getD obj } : St) = _
 rw [nD]; rfl
theorem Aq (l : List (Nat × Slot)) : List.reverseAux [] l = l := rfl
theorem wS (a : Nat × Slot) (r l : List (Nat × Slot)) : List.reverseAux (a :: r) l = List.reverseAux r (a :: l) := rfl
def Gf (R : fA) (K : List (Nat × Slot) → Option (List (List D)) → Prop) : Prop := ∃ sets ob, R sets ob ∧ K sets ob
@[congr] theorem Td {R R' : fA} {K : List (Nat × Slot) → Option (List (List D)) → Prop} (h : R = R') : Gf R K = Gf R' K := by rw [h]
theorem Qe {P : Program} {alt : Bool} {dst : Option Tmp} {op : Op} {st : St} {K : St → Prop} : Sy P alt dst op st K = Gf (fun sets ob => yR P alt dst op st.rdS (if (Hi alt op).rO = true then st.obj else []) sets ob) (fun sets ob => K (st.upd ⟨sets, none, ob⟩)) := rfl
theorem Om {S : List (Nat × Slot)} {O : Option (List (List D))} {K : List (Nat × Slot) → Option (List (List D)) → Prop} : Gf (fun sets ob => sets = S ∧ ob = O) K = K S O := by
 apply propext;constructor
 ·rintro ⟨_, _, ⟨rfl, rfl⟩, h⟩; exact h
 ·intro h; exact ⟨_, _, ⟨rfl, rfl⟩, h⟩
theorem Lt {C : Prop} {R : fA} {K : List (Nat × Slot) → Option (List (List D)) → Prop} : Gf (fun sets ob => C ∧ R sets ob) K = (C ∧ Gf (fun sets ob => R sets ob) K) := by
 apply propext;constructor
 ·rintro ⟨_, _, ⟨h1, h2⟩, h⟩; exact ⟨h1, _, _, h2, h⟩
 ·rintro ⟨h1, _, _, h2, h⟩; exact ⟨_, _, ⟨h1, h2⟩, h⟩
theorem Po {α : Type} {R : α → fA} {K : List (Nat × Slot) → Option (List (List D)) → Prop} : Gf (fun sets ob => ∃ x, R x sets ob) K = ∃ x, Gf (fun sets ob => R x sets ob) K := by
 apply propext;constructor
 ·rintro ⟨_, _, ⟨x, h2⟩, h⟩; exact ⟨x, _, _, h2, h⟩
 ·rintro ⟨x, _, _, h2, h⟩; exact ⟨_, _, ⟨x, h2⟩, h⟩
theorem Pa {R S : fA} {K : List (Nat × Slot) → Option (List (List D)) → Prop} : Gf (fun sets ob => R sets ob ∨ S sets ob) K = (Gf (fun sets ob => R sets ob) K ∨ Gf (fun sets ob => S sets ob) K) := by
 apply propext;constructor
 ·rintro ⟨_, _, h1 | h1, h⟩
  ·exact .inl ⟨_, _, h1, h⟩
  ·exact .inr ⟨_, _, h1, h⟩
 ·rintro (⟨_, _, h1, h⟩ | ⟨_, _, h1, h⟩)
  ·exact ⟨_, _, .inl h1, h⟩
  ·exact ⟨_, _, .inr h1, h⟩
theorem Rw {K : List (Nat × Slot) → Option (List (List D)) → Prop} : Gf (fun _ _ => False) K = False := by
 apply propext;exact ⟨fun ⟨_, _, h, _⟩ => h, False.elim⟩
attribute [simp] Qe Om Lt Po Pa Rw
attribute [simp] Ps Aq wS Un oA uL yR Lb Lc nV sX Cn Di kY tW Dm Hi wD nC Jv zN jB jJ kX rA gU oN lA oI lC tB iQ Bool.true_or Bool.false_or
theorem Fi (cs : List D) : D.strip (.tup cs) = .tup (cs.map D.s2) := rfl
attribute [simp] Fi D.plain
theorem Oo (n : Nat) (cs : List D) : jV true n cs = if n ≤ cs.length then some (.agg (cs.take n)) else none := rfl
theorem Pv (n : Nat) (cs : List D) : jV false n cs = cs.head? := rfl
theorem aF (cs : List D) (off : Nat) (ds : List D) : bF cs off ds = cs.take off ++ ds ++ cs.drop (off + ds.length) := rfl
attribute [simp low] Oo Pv aF
attribute [simp] uJ xR Qd Gm Cm Lk Jz Le Ev Ig Qq
attribute [simp] Ei Ky Kk On Ra Sb Oi Pu Rr Sk Qs Fd Kw Ha Co Jf Hx Ap Eb Df Es Hf Ij Si Pk Mi Pi Lq Jo Gb Iv nH kV zK xH vV Jb xM Dd Cx yE zQ
attribute [simp] Ml List.getElem?_cons_zero Option.bind_some Bp pZ qF qE tT sV Nl Ia Gp Kc Gr Cb Fz Jh Pc Ii iY Rp Je
 My Jt zY Mn Nj Mj Im Fx Ga Ge Dj Ez Uy Rq Pe Ox Oj Pd Sw Sl Og Qc Oe
 Mh Ju Du Fy Dt Ey Fs Ma Ko Fm Cz Cl De Kz Ea zO Bk Mz Ir Fk En
 iS Ng Kb Hc Ft Ql Mp Ik He Md Ny Od Pw Qm Qn Qu Cs Qh Pr No Il Hr aU cQ uT Lw bD Dq oP dT gX iI fX cO Qv kS sF yF dO jN pP Ll pJ pY dV dD eK jD eO jI iU cB gA uM jE fZ
 iA pK kT iX dY fG gM rV gZ jX dU eI bX jR lJ tX St.cellsAt St.park Slot.plus Slot.isAddr Bq D.ofList
 Gd Bi Lv Rb Lj Ib Fb Gw sO Ni Pn Iq dZ fV dG mU rG oL Gs Er Ef Ec
end Go.Vm

