import Derived.Test.YtighdhfgcdjmeaaDoorVm21
namespace Go.Vm
open Go
set_option linter.all false
section
variable {P : Program}
theorem aC {y : Code} {Q : Exit → St → Prop} {s : St} (h : fL P y Q s) : Ai P y Q .normal s := h
theorem cI {y : Code} {Q : Exit → St → Prop} {s : St} {i : Nat} (h : Q (.exit i) s) : Ai P y Q (.exit i) s := h
theorem bP {y : Code} {Q : Exit → St → Prop} {s : St} (h : Q .ret s) : Ai P y Q .ret s := h
theorem bB {i : Nat} {Q : Exit → St → Prop} {s : St} (h : Q .normal s) : oC i Q .normal s := h
theorem bW {i : Nat} {Q : Exit → St → Prop} {s : St} (h : Q .normal s) : oC i Q (.exit i) s := by simpa [oC] using h
theorem sI {i : Nat} {Q : Exit → St → Prop} {s : St} (h : Q .ret s) : oC i Q .ret s := h
theorem cK {α : Type} {S : α → St} {p : α → Prop} {m : α → Nat} {x : α} {Q : Exit → St → Prop} {s : St} {i : Nat} (h : Q (.exit i) s) : sP S p m x Q (.exit i) s := h
theorem Gy {α : Type} {S : α → St} {p : α → Prop} {m : α → Nat} {x : α} {Q : Exit → St → Prop} {s : St} (h : Q .ret s) : sP S p m x Q .ret s := h
def qU (d : D) (A B : Prop) : Prop := match d with
 | .v (.bool t) => (t = true → A) ∧ (t = false → B)
 | _ => False
theorem aK {c : Cfg} {all r : List Oper} {d : Option Tmp} {op : Op} {ty : TypeId} {pos : String} {after : Array Edge} {st : St} {K : St → Prop} (h : ∀ K' : St → Prop, (∀ s, gU P c all r s K → K' s) → Aa d st ∧ cG P c d op st K') : gU P c all (⟨d, op, ty, pos, after, none⟩ :: r) st K :=
 h _ fun _ h => h
theorem aA {c : Cfg} {all : List Oper} (n : Nat) {r : List Oper} {st : St} {K : St → Prop} (h : ∀ K' : St → Prop, (∀ s, gU P c all (r.drop n) s K → K' s) → gU P c all (r.take n) st K') : gU P c all r st K := by
 have go : ∀ (n : Nat) (r : List Oper) (st : St), gU P c all (r.take n) st (fun s => gU P c all (r.drop n) s K) → gU P c all r st K := by
  intro n;induction n with
  | zero => intro r st h; exact h
  | succ n ih =>
   intro r st h;cases r with
   | nil => exact h
   | cons o r =>
    simp only [List.take_succ_cons, List.drop_succ_cons] at h;unfold gU at h ⊢;split at h
    ·rename_i hg;have hd := h.1;refine ⟨hd, ?_⟩;exact lM (fun s hs => ih r s hs) h.2
    ·rename_i j want hg;split at h
     ·split at h
      ·exact ⟨fun hb => ⟨(h.1 hb).1, lM (fun s hs => ih r s hs) (h.1 hb).2⟩, fun hb => ⟨(h.2 hb).1, ih r _ (h.2 hb).2⟩⟩
      ·exact h.elim
     ·exact h.elim
 exact go n r st (h _ fun _ h => h)
theorem Pb {c : Cfg} {all r : List Oper} {d : Option Tmp} {op : Op} {ty : TypeId} {pos : String} {after : Array Edge} {j t : Nat} {b want : Bool} {st : St} {K : St → Prop} (hg : aT all j = some t) (hs : st.env t = .d (.v (.bool b)))
  (h1 : b = want → ∀ K' : St → Prop, (∀ s, gU P c all r s K → K' s) → Aa d st ∧ cG P c d op st K') (h2 : b = !want → Aa d st ∧ gU P c all r (st.put d .und) K) : gU P c all (⟨d, op, ty, pos, after, some (j, want)⟩ :: r) st K := by
 rw [rQ];simp only [hg, hs];exact ⟨fun hb => h1 hb _ fun _ h => h, h2⟩
theorem Ll {c : Cfg} {all r : List Oper} {d : Option Tmp} {op : Op} {ty : TypeId} {pos : String} {after : Array Edge} {j t : Nat} {b want : Bool} {st : St} {K : St → Prop} (hg : aT all j = some t) (hs : st.env t = .d (.v (.bool b))) (hb : b = want)
  (h1 : ∀ K' : St → Prop, (∀ s, gU P c all r s K → K' s) → Aa d st ∧ cG P c d op st K') : gU P c all (⟨d, op, ty, pos, after, some (j, want)⟩ :: r) st K :=
 Pb hg hs (fun _ => h1) fun h => (by rw [hb] at h; cases want <;> cases h)
theorem wY {n t : Nat} {l : List (Nat × Slot)} {loc obj : List (List D)} {b : Bool} (hs : bH l t = .d (.v (.bool b))) : St.mk' n l loc obj = St.mk' n ((t, .d (.bool b)) :: l) loc obj := by
 unfold St.mk';congr 1;funext u;simp only [bH];split
 ·rename_i e; rw [e, hs]
 ·rfl
theorem cF {c : Cfg} {all r : List Oper} {n : Nat} {l : List (Nat × Slot)} {loc obj : List (List D)} {K : St → Prop} (t : Nat) {s : Slot} (hs : bH l t = s)
  (h : qU s.toD (gU P c all r (St.mk' n ((t, .d (.bool true)) :: l) loc obj) K) (gU P c all r (St.mk' n ((t, .d (.bool false)) :: l) loc obj) K)) : gU P c all r (St.mk' n l loc obj) K := by
 unfold qU at h;split at h
 ·rename_i b hb;have hs' : bH l t = .d (.v (.bool b)) := by
   rw [hs];cases s with
   | d d => simp only [Slot.toD] at hb; rw [hb]
   | lref n o => simp [Slot.toD] at hb
  rw [wY hs'];cases b
  ·exact h.2 rfl
  ·exact h.1 rfl
 ·exact h.elim
def Mj (P : Program) (c : Cfg) (all r : List Oper) (K : St → Prop) : St → Prop := fun st => gU P c all r st K
theorem Fh {c : Cfg} {all r : List Oper} {K : St → Prop} {st : St} : Mj P c all r K st = gU P c all r st K := rfl
theorem Js {c : Cfg} {all r : List Oper} {d : Option Tmp} {op : Op} {ty : TypeId} {pos : String} {after : Array Edge} {st : St} {K : St → Prop} : gU P c all (⟨d, op, ty, pos, after, none⟩ :: r) st K = (Aa d st ∧ cG P c d op st (Mj P c all r K)) := rfl
def Fb (P : Program) (c : Cfg) (all r : List Oper) (ks : List DK) (K : St → Prop) : St → Prop := fun st => dX P c all r ks st K
theorem By {c : Cfg} {all r : List Oper} {ks : List DK} {K : St → Prop} {st : St} : Fb P c all r ks K st = dX P c all r ks st K := rfl
theorem Hf {c : Cfg} {all r : List Oper} {d : Option Tmp} {op : Op} {ty : TypeId} {pos : String} {after : Array Edge} {k : DK} {ks : List DK} {st : St} {K : St → Prop} : dX P c all (⟨d, op, ty, pos, after, none⟩ :: r) (k :: ks) st K = (Aa d st ∧ lL P c d op k st (Fb P c all r ks K)) := rfl
@[congr] theorem Oa {op : BinOp} {t : TypeId} {x y x' y' : Slot} {K : D → Prop} (hx : x = x') (hy : y = y') : jD P op t x y K = jD P op t x' y' K := by rw [hx, hy]
@[congr] theorem Pi {op : BinOp} {k : IntKind} {a b a' b' : Int} {K : D → Prop} (hx : a = a') (hy : b = b') : oF op k a b K = oF op k a' b' K := by rw [hx, hy]
@[congr] theorem Pa {op : BinOp} {a b a' b' : ByteArray} {K : D → Prop} (hx : a = a') (hy : b = b') : oK op a b K = oK op a' b' K := by rw [hx, hy]
@[congr] theorem Oc {t : TypeId} {a b a' b' : List D} {K : Bool → Prop} (hx : a = a') (hy : b = b') : sV P t a b K = sV P t a' b' K := by rw [hx, hy]
@[congr] theorem Pl {op : UnOp} {x x' : D} {K : D → Prop} (hx : x = x') : oW op x K = oW op x' K := by rw [hx]
def Nu (b : Bool) (s r : Slot) : Slot := if b = true then s else r
@[congr] theorem Rp {b b' : Bool} {s r : Slot} (h : b = b') : Nu b s r = Nu b' s r := by rw [h]
theorem Lg {s r : Slot} : Nu true s r = s := rfl
theorem Ld {s r : Slot} : Nu false s r = r := rfl
theorem sY (a : Nat) (s : Slot) (r : List (Nat × Slot)) (t : Nat) : bH ((a, s) :: r) t = Nu (t == a) s (bH r t) := by
 simp only [bH, Nu, beq_iff_eq]
def Pp (s : Slot) (want : Bool) : Option Bool := oG s want
def Pm (o : Option Tmp) (st : St) (want : Bool) : Option Bool := match o with
 | some t => Pp (st.env t) want
 | none => none
@[congr] theorem Sj {o o' : Option Tmp} {st : St} {want : Bool} (h : o = o') : Pm o st want = Pm o' st want := by rw [h]
theorem Fu (t : Tmp) (st : St) (want : Bool) : Pm (some t) st want = Pp (st.env t) want := rfl
theorem Er (b want : Bool) : Pp (.d (.v (.bool b))) want = some b := rfl
theorem Kr (want : Bool) : Pp (.d (.tup [])) want = some (!want) := rfl
def Ga (all : List Oper) (j : Nat) (st : St) (want : Bool) : Option Bool := match aT all j with
 | some t => oG (st.env t) want
 | none => none
theorem Kp (all : List Oper) (j : Nat) (st : St) (want : Bool) : Ga all j st want = Pm (aT all j) st want := rfl
def Aw (g : Option Bool) (want : Bool) (A B : Prop) : Prop := match g with
 | some b => (b = want → A) ∧ (b = !want → B)
 | none => False
@[congr] theorem Nx {g g' : Option Bool} {want : Bool} {A B : Prop} (h : g = g') : Aw g want A B = Aw g' want A B := by rw [h]
theorem Mv {A B : Prop} : Aw (some true) true A B = A := by simp [Aw]
theorem Nh {A B : Prop} : Aw (some true) false A B = B := by simp [Aw]
theorem Nd {A B : Prop} : Aw (some false) true A B = B := by simp [Aw]
theorem Lr {A B : Prop} : Aw (some false) false A B = A := by simp [Aw]
theorem Ma {c : Cfg} {all r : List Oper} {d : Option Tmp} {op : Op} {ty : TypeId} {pos : String} {after : Array Edge} {j : Nat} {want : Bool} {st : St} {K : St → Prop} : gU P c all (⟨d, op, ty, pos, after, some (j, want)⟩ :: r) st K =
  Aw (Ga all j st want) want (Aa d st ∧ cG P c d op st (Mj P c all r K)) (Aa d st ∧ gU P c all r (st.put d .und) K) := by
 rw [rQ];unfold Ga Aw;split
 ·rename_i t ht;simp only [ht];split
  ·rename_i h; simp [h]; exact fun _ => Iff.rfl
  ·rename_i h; simp [h]
 ·rename_i h; simp [h]
def yJ (d : D) (A B : Prop) : Prop := match d with
 | .v (.bool t) => (t = true → A) ∧ (t = false → B)
 | _ => False
@[congr] theorem Lx {d d' : D} {A B : Prop} (h : d = d') : yJ d A B = yJ d' A B := by rw [h]
theorem Ns {A B : Prop} : yJ (.v (.bool true)) A B = A := by simp [yJ]
theorem Nm {A B : Prop} : yJ (.v (.bool false)) A B = B := by simp [yJ]
theorem Bn {dst : Option Tmp} {c a b : Operand} {st : St} {K : St → Prop} : lF dst c a b st K = yJ (st.rd c) ((st.rd a).plain = true ∧ K (st.put dst (.d (st.rd a).strip))) ((st.rd b).plain = true ∧ K (st.put dst (.d (st.rd b).strip))) := rfl
theorem wW {c : Cfg} {dst : Option Tmp} {op : Op} {k : DK} {st : St} {K K' : St → Prop} (hk : ∀ s, K s → K' s) (h : lL P c dst op k st K) : lL P c dst op k st K' := by
 unfold lL at *;cases k with
 | op f => exact ⟨h.1, h.2.1, lM hk h.2.2⟩
 | pure =>
  simp only at *;split at h
  ·obtain ⟨h1, r, h2, h3⟩ := h; exact ⟨h1, r, h2, hk _ h3⟩
  ·exact h
 | pureC =>
  simp only at *;split at h
  ·split at h
   ·rename_i hf;obtain ⟨h0, h1, r, h2, h3⟩ := h;exact ⟨h0, h1, r, h2, hk _ h3⟩
   ·exact h.elim
  ·exact h
 | read =>
  simp only at *;split at h
  ·obtain ⟨h1, r, h2, h3⟩ := h; exact ⟨h1, r, h2, hk _ h3⟩
  ·exact h
 | det =>
  simp only at *;split at h
  ·obtain ⟨h1, r, σ0, h2, h3⟩ := h; exact ⟨h1, r, σ0, h2, hk _ h3⟩
  ·exact h
 | readT =>
  simp only at *;split at h
  ·obtain ⟨h1, r, h2, h3⟩ := h; exact ⟨h1, r, h2, hk _ h3⟩
  ·exact h
 | nd =>
  obtain ⟨Q, h1, h2⟩ := h;exact ⟨Q, h1, fun r σ0 hq => hk _ (h2 r σ0 hq)⟩
 | detA =>
  simp only at *;split at h
  ·obtain ⟨h1, r, J, h2, h3⟩ := h; exact ⟨h1, r, J, h2, hk _ h3⟩
  ·exact h
 | pureT =>
  simp only at *;split at h
  ·obtain ⟨h0, h1, r, h2, h3⟩ := h; exact ⟨h0, h1, r, h2, hk _ h3⟩
  ·exact h
 | detT =>
  simp only at *;split at h
  ·obtain ⟨h0, h1, r, σ0, h2, h3⟩ := h; exact ⟨h0, h1, r, σ0, h2, hk _ h3⟩
  ·exact h
theorem mJ {c : Cfg} {all : List Oper} {ks : List DK} {st : St} {K : St → Prop} : dX P c all [] ks st K = K st := by unfold dX; rfl
theorem Kh {c : Cfg} {all r : List Oper} {d : Option Tmp} {op : Op} {ty : TypeId} {pos : String} {after : Array Edge} {j : Nat} {want : Bool} {k : DK} {ks : List DK} {st : St} {K : St → Prop} : dX P c all (⟨d, op, ty, pos, after, some (j, want)⟩ :: r) (k :: ks) st K =
  (Aa d st ∧ Aw (Ga all j st want) want (lL P c d op k st (Fb P c all r ks K)) (dX P c all r ks (st.put d .und) K)) := by
 conv => lhs; unfold dX
 show (_ ∧ _) = _
 congr 1;simp only;unfold Ga Aw;split
 ·rename_i t ht;simp only [ht];split
  ·rename_i h; simp [h]; exact fun _ => Iff.rfl
  ·rename_i h; simp [h]
 ·rename_i h; simp [h]
theorem nY {c : Cfg} {all r : List Oper} {d : Option Tmp} {op : Op} {ty : TypeId} {pos : String} {after : Array Edge} {k : DK} {ks : List DK} {st : St} {K : St → Prop} (h : ∀ K' : St → Prop, (∀ s, dX P c all r ks s K → K' s) → Aa d st ∧ lL P c d op k st K') : dX P c all (⟨d, op, ty, pos, after, none⟩ :: r) (k :: ks) st K :=
 h _ fun _ h => h
theorem eQ {c : Cfg} {all : List Oper} (n : Nat) {r : List Oper} {ks : List DK} {st : St} {K : St → Prop} (hks : n ≤ ks.length) (h : ∀ K' : St → Prop, (∀ s, dX P c all (r.drop n) (ks.drop n) s K → K' s) → dX P c all (r.take n) (ks.take n) st K') : dX P c all r ks st K := by
 have go : ∀ (n : Nat) (r : List Oper) (ks : List DK) (st : St), n ≤ ks.length → dX P c all (r.take n) (ks.take n) st (fun s => dX P c all (r.drop n) (ks.drop n) s K) → dX P c all r ks st K := by
  intro n;induction n with
  | zero => intro r ks st _ h; simp only [List.take_zero, List.drop_zero, mJ] at h; exact h
  | succ n ih =>
   intro r ks st hks h;cases ks with
   | nil => simp at hks
   | cons k ks =>
    cases r with
    | nil => simp only [List.take_nil, List.drop_nil, mJ] at h ⊢; exact h
    | cons o r =>
     simp only [List.take_succ_cons, List.drop_succ_cons] at h;simp only [List.length_cons] at hks;unfold dX at h ⊢;refine ⟨h.1, ?_⟩;have h2 := h.2;split at h2
     ·exact wW (fun s hs => ih r ks s (by omega) hs) h2
     ·split at h2
      ·split at h2
       ·exact ⟨fun hb => wW (fun s hs => ih r ks s (by omega) hs) (h2.1 hb), fun hb => ih r ks _ (by omega) (h2.2 hb)⟩
       ·exact h2.elim
      ·exact h2.elim
 exact go n r ks st hks (h _ fun _ h => h)
def Eo : List Nat → List (Nat × Slot) → List (Nat × Slot)
 | _, [] => []
 | W, (t, s) :: r => if W.contains t then Eo W r else (t, s) :: Eo (t :: W) r
theorem Kq (n : Nat) (s : Slot) : vQ n s (.d .any) = True := by
 unfold vQ; split <;> simp_all
theorem Ot (n : Nat) (x : D) : vQ n (.d x) (.d x) = True := by
 cases x with
 | sl o es => cases o <;> simp [vQ]
 | _ => simp [vQ]
theorem Ky (n : Nat) (es : List D) : vQ n (.d (.sl true es)) (.d (.sl false es)) = True := by
 unfold vQ; simp
theorem Fo (n m o : Nat) : vQ n (.lref m o) (.lref m o) = (m < n) := by
 unfold vQ; simp
def oE (n : Nat) (env : Nat → Slot) : List (Nat × Slot) → Prop
 | [] => True
 | (a, s) :: r => vQ n (env a) s ∧ oE n env r
theorem Bw (n : Nat) (env : Nat → Slot) : oE n env [] = True := rfl
theorem xQ (n : Nat) (env : Nat → Slot) (a : Nat) (s : Slot) (r : List (Nat × Slot)) : oE n env ((a, s) :: r) = (vQ n (env a) s ∧ oE n env r) := rfl
theorem iO {n : Nat} {env : Nat → Slot} : ∀ {l : List (Nat × Slot)}, oE n env l → ∀ p ∈ l, vQ n (env p.1) p.2
 | [], _, p, hp => by simp at hp
 | (a, s) :: r, h, p, hp => by
  rcases List.mem_cons.1 hp with rfl | hp
  ·exact h.1
  ·exact iO h.2 p hp
theorem bV {st : St} {n : Nat} {l : List (Nat × Slot)} {loc obj : List (List D)} (hn : st.n = n) (hl : oE loc.length st.env l) (hloc : loc <+: st.loc) (hobj : st.obj = obj) : Weak st (St.mk' n l loc obj) :=
 tE hn (iO hl) hloc hobj
theorem eS {α : Type} {n : Nat} {l l2 : List (Nat × Slot)} {loc obj : List (List D)} (F : α → List (Nat × Slot)) (W : List Nat) (p : α → Prop) (m : α → Nat) (x0 : α) {body : Code} {Q : Exit → St → Prop}
  (hl : Eo W l = l2) (hF : oE loc.length (bH l) (F x0 ++ l2)) (hp : p x0)
  (h : ∀ x, p x → fL P body (sP (fun x => St.mk' n (F x ++ l2) loc obj) p m x Q) (St.mk' n (F x ++ l2) loc obj)) : fL P (.loop body) Q (St.mk' n l loc obj) :=
 wH (fun x => St.mk' n (F x ++ l2) loc obj) p m x0 (tE rfl (iO hF) (List.prefix_refl _) rfl) hp h
theorem gK {α : Type} {n : Nat} {l l2 : List (Nat × Slot)} {loc obj : List (List D)} (F : α → List (Nat × Slot)) (G H : α → List (List D)) (W : List Nat) (p : α → Prop) (m : α → Nat) (x0 : α) {body : Code} {Q : Exit → St → Prop}
  (hl : Eo W l = l2) (hF : oE (G x0).length (bH l) (F x0 ++ l2)) (hG : G x0 = loc) (hH : H x0 = obj) (hp : p x0)
  (h : ∀ x, p x → fL P body (sP (fun x => St.mk' n (F x ++ l2) (G x) (H x)) p m x Q) (St.mk' n (F x ++ l2) (G x) (H x))) : fL P (.loop body) Q (St.mk' n l loc obj) :=
 wH (fun x => St.mk' n (F x ++ l2) (G x) (H x)) p m x0 (tE rfl (iO hF) (by rw [hG]; exact List.prefix_refl _) hH.symm) hp h
theorem cM {α : Type} {S : α → St} {p : α → Prop} {m : α → Nat} {x : α} {Q : Exit → St → Prop} {s : St} (y : α) (hp : p y) (hm : m y < m x) (hw : Weak s (S y)) : sP S p m x Q .normal s := ⟨y, hp, hm, hw⟩
theorem yG (n : Nat) : D.strip (.mref n) = .mref n := rfl
theorem Kl (n : Nat) : D.s1 (.mref n) = .mref n := rfl
theorem Kn (n : Nat) : D.s2 (.mref n) = .mref n := rfl
theorem zR (n : Nat) : D.plain (.mref n) = true := rfl
theorem zA (n : Nat) : D.solid (.mref n) = true := rfl
theorem vO (n : Nat) : D.ncells (.mref n) = 1 := rfl
theorem xU (n : Nat) : D.cells (.mref n) = [.mref n] := rfl
theorem Di (n a b : Nat) (l : List Nat) : D.strip (.mit n a l b) = .any := rfl
theorem Np (n a b : Nat) (l : List Nat) : D.s1 (.mit n a l b) = .any := rfl
theorem Mn (n a b : Nat) (l : List Nat) : D.s2 (.mit n a l b) = .any := rfl
theorem Df (n a b : Nat) (l : List Nat) : D.plain (.mit n a l b) = true := rfl
theorem Ea (n a b : Nat) (l : List Nat) : D.solid (.mit n a l b) = false := rfl
theorem Gu (n c : Nat) (kd : TypeDesc) (kvs : List (Value × Nat × D)) : D.strip (.mp n kd c kvs) = .mref n := rfl
theorem Oz (n c : Nat) (kd : TypeDesc) (kvs : List (Value × Nat × D)) : D.s1 (.mp n kd c kvs) = .mref n := rfl
theorem Oy (n c : Nat) (kd : TypeDesc) (kvs : List (Value × Nat × D)) : D.s2 (.mp n kd c kvs) = .mref n := rfl
theorem Hh (n c : Nat) (kd : TypeDesc) (kvs : List (Value × Nat × D)) : D.plain (.mp n kd c kvs) = true := rfl
theorem Gm (n c : Nat) (kd : TypeDesc) (kvs : List (Value × Nat × D)) : D.solid (.mp n kd c kvs) = true := rfl
theorem Db (n c : Nat) (kd : TypeDesc) (kvs : List (Value × Nat × D)) : D.ncells (.mp n kd c kvs) = 1 := rfl
theorem Gt (n c : Nat) (kd : TypeDesc) (kvs : List (Value × Nat × D)) : D.cells (.mp n kd c kvs) = [.mp n kd c kvs] := rfl
theorem Dq (t : TypeId) (d : D) : D.strip (.ifc t d) = .ifc t d := rfl
theorem Mu (t : TypeId) (d : D) : D.s1 (.ifc t d) = .ifc t d := rfl
theorem Lu (t : TypeId) (d : D) : D.s2 (.ifc t d) = .ifc t d := rfl
theorem Cr (t : TypeId) (d : D) : D.plain (.ifc t d) = true := rfl
theorem Bh (t : TypeId) (d : D) : D.solid (.ifc t d) = true := rfl
theorem Ac (t : TypeId) (d : D) : D.ncells (.ifc t d) = 1 := rfl
theorem Du (t : TypeId) (d : D) : D.cells (.ifc t d) = [.ifc t d] := rfl
theorem Gw (n : Nat) : D.arr (.mref n) = true := rfl
attribute [simp] Di Np Mn Df Ea iR lD iS Lj yG Kl Kn zR zA vO xU Gu Oz Oy Hh Gm Db Gt Dq Mu Lu Cr Bh Ac Du Gw
theorem Ds (n a b c : Nat) : D.strip (.slo n a b c) = .slo n a b c := rfl
theorem Gn (n : Nat) : D.strip (.xl n) = .xl n := rfl
theorem Fi (k : Nat) (es : List D) : D.strip (.xs k es) = .xl es.length := rfl
theorem Nc (n a b c : Nat) : D.s2 (.slo n a b c) = .slo n a b c := rfl
theorem Of (n : Nat) : D.s2 (.xl n) = .xl n := rfl
theorem Ob (k : Nat) (es : List D) : D.s2 (.xs k es) = .xl es.length := rfl
theorem Lw (f : Go.Fn) (a b : List D) : D.s2 (.clo f a b) = .clo f a b := rfl
theorem Nf (n a b c : Nat) : D.s1 (.slo n a b c) = .slo n a b c := rfl
theorem On (n : Nat) : D.s1 (.xl n) = .xl n := rfl
theorem Ou (k : Nat) (es : List D) : D.s1 (.xs k es) = .xl es.length := rfl
theorem Mt (f : Go.Fn) (a b : List D) : D.s1 (.clo f a b) = .clo f a b := rfl
theorem Dg (n a b c : Nat) : D.plain (.slo n a b c) = true := rfl
theorem Fg (n : Nat) : D.plain (.xl n) = true := rfl
theorem Ff (k : Nat) (es : List D) : D.plain (.xs k es) = true := rfl
theorem Ef (n a b c : Nat) : D.solid (.slo n a b c) = true := rfl
theorem Gb (n : Nat) : D.solid (.xl n) = true := rfl
theorem Hl (k : Nat) (es : List D) : D.solid (.xs k es) = true := rfl
theorem zJ (n a b c : Nat) : D.ncells (.slo n a b c) = 1 := rfl
theorem Cd (n : Nat) : D.ncells (.xl n) = 1 := rfl
theorem Do (k : Nat) (es : List D) : D.ncells (.xs k es) = 1 := rfl
theorem Bz (n a b c : Nat) : D.cells (.slo n a b c) = [.slo n a b c] := rfl
theorem Es (n : Nat) : D.cells (.xl n) = [.xl n] := rfl
theorem Il (k : Nat) (es : List D) : D.cells (.xs k es) = [.xs k es] := rfl
theorem Od (x : Value) : D.arr (.v x) = true := rfl
theorem Mp (es : List D) : D.arr (.sl false es) = true := rfl
theorem Kd (cs : List D) : D.arr (.agg cs) = cs.all D.flat := rfl
theorem Mc (x : Value) : D.flat (.v x) = true := rfl
theorem Jz (es : List D) : D.flat (.sl false es) = true := rfl
theorem Ge (n o : Nat) : D.flat (.ref n o) = true := rfl
def Ko : List (Nat × List D) → List (List D) → List (List D)
 | [], l => l
 | (n, c) :: r, l => (Ko r l).set n c
theorem Ir (l : List (List D)) : Ko [] l = l := rfl
theorem Dt (n : Nat) (c : List D) (r : List (Nat × List D)) (l : List (List D)) : Ko ((n, c) :: r) l = (Ko r l).set n c := rfl
theorem Dj {α : Type} (l : List α) (a : α) : (l ++ [a])[l.length]? = some a := by simp
theorem Gf {α : Type} (l : List α) (a b : α) : (l ++ [a]).set l.length b = l ++ [b] := by simp
def mQ : List Nat → List (Nat × Slot) → List (Nat × Slot)
 | [], _ => []
 | t :: r, l => (t, bH l t) :: mQ r l
theorem Ch (l : List (Nat × Slot)) : mQ [] l = [] := rfl
theorem qR (t : Nat) (r : List Nat) (l : List (Nat × Slot)) : mQ (t :: r) l = (t, bH l t) :: mQ r l := rfl
theorem sE (l : List (Nat × Slot)) (u : Nat) : ∀ K : List Nat, bH (mQ K l) u = bH l u ∨ bH (mQ K l) u = .any
 | [] => .inr rfl
 | t :: r => by
  rw [qR, gR];split
  ·rename_i h; subst h; exact .inl rfl
  ·exact sE l u r
theorem Gx {P : Program} (K : List Nat) {l2 : List (Nat × Slot)} {c : Code} {n : Nat} {l : List (Nat × Slot)} {loc obj : List (List D)} {Q : Exit → St → Prop} (hl : mQ K l = l2) (h : fL P c Q (St.mk' n l2 loc obj)) : fL P c Q (St.mk' n l loc obj) := by
 subst hl;intro w0 g0 w g tmps hf hok hn;refine h w0 g0 w g tmps hf ⟨hok.mem, hok.xlt, fun t => ?_, hok.ll, hok.loc, hok.ol, hok.obj⟩ hn;have hs := hok.slot t;show SlotOk w g t (bH (mQ K l) t) _
 rcases sE l t K with e | e
 ·rw [e]; exact hs
 ·rw [e]; exact ⟨.any _, .flat _ _ _ rfl⟩
theorem rX {P : Program} (ts k : Nat) {es : List D} {c : Code} {n : Nat} {l : List (Nat × Slot)} {loc obj : List (List D)} {Q : Exit → St → Prop} (hs : bH l ts = .d (.xs k es)) (hk0 : 0 < k)
  (h : ∀ (cap : Nat) (rest : List D), es.length ≤ cap → cap ≤ maxLen → rest.length = (cap - es.length) * k → 0 < k → (∀ d ∈ es, d.ncells = k ∧ d.arr = true) → fL P c Q (St.mk' n ((ts, .d (.slo obj.length 0 es.length cap)) :: l) loc (obj ++ [es.flatMap D.cells ++ rest]))) : fL P c Q (St.mk' n l loc obj) := by
 intro w0 g0 w g tmps hf hok hn;obtain ⟨cap, rest, g', a1, a2, a3, a4, a5, _, hfr, hok'⟩ := hok.openX ts k es hs hk0;exact h cap rest a1 a2 a3 a4 a5 w0 g0 w g' tmps (hf.trans hfr) hok' hn
theorem fW {P : Program} (ts k : Nat) {es : List D} {c : Code} {n : Nat} {l : List (Nat × Slot)} {loc obj : List (List D)} {Q : Exit → St → Prop} (hs : bH l ts = .d (.xs k es)) (hk0 : 0 < k)
  (h : ∀ (cap : Nat) (rest : List D), es.length ≤ cap → cap ≤ maxLen → rest = List.replicate ((cap - es.length) * k) .any → 0 < k → (∀ d ∈ es, d.ncells = k ∧ d.arr = true) → fL P c Q (St.mk' n ((ts, .d (.slo obj.length 0 es.length cap)) :: l) loc (obj ++ [es.flatMap D.cells ++ rest]))) : fL P c Q (St.mk' n l loc obj) := by
 intro w0 g0 w g tmps hf hok hn;obtain ⟨cap, rest, g', a1, a2, a3, a4, a5, _, hfr, hok'⟩ := hok.openX2 ts k es hs hk0;exact h cap rest a1 a2 a3 a4 a5 w0 g0 w g' tmps (hf.trans hfr) hok' hn
theorem eC {P : Program} (ts k m len cap : Nat) (es cs : List D) {c : Code} {n : Nat} {l : List (Nat × Slot)} {loc obj : List (List D)} {Q : Exit → St → Prop} (hs : bH l ts = .d (.slo m 0 len cap)) (hm : obj[m]? = some cs) (hk : 0 < k) (hcs : cs.length = cap * k) (hl : es.length = len)
  (hes : ∀ d ∈ es, d.ncells = k ∧ d.arr = true) (he : es.flatMap D.cells <+: cs) (h : fL P c Q (St.mk' n ((ts, .d (.xs k es)) :: l) loc (obj.set m []))) : fL P c Q (St.mk' n l loc obj) := by
 intro w0 g0 w g tmps hf hok hn;obtain ⟨g', _, hfr, hok'⟩ := hok.closeX ts k m len cap es cs hs hm hk hcs hl hes he;exact h w0 g0 w g' tmps (hf.trans hfr) hok' hn
theorem Fd {α : Type} (f : α → D) (l : List α) (k : Nat) (h : k < l.length) : (l.map f).getD k .any = f l[k] := by
 simp [List.getD, h]
theorem rK {α : Type} (f : α → D) (l : List α) (k : Nat) (h : k < l.length) : (l.map f)[k]? = some (f l[k]) := by
 simp [h]
theorem La (n : Int) : oY .i64 n = (-9223372036854775808 ≤ n ∧ n ≤ 9223372036854775807) := by
 unfold oY;rfl
theorem Mz (n : Int) : oY .u8 n = (0 ≤ n ∧ n ≤ 255) := by
 unfold oY;rfl
end
theorem Gl : uC [] = true := rfl
theorem Bd (r : List (Option Holder)) : uC (none :: r) = uC r := by simp [uC]
theorem Cu (h : Holder) (r : List (Option Holder)) : uC (some h :: r) = (!r.contains (some h) && uC r) := by
 simp only [uC, List.filterMap_cons, id, List.nodup_cons, Bool.decide_and, List.contains_eq_mem];congr 1;rw [← decide_not];congr 1;simp [List.mem_filterMap]
theorem Ec : maxLen = 9223372036854775807 := rfl
theorem Ju (n : Nat) (l : List (Nat × Slot)) (loc obj : List (List D)) : ({ n := n, env := bH l, loc := loc, obj := obj } : St) = St.mk' n l loc obj := rfl
def nX : Slot → Slot
 | .d x => .d x.strip
 | s => s
def fJ : List Nat → List (Nat × Slot) → List (Nat × Slot)
 | [], l => l
 | t :: r, l => (t, nX (bH l t)) :: fJ r l
theorem oL (l : List (Nat × Slot)) (u : Nat) : ∀ ts : List Nat, bH (fJ ts l) u = if u ∈ ts then nX (bH l u) else bH l u
 | [] => by simp [fJ]
 | t :: r => by
  rw [fJ, gR, oL l u r];by_cases h : u = t
  ·subst h; simp
  ·simp [h]
theorem gD (l : List (Nat × Slot)) (ts : List (Option Nat)) : bS ts (bH l) = bH (fJ (ts.filterMap id) l) := by
 funext u;rw [oL];by_cases h : some u ∈ ts
 ·have h1 : ts.contains (some u) = true := by simpa using h
  have h2 : u ∈ ts.filterMap id := by simpa using h
  simp only [bS, h1, if_true, if_pos h2, nX];split <;> simp_all
 ·have h1 : ts.contains (some u) = false := by simpa using h
  have h2 : ¬ u ∈ ts.filterMap id := by simpa using h
  simp only [bS, h1, if_neg h2]; rfl
theorem yB {P : Program} {d : Nat} {f : FuncId} {args : List Operand} {n : Nat} {l : List (Nat × Slot)} {loc obj : List (List D)} {K : St → Prop} : fE P (some d) f args (St.mk' n l loc obj) K =
  ((args.filterMap aO).Nodup ∧ (∀ x ∈ args, lA ((St.mk' n l loc obj).rdS x) = true ∧ ((St.mk' n l loc obj).rd x).plain = true) ∧
   Ct P f (args.map (jG (St.mk' n l loc obj))) obj (fun r σ' => K (St.mk' n ((d, .d r) :: fJ (args.filterMap aO) l) loc σ'))) := by
 unfold fE;have e : (args.map aO).filterMap id = args.filterMap aO := by rw [List.filterMap_map]; rfl
 simp only [pD, oZ, pC, Ar, gD, e];rfl
theorem uT (l : List (Nat × Slot)) : fJ [] l = l := rfl
theorem uL (t : Nat) (r : List Nat) (l : List (Nat × Slot)) : fJ (t :: r) l = (t, nX (bH l t)) :: fJ r l := rfl
theorem Hc (x : D) : nX (.d x) = .d x.strip := rfl
theorem vA (a b : Nat) : nX (.lref a b) = .lref a b := rfl
theorem Da : List.filterMap aO [] = [] := rfl
theorem Cv (t : Tmp) (r : List Operand) : List.filterMap aO (.tmp t :: r) = t :: List.filterMap aO r := rfl
theorem wT (v : Value) (r : List Operand) : List.filterMap aO (.const v :: r) = List.filterMap aO r := rfl
theorem xZ (v : FuncId) (r : List Operand) : List.filterMap aO (.func v :: r) = List.filterMap aO r := rfl
theorem tF {P : Program} {c : Cfg} {d : Nat} {f : FuncId} {args : Array Operand} {ts : Array TypeId} {n : Nat} {l : List (Nat × Slot)} {loc obj : List (List D)} {K : St → Prop} :
  lL P c (some d) (.call ⟨.value (.func f), args, ts⟩) .pureT (St.mk' n l loc obj) K =
  ((args.toList.filterMap aO).Nodup ∧ (∀ x ∈ args.toList, lA ((St.mk' n l loc obj).rdS x) = true ∧ ((St.mk' n l loc obj).rd x).plain = true) ∧
   ∃ r, (∀ σ, Ct P f (args.toList.map (jG (St.mk' n l loc obj))) σ fun r' σ' => r' = r ∧ σ' = σ) ∧ K (St.mk' n ((d, .d r) :: fJ (args.toList.filterMap aO) l) loc obj)) := by
 have e : (args.toList.map aO).filterMap id = args.toList.filterMap aO := by rw [List.filterMap_map]; rfl
 simp only [lL, pD, oZ, pC, Ar, gD, e];rfl
theorem vE {P : Program} {c : Cfg} {d : Nat} {f : FuncId} {args : Array Operand} {ts : Array TypeId} {n : Nat} {l : List (Nat × Slot)} {loc obj : List (List D)} {K : St → Prop} :
  lL P c (some d) (.call ⟨.value (.func f), args, ts⟩) .detT (St.mk' n l loc obj) K =
  ((args.toList.filterMap aO).Nodup ∧ (∀ x ∈ args.toList, lA ((St.mk' n l loc obj).rdS x) = true ∧ ((St.mk' n l loc obj).rd x).plain = true) ∧
   ∃ r σ0, (Ct P f (args.toList.map (jG (St.mk' n l loc obj))) obj fun r' σ' => r' = r ∧ σ' = σ0) ∧ K (St.mk' n ((d, .d r) :: fJ (args.toList.filterMap aO) l) loc σ0)) := by
 have e : (args.toList.map aO).filterMap id = args.toList.filterMap aO := by rw [List.filterMap_map]; rfl
 simp only [lL, pD, oZ, pC, Ar, gD, e];rfl
theorem Mq {P : Program} {c : Cfg} {d : Option Tmp} {op : Op} {f : Fl} {st : St} {K : St → Prop} : lL P c d op (.op f) st K = (dP op = false ∧ fM c d st op = f ∧ cG P c d op st K) := rfl
theorem Gq {P : Program} {c : Cfg} {d : Option Tmp} {f : FuncId} {args : Array Operand} {ts : Array TypeId} {st : St} {K : St → Prop} : lL P c d (.call ⟨.value (.func f), args, ts⟩) .pure st K =
  (dV args.toList st ∧ ∃ r, (∀ σ, Ct P f (bN args.toList st) σ fun r' σ' => r' = r ∧ σ' = σ) ∧ K (st.put d (.d r))) := rfl
def Oo (P : Program) (dst : Option Tmp) (d : D) (args : List Operand) (st : St) (K : St → Prop) : Prop := match d with
 | .clo (.func fid) first caps => (∀ d ∈ first ++ caps, d.plain = true) ∧ dV args st ∧ ∃ r, (∀ σ, Ct P fid (first.map D.strip ++ bN args st ++ caps.map D.strip) σ fun r' σ' => r' = r ∧ σ' = σ) ∧ K (st.put dst (.d r))
 | _ => False
theorem Dm {P : Program} {c : Cfg} {d : Option Tmp} {f : Operand} {args : Array Operand} {ts : Array TypeId} {st : St} {K : St → Prop} : lL P c d (.call ⟨.value f, args, ts⟩) .pureC st K = Oo P d (st.rd f) args.toList st K := rfl
theorem Jb {P : Program} {dst : Option Tmp} {fid : FuncId} {first caps : List D} {args : List Operand} {st : St} {K : St → Prop} : Oo P dst (.clo (.func fid) first caps) args st K = ((∀ d ∈ first ++ caps, d.plain = true) ∧ dV args st ∧ ∃ r, (∀ σ, Ct P fid (first.map D.strip ++ bN args st ++ caps.map D.strip) σ fun r' σ' => r' = r ∧ σ' = σ) ∧ K (st.put dst (.d r))) := rfl
theorem Fs {P : Program} {c : Cfg} {d : Option Tmp} {f : FuncId} {args : Array Operand} {ts : Array TypeId} {st : St} {K : St → Prop} : lL P c d (.call ⟨.value (.func f), args, ts⟩) .read st K =
  (dV args.toList st ∧ ∃ r, (Ct P f (bN args.toList st) st.obj fun r' σ' => r' = r ∧ σ' = st.obj) ∧ K (st.put d (.d r))) := rfl
theorem Md {P : Program} {c : Cfg} {d : Option Tmp} {f : FuncId} {args : Array Operand} {ts : Array TypeId} {st : St} {K : St → Prop} : lL P c d (.call ⟨.value (.func f), args, ts⟩) .nd st K =
  ∃ Q, (dV args.toList st ∧ Ct P f (bN args.toList st) st.obj Q ∧ ∃ r σ0, Q r σ0) ∧ ∀ r σ0, Q r σ0 → K (({ st with obj := σ0 } : St).put d (.d r)) := rfl
theorem Cf {P : Program} {c : Cfg} {d : Option Tmp} {f : FuncId} {args : Array Operand} {ts : Array TypeId} {st : St} {K : St → Prop} : lL P c d (.call ⟨.value (.func f), args, ts⟩) .readT st K =
  (dV args.toList st ∧ ∃ r, (∀ J, Ct P f (bN args.toList st) (st.obj ++ J) fun r' σ' => r' = r ∧ σ' = st.obj ++ J) ∧ K (st.put d (.d r))) := rfl
theorem Hy {P : Program} {c : Cfg} {d : Option Tmp} {f : FuncId} {args : Array Operand} {ts : Array TypeId} {st : St} {K : St → Prop} : lL P c d (.call ⟨.value (.func f), args, ts⟩) .detA st K =
  (dV args.toList st ∧ ∃ r J, (Ct P f (bN args.toList st) st.obj fun r' σ' => r' = r ∧ σ' = st.obj ++ J) ∧ K (({ st with obj := st.obj ++ J } : St).put d (.d r))) := rfl
theorem Ki {P : Program} {c : Cfg} {d : Option Tmp} {f : FuncId} {args : Array Operand} {ts : Array TypeId} {st : St} {K : St → Prop} : lL P c d (.call ⟨.value (.func f), args, ts⟩) .det st K =
  (dV args.toList st ∧ ∃ r σ0, (Ct P f (bN args.toList st) st.obj fun r' σ' => r' = r ∧ σ' = σ0) ∧ K (({ st with obj := σ0 } : St).put d (.d r))) := rfl
theorem Jr {P : Program} {t : Nat} {a b : Code} {s : Slot} {n : Nat} {l : List (Nat × Slot)} {loc obj : List (List D)} {Q : Exit → St → Prop} (hs : bH l t = s)
  (h : qU s.toD (fL P a Q (St.mk' n ((t, .d (.bool true)) :: l) loc obj)) (fL P b Q (St.mk' n ((t, .d (.bool false)) :: l) loc obj))) : fL P (.cond (.tmp t) a b) Q (St.mk' n l loc obj) := by
 unfold qU at h;split at h
 ·rename_i v hv;have hs' : bH l t = .d (.v (.bool v)) := by
   rw [hs];cases s with
   | d d => simp only [Slot.toD] at hv; rw [hv]
   | lref n o => simp [Slot.toD] at hv
  rw [wY hs'];cases v with
  | true => exact eE (t := true) (by simp [St.rd, St.rdS, gR, St.mk']) (fun _ => h.1 rfl) (fun h => by cases h)
  | false => exact eE (t := false) (by simp [St.rd, St.rdS, gR, St.mk']) (fun h => by cases h) (fun _ => h.2 rfl)
 ·exact h.elim
def gL (o : Oper) : Oper := ⟨o.dst, o.op, 0, "", #[], o.guard⟩
theorem fG : List.map gL [] = [] := rfl
theorem eG (d : Option Tmp) (op : Op) (ty : TypeId) (pos : String) (after : Array Edge) (g : Option (Nat × Bool)) (r : List Oper) : List.map gL (⟨d, op, ty, pos, after, g⟩ :: r) = ⟨d, op, 0, "", #[], g⟩ :: List.map gL r := rfl
theorem pV {P : Program} {c : Cfg} {all : List Oper} {K : St → Prop} : ∀ (r : List Oper) (st : St), gU P c all (r.map gL) st K = gU P c all r st K
 | [], _ => rfl
 | o :: r, st => by
  have ih : (fun st' => gU P c all (r.map gL) st' K) = fun st' => gU P c all r st' K := funext fun st' => pV r st';show gU P c all (gL o :: r.map gL) st K = _
  unfold gU;simp only [gL, ih];split
  ·rfl
  ·split
   ·split
    ·rw [pV r]; rfl
    ·rfl
   ·rfl
theorem kJ {P : Program} {c : Cfg} {all : List Oper} {K : St → Prop} : ∀ (r : List Oper) (ks : List DK) (st : St), dX P c all (r.map gL) ks st K = dX P c all r ks st K
 | [], _, _ => rfl
 | _ :: _, [], _ => rfl
 | o :: r, k :: ks, st => by
  have ih : (fun st' => dX P c all (r.map gL) ks st' K) = fun st' => dX P c all r ks st' K := funext fun st' => kJ r ks st';show dX P c all (gL o :: r.map gL) (k :: ks) st K = _
  unfold dX;simp only [gL, ih];congr 1;split
  ·rfl
  ·split
   ·split
    ·rw [kJ r]
    ·rfl
   ·rfl
theorem kB {P : Program} {c : Cfg} {id : Nat} {ops ops' : List Oper} {Q : Exit → St → Prop} {st : St} (he : ops.map gL = ops') (h : ∀ all : List Oper, (∀ j, aT all j = aT ops j) → ∀ K : St → Prop, (∀ s, Q .normal s → K s) → gU P c all ops' st K) : fL P (.region id ops.toArray false) Q st :=
 zF fun K hK => by
  have := h ops (fun _ => rfl) K hK
  rwa [← he, pV] at this
theorem sX {P : Program} {c : Cfg} {id : Nat} {ops ops' : List Oper} (ks : List DK) {Q : Exit → St → Prop} {st : St} (hm : P.follows .mixedOrders = true) (hok : pX c ops ks = true) (he : ops.map gL = ops')
  (h : ∀ all : List Oper, (∀ j, aT all j = aT ops j) → ∀ K : St → Prop, (∀ s, Q .normal s → K s) → dX P c all ops' ks st K) : fL P (.region id ops.toArray true) Q st :=
 Ho ks hm hok fun K hK => by
  have := h ops (fun _ => rfl) K hK
  rwa [← he, kJ] at this
def zY : D → Prop
 | .v (.slice none 0 0) => True
 | _ => False
def sU (x y : D) : Prop := y = x ∨ (x.plain = true ∧ y = x.strip) ∨ (zY x ∧ (y = .sl false [] ∨ y = .sl true []))
theorem zC : zY (.v (.slice none 0 0)) = True := rfl
def fP : List D → List D → Prop
 | [], [] => True
 | a :: r, b :: q => sU a b ∧ fP r q
 | _, _ => False
theorem dD {a b : List D} (h : a = b) : fP a b := by
 subst h;induction a with
 | nil => trivial
 | cons x r ih => exact ⟨.inl rfl, ih⟩
theorem qT : ∀ {a b : List D}, fP a b → a.length = b.length
 | [], [], _ => rfl
 | _ :: _, _ :: _, h => by simp [qT h.2]
 | [], _ :: _, h => h.elim
 | _ :: _, [], h => h.elim
theorem qX : ∀ {a b : List D}, fP a b → ∀ (i : Nat) (y : D), b[i]? = some y → ∃ x, a[i]? = some x ∧ sU x y
 | x :: _, _ :: _, h, 0, y, hy => by simp at hy; subst hy; exact ⟨x, rfl, h.1⟩
 | _ :: _, _ :: _, h, i + 1, y, hy => by simpa using qX h.2 i y (by simpa using hy)
 | [], [], _, _, _, hy => by simp at hy
 | [], _ :: _, h, _, _, _ => h.elim
 | _ :: _, [], h, _, _, _ => h.elim
theorem Ct.of_le {P : Program} {f : FuncId} {a a' : List D} {σ σ' : List (List D)} {Q : D → List (List D) → Prop} (h : Ct P f a σ Q) (e : fP a' a) (e2 : σ' = σ) : Ct P f a' σ' Q := by
 subst e2;refine ⟨h.1, fun w g vs hs hb ho => h.2 w g vs (by rw [hs, qT e]) hb ⟨ho.mem, ho.xlt, fun t => ?_, ho.ll, ho.loc, ho.ol, ho.obj⟩⟩;have hsl := ho.slot t;simp only [St.ofArgs] at hsl ⊢;unfold bJ at hsl ⊢;cases hy : a[t]? with
 | none => exact ⟨.any _, .flat _ _ _ rfl⟩
 | some y =>
  obtain ⟨x, hx, hle⟩ := qX e t y hy;rw [hx] at hsl;rcases hle with rfl | ⟨hp, rfl⟩ | ⟨hn, hy⟩
  ·exact hsl
  ·exact gH hsl.1 hp t
  ·have hxn : x = .v (.slice none 0 0) := by
    unfold zY at hn;split at hn
    ·rfl
    ·exact hn.elim
   subst hxn;obtain ⟨hr, _⟩ := hsl;have hv := hr.vEq;rcases hy with rfl | rfl
   ·exact ⟨by rw [hv]; exact .nil _, .flat _ _ _ rfl⟩
   ·exact ⟨by rw [hv]; exact .nil _, .sl _ _ _ (.inl ⟨_, _, hv⟩)⟩
theorem mU : ∀ (sets : List (Nat × Slot)) (l : List (Nat × Slot)), bM sets (bH l) = bH (sets.reverseAux l)
 | [], l => rfl
 | (a, s) :: r, l => by
  show bM r (fun u => if u = a then s else bH l u) = _
  have : (fun u => if u = a then s else bH l u) = bH ((a, s) :: l) := by funext u; rw [gR]
  rw [this, mU r]; rfl
theorem Mg (n : Nat) (l : List (Nat × Slot)) (loc obj : List (List D)) (sets : List (Nat × Slot)) (ob : Option (List (List D))) : (St.mk' n l loc obj).upd ⟨sets, none, ob⟩ = St.mk' n (sets.reverseAux l) loc (ob.getD obj) := by
 show ({ n := n, env := bM sets (bH l), loc := loc, obj := ob.getD obj } : St) = _
 rw [mU]; rfl
theorem Ae (l : List (Nat × Slot)) : List.reverseAux [] l = l := rfl
theorem wI (a : Nat × Slot) (r l : List (Nat × Slot)) : List.reverseAux (a :: r) l = List.reverseAux r (a :: l) := rfl
def Ej (R : eN) (K : List (Nat × Slot) → Option (List (List D)) → Prop) : Prop := ∃ sets ob, R sets ob ∧ K sets ob
@[congr] theorem Rg {R R' : eN} {K : List (Nat × Slot) → Option (List (List D)) → Prop} (h : R = R') : Ej R K = Ej R' K := by rw [h]
theorem Na {P : Program} {alt : Bool} {dst : Option Tmp} {op : Op} {st : St} {K : St → Prop} : Pw P alt dst op st K = Ej (fun sets ob => yR P alt dst op st.rdS (if (Gk alt op).rO = true then st.obj else []) sets ob) (fun sets ob => K (st.upd ⟨sets, none, ob⟩)) := rfl
theorem Nj {S : List (Nat × Slot)} {O : Option (List (List D))} {K : List (Nat × Slot) → Option (List (List D)) → Prop} : Ej (fun sets ob => sets = S ∧ ob = O) K = K S O := by
 apply propext;constructor
 ·rintro ⟨_, _, ⟨rfl, rfl⟩, h⟩; exact h
 ·intro h; exact ⟨_, _, ⟨rfl, rfl⟩, h⟩
theorem Je {C : Prop} {R : eN} {K : List (Nat × Slot) → Option (List (List D)) → Prop} : Ej (fun sets ob => C ∧ R sets ob) K = (C ∧ Ej (fun sets ob => R sets ob) K) := by
 apply propext;constructor
 ·rintro ⟨_, _, ⟨h1, h2⟩, h⟩; exact ⟨h1, _, _, h2, h⟩
 ·rintro ⟨h1, _, _, h2, h⟩; exact ⟨_, _, ⟨h1, h2⟩, h⟩
theorem Lo {α : Type} {R : α → eN} {K : List (Nat × Slot) → Option (List (List D)) → Prop} : Ej (fun sets ob => ∃ x, R x sets ob) K = ∃ x, Ej (fun sets ob => R x sets ob) K := by
 apply propext;constructor
 ·rintro ⟨_, _, ⟨x, h2⟩, h⟩; exact ⟨x, _, _, h2, h⟩
 ·rintro ⟨x, _, _, h2, h⟩; exact ⟨_, _, ⟨x, h2⟩, h⟩
theorem Mr {R S : eN} {K : List (Nat × Slot) → Option (List (List D)) → Prop} : Ej (fun sets ob => R sets ob ∨ S sets ob) K = (Ej (fun sets ob => R sets ob) K ∨ Ej (fun sets ob => S sets ob) K) := by
 apply propext;constructor
 ·rintro ⟨_, _, h1 | h1, h⟩
  ·exact .inl ⟨_, _, h1, h⟩
  ·exact .inr ⟨_, _, h1, h⟩
 ·rintro (⟨_, _, h1, h⟩ | ⟨_, _, h1, h⟩)
  ·exact ⟨_, _, .inl h1, h⟩
  ·exact ⟨_, _, .inr h1, h⟩
theorem Nz {K : List (Nat × Slot) → Option (List (List D)) → Prop} : Ej (fun _ _ => False) K = False := by
 apply propext;exact ⟨fun ⟨_, _, h, _⟩ => h, False.elim⟩
attribute [simp] Na Nj Je Lo Mr Nz
attribute [simp] Mg Ae wI Py nL tK yR Ja Ix mY sT Bc Dz kI rT Cy Gk wM lY Gr zC iY iM kM pJ gT nT kR oB kQ rN iJ Bool.true_or Bool.false_or
theorem Bt (cs : List D) : D.strip (.tup cs) = .tup (cs.map D.s2) := rfl
attribute [simp] Bt D.plain
theorem Mh (n : Nat) (cs : List D) : jN true n cs = if n ≤ cs.length then some (.agg (cs.take n)) else none := rfl
theorem Mo (n : Nat) (cs : List D) : jN false n cs = cs.head? := rfl
theorem aH (cs : List D) (off : Nat) (ds : List D) : aY cs off ds = cs.take off ++ ds ++ cs.drop (off + ds.length) := rfl
attribute [simp low] Mh Mo aH
attribute [simp] tF vE Mq Gq Dm Jb Fs Ki Cf Hy Md
attribute [simp] Ds Gn Fi Nc Of Ob Lw Nf On Ou Mt Dg Fg Ff Ef Gb Hl zJ Cd Do Bz Es Il Od Mp Kd Mc Jz Ge Dj Gf Ir Dt yB uT uL Hc vA Da Cv wT xZ
attribute [simp] Ju List.getElem?_cons_zero Option.bind_some Ar pD oZ pC sY sM Kb Gz Hj Ev Fq Au Bf Hk Mi Ib iW Oh En
 Lb Gd zG Jy Jx Ka Gi Cj Ci Cl Dv Bs Qf Pf Lv Ng Lp Lt Rl Oe Nt Mf Nr
 Kf Ip Cz Ee Bj Cq Dh Jl Fa Cw Bx Dc Dw Ik Ce yL yW Kk Fj Cp Bv
 jB Js Fh Hf By Ma Kp Fu Er Kr Lg Ld Mv Nh Nd Lr Bn Ns Nm Kh Ha Hn aX cG tT Kz aV Eg mZ dN gX iG fS cC Nw kK pU wD dG jD oF Ji oK oW dM cR eB iT dZ jA iQ bQ fU uO iK fQ
 gY oH kE iL dO eT gJ qB gQ jK dL dV bN jG lA sF St.cellsAt St.park Slot.plus Slot.isAddr Ay D.ofList
 Bw xQ Kq Ot Ky Fo Eo Fd rK La Mz Iu dP fM dC mJ qS nQ Gl Bd Cu Ec
end Go.Vm

