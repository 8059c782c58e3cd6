import Derived.Test.YtpfmpeaekgdgnaaGreatVm21
namespace Go.Vm
open Go
set_option linter.all false
section
variable {P : Program}
theorem aB {y : Code} {Q : Exit → St → Prop} {s : St} (h : fW P y Q s) : Iy P y Q .normal s := h
theorem bJ {y : Code} {Q : Exit → St → Prop} {s : St} {i : Nat} (h : Q (.exit i) s) : Iy P y Q (.exit i) s := h
theorem aL {y : Code} {Q : Exit → St → Prop} {s : St} (h : Q .ret s) : Iy P y Q .ret s := h
theorem aP {i : Nat} {Q : Exit → St → Prop} {s : St} (h : Q .normal s) : sP i Q .normal s := h
theorem aY {i : Nat} {Q : Exit → St → Prop} {s : St} (h : Q .normal s) : sP i Q (.exit i) s := by simpa [sP] using h
theorem aV {i : Nat} {Q : Exit → St → Prop} {s : St} (h : Q .ret s) : sP i Q .ret s := h
theorem bL {α : Type} {S : α → St} {p : α → Prop} {m : α → Nat} {x : α} {Q : Exit → St → Prop} {s : St} {i : Nat} (h : Q (.exit i) s) : uK S p m x Q (.exit i) s := h
theorem eE {α : Type} {S : α → St} {p : α → Prop} {m : α → Nat} {x : α} {Q : Exit → St → Prop} {s : St} (h : Q .ret s) : uK S p m x Q .ret s := h
def pY (d : D) (A B : Prop) : Prop := match d with
 | .v (.bool t) => (t = true → A) ∧ (t = false → B)
 | _ => False
theorem aG {c : Cfg} {all r : List Oper} {d : Option Tmp} {op : Op} {ty : TypeId} {pos : String} {after : Array Edge} {st : St} {K : St → Prop} (h : ∀ K' : St → Prop, (∀ s, kD P c all r s K → K' s) → Eh d st ∧ eH P c d op st K') : kD P c all (⟨d, op, ty, pos, after, none⟩ :: r) st K :=
 h _ fun _ h => h
theorem aA {c : Cfg} {all : List Oper} (n : Nat) {r : List Oper} {st : St} {K : St → Prop} (h : ∀ K' : St → Prop, (∀ s, kD P c all (r.drop n) s K → K' s) → kD P c all (r.take n) st K') : kD P c all r st K := by
 have go : ∀ (n : Nat) (r : List Oper) (st : St), kD P c all (r.take n) st (fun s => kD P c all (r.drop n) s K) → kD P c all r st K := by
  intro n;induction n with
  | zero => intro r st h; exact h
  | succ n ih =>
   intro r st h;cases r with
   | nil => exact h
   | cons o r =>
    simp only [List.take_succ_cons, List.drop_succ_cons] at h;unfold kD at h ⊢;split at h
    ·rename_i hg;have hd := h.1;refine ⟨hd, ?_⟩;exact pZ (fun s hs => ih r s hs) h.2
    ·rename_i j want hg;split at h
     ·split at h
      ·exact ⟨fun hb => ⟨(h.1 hb).1, pZ (fun s hs => ih r s hs) (h.1 hb).2⟩, fun hb => ⟨(h.2 hb).1, ih r _ (h.2 hb).2⟩⟩
      ·exact h.elim
     ·exact h.elim
 exact go n r st (h _ fun _ h => h)
theorem aCp {c : Cfg} {all r : List Oper} {d : Option Tmp} {op : Op} {ty : TypeId} {pos : String} {after : Array Edge} {j t : Nat} {b want : Bool} {st : St} {K : St → Prop} (hg : aS all j = some t) (hs : st.env t = .d (.v (.bool b)))
  (h1 : b = want → ∀ K' : St → Prop, (∀ s, kD P c all r s K → K' s) → Eh d st ∧ eH P c d op st K') (h2 : b = !want → Eh d st ∧ kD P c all r (st.put d .und) K) : kD P c all (⟨d, op, ty, pos, after, some (j, want)⟩ :: r) st K := by
 rw [yX];simp only [hg, hs];exact ⟨fun hb => h1 hb _ fun _ h => h, h2⟩
theorem aB0 {c : Cfg} {all r : List Oper} {d : Option Tmp} {op : Op} {ty : TypeId} {pos : String} {after : Array Edge} {j t : Nat} {b want : Bool} {st : St} {K : St → Prop} (hg : aS all j = some t) (hs : st.env t = .d (.v (.bool b))) (hb : b = want)
  (h1 : ∀ K' : St → Prop, (∀ s, kD P c all r s K → K' s) → Eh d st ∧ eH P c d op st K') : kD P c all (⟨d, op, ty, pos, after, some (j, want)⟩ :: r) st K :=
 aCp hg hs (fun _ => h1) fun h => (by rw [hb] at h; cases want <;> cases h)
theorem wQ {n t : Nat} {l : List (Nat × Slot)} {loc obj : List (List D)} {b : Bool} (hs : cX l t = .d (.v (.bool b))) : St.mk' n l loc obj = St.mk' n ((t, .d (.bool b)) :: l) loc obj := by
 unfold St.mk';congr 1;funext u;simp only [cX];split
 ·rename_i e; rw [e, hs]
 ·rfl
theorem aX {c : Cfg} {all r : List Oper} {n : Nat} {l : List (Nat × Slot)} {loc obj : List (List D)} {K : St → Prop} (t : Nat) {s : Slot} (hs : cX l t = s)
  (h : pY s.toD (kD P c all r (St.mk' n ((t, .d (.bool true)) :: l) loc obj) K) (kD P c all r (St.mk' n ((t, .d (.bool false)) :: l) loc obj) K)) : kD P c all r (St.mk' n l loc obj) K := by
 unfold pY at h;split at h
 ·rename_i b hb;have hs' : cX l t = .d (.v (.bool b)) := by
   rw [hs];cases s with
   | d d => simp only [Slot.toD] at hb; rw [hb]
   | lref n o => simp [Slot.toD] at hb
  rw [wQ hs'];cases b
  ·exact h.2 rfl
  ·exact h.1 rfl
 ·exact h.elim
def aBw (P : Program) (c : Cfg) (all r : List Oper) (K : St → Prop) : St → Prop := fun st => kD P c all r st K
theorem Qy {c : Cfg} {all r : List Oper} {K : St → Prop} {st : St} : aBw P c all r K st = kD P c all r st K := rfl
theorem Yy {c : Cfg} {all r : List Oper} {d : Option Tmp} {op : Op} {ty : TypeId} {pos : String} {after : Array Edge} {st : St} {K : St → Prop} : kD P c all (⟨d, op, ty, pos, after, none⟩ :: r) st K = (Eh d st ∧ eH P c d op st (aBw P c all r K)) := rfl
def Pm (P : Program) (c : Cfg) (all r : List Oper) (ks : List DK) (K : St → Prop) : St → Prop := fun st => fJ P c all r ks st K
theorem Mf {c : Cfg} {all r : List Oper} {ks : List DK} {K : St → Prop} {st : St} : Pm P c all r ks K st = fJ P c all r ks st K := rfl
theorem Qk {c : Cfg} {all r : List Oper} {d : Option Tmp} {op : Op} {ty : TypeId} {pos : String} {after : Array Edge} {k : DK} {ks : List DK} {st : St} {K : St → Prop} : fJ P c all (⟨d, op, ty, pos, after, none⟩ :: r) (k :: ks) st K = (Eh d st ∧ oW P c d op k st (Pm P c all r ks K)) := rfl
@[congr] theorem aCf {op : BinOp} {t : TypeId} {x y x' y' : Slot} {K : D → Prop} (hx : x = x') (hy : y = y') : mU P op t x y K = mU P op t x' y' K := by rw [hx, hy]
@[congr] theorem aC3 {op : BinOp} {k : IntKind} {a b a' b' : Int} {K : D → Prop} (hx : a = a') (hy : b = b') : tL op k a b K = tL op k a' b' K := by rw [hx, hy]
@[congr] theorem aCw {op : BinOp} {a b a' b' : ByteArray} {K : D → Prop} (hx : a = a') (hy : b = b') : tJ op a b K = tJ op a' b' K := by rw [hx, hy]
@[congr] theorem aC0 {t : TypeId} {a b a' b' : List D} {K : Bool → Prop} (hx : a = a') (hy : b = b') : nT P t a b K = nT P t a' b' K := by rw [hx, hy]
@[congr] theorem aDi {op : UnOp} {x x' : D} {K : D → Prop} (hx : x = x') : tT op x K = tT op x' K := by rw [hx]
def sel (b : Bool) (s r : Slot) : Slot := if b = true then s else r
@[congr] theorem aEm {b b' : Bool} {s r : Slot} (h : b = b') : sel b s r = sel b' s r := by rw [h]
theorem Zg {s r : Slot} : sel true s r = s := rfl
theorem Zi {s r : Slot} : sel false s r = r := rfl
theorem yS (a : Nat) (s : Slot) (r : List (Nat × Slot)) (t : Nat) : cX ((a, s) :: r) t = sel (t == a) s (cX r t) := by
 simp only [cX, sel, beq_iff_eq]
def gv3 (s : Slot) (want : Bool) : Option Bool := tI s want
def gv2 (o : Option Tmp) (st : St) (want : Bool) : Option Bool := match o with
 | some t => gv3 (st.env t) want
 | none => none
@[congr] theorem aEo {o o' : Option Tmp} {st : St} {want : Bool} (h : o = o') : gv2 o st want = gv2 o' st want := by rw [h]
theorem Pz (t : Tmp) (st : St) (want : Bool) : gv2 (some t) st want = gv3 (st.env t) want := rfl
theorem Pv (b want : Bool) : gv3 (.d (.v (.bool b))) want = some b := rfl
theorem Wx (want : Bool) : gv3 (.d (.tup [])) want = some (!want) := rfl
def Tu (all : List Oper) (j : Nat) (st : St) (want : Bool) : Option Bool := match aS all j with
 | some t => tI (st.env t) want
 | none => none
theorem Yo (all : List Oper) (j : Nat) (st : St) (want : Bool) : Tu all j st want = gv2 (aS all j) st want := rfl
def Im (g : Option Bool) (want : Bool) (A B : Prop) : Prop := match g with
 | some b => (b = want → A) ∧ (b = !want → B)
 | none => False
@[congr] theorem aB9 {g g' : Option Bool} {want : Bool} {A B : Prop} (h : g = g') : Im g want A B = Im g' want A B := by rw [h]
theorem aBt {A B : Prop} : Im (some true) true A B = A := by simp [Im]
theorem aBy {A B : Prop} : Im (some true) false A B = B := by simp [Im]
theorem aBh {A B : Prop} : Im (some false) true A B = B := by simp [Im]
theorem aAl {A B : Prop} : Im (some false) false A B = A := by simp [Im]
theorem aBm {c : Cfg} {all r : List Oper} {d : Option Tmp} {op : Op} {ty : TypeId} {pos : String} {after : Array Edge} {j : Nat} {want : Bool} {st : St} {K : St → Prop} : kD P c all (⟨d, op, ty, pos, after, some (j, want)⟩ :: r) st K =
  Im (Tu all j st want) want (Eh d st ∧ eH P c d op st (aBw P c all r K)) (Eh d st ∧ kD P c all r (st.put d .und) K) := by
 rw [yX];unfold Tu Im;split
 ·rename_i t ht;simp only [ht];split
  ·rename_i h; simp [h]; exact fun _ => Iff.rfl
  ·rename_i h; simp [h]
 ·rename_i h; simp [h]
def Fv (d : D) (A B : Prop) : Prop := match d with
 | .v (.bool t) => (t = true → A) ∧ (t = false → B)
 | _ => False
@[congr] theorem aBv {d d' : D} {A B : Prop} (h : d = d') : Fv d A B = Fv d' A B := by rw [h]
theorem aAh {A B : Prop} : Fv (.v (.bool true)) A B = A := by simp [Fv]
theorem aA9 {A B : Prop} : Fv (.v (.bool false)) A B = B := by simp [Fv]
theorem Mi {dst : Option Tmp} {c a b : Operand} {st : St} {K : St → Prop} : qA dst c a b st K = Fv (st.rd c) ((st.rd a).plain = true ∧ K (st.put dst (.d (st.rd a).strip))) ((st.rd b).plain = true ∧ K (st.put dst (.d (st.rd b).strip))) := rfl
theorem Do {c : Cfg} {dst : Option Tmp} {op : Op} {k : DK} {st : St} {K K' : St → Prop} (hk : ∀ s, K s → K' s) (h : oW P c dst op k st K) : oW P c dst op k st K' := by
 unfold oW at *;cases k with
 | op f => exact ⟨h.1, h.2.1, pZ hk h.2.2⟩
 | pure =>
  simp only at *;split at h
  ·obtain ⟨h1, r, h2, h3⟩ := h; exact ⟨h1, r, h2, hk _ h3⟩
  ·exact h
 | pureC =>
  simp only at *;split at h
  ·split at h
   ·rename_i hf;obtain ⟨h0, h1, r, h2, h3⟩ := h;exact ⟨h0, h1, r, h2, hk _ h3⟩
   ·exact h.elim
  ·exact h
 | read =>
  simp only at *;split at h
  ·obtain ⟨h1, r, h2, h3⟩ := h; exact ⟨h1, r, h2, hk _ h3⟩
  ·exact h
 | det =>
  simp only at *;split at h
  ·obtain ⟨h1, r, σ0, h2, h3⟩ := h; exact ⟨h1, r, σ0, h2, hk _ h3⟩
  ·exact h
 | readT =>
  simp only at *;split at h
  ·obtain ⟨h1, r, h2, h3⟩ := h; exact ⟨h1, r, h2, hk _ h3⟩
  ·exact h
 | nd =>
  obtain ⟨Q, h1, h2⟩ := h;exact ⟨Q, h1, fun r σ0 hq => hk _ (h2 r σ0 hq)⟩
 | detA =>
  simp only at *;split at h
  ·obtain ⟨h1, r, J, h2, h3⟩ := h; exact ⟨h1, r, J, h2, hk _ h3⟩
  ·exact h
 | pureT =>
  simp only at *;split at h
  ·obtain ⟨h0, h1, r, h2, h3⟩ := h; exact ⟨h0, h1, r, h2, hk _ h3⟩
  ·exact h
 | detT =>
  simp only at *;split at h
  ·obtain ⟨h0, h1, r, σ0, h2, h3⟩ := h; exact ⟨h0, h1, r, σ0, h2, hk _ h3⟩
  ·exact h
theorem vZ {c : Cfg} {all : List Oper} {ks : List DK} {st : St} {K : St → Prop} : fJ P c all [] ks st K = K st := by unfold fJ; rfl
theorem Xf {c : Cfg} {all r : List Oper} {d : Option Tmp} {op : Op} {ty : TypeId} {pos : String} {after : Array Edge} {j : Nat} {want : Bool} {k : DK} {ks : List DK} {st : St} {K : St → Prop} : fJ P c all (⟨d, op, ty, pos, after, some (j, want)⟩ :: r) (k :: ks) st K =
  (Eh d st ∧ Im (Tu all j st want) want (oW P c d op k st (Pm P c all r ks K)) (fJ P c all r ks (st.put d .und) K)) := by
 conv => lhs; unfold fJ
 show (_ ∧ _) = _
 congr 1;simp only;unfold Tu Im;split
 ·rename_i t ht;simp only [ht];split
  ·rename_i h; simp [h]; exact fun _ => Iff.rfl
  ·rename_i h; simp [h]
 ·rename_i h; simp [h]
theorem dH {c : Cfg} {all r : List Oper} {d : Option Tmp} {op : Op} {ty : TypeId} {pos : String} {after : Array Edge} {k : DK} {ks : List DK} {st : St} {K : St → Prop} (h : ∀ K' : St → Prop, (∀ s, fJ P c all r ks s K → K' s) → Eh d st ∧ oW P c d op k st K') : fJ P c all (⟨d, op, ty, pos, after, none⟩ :: r) (k :: ks) st K :=
 h _ fun _ h => h
theorem aR {c : Cfg} {all : List Oper} (n : Nat) {r : List Oper} {ks : List DK} {st : St} {K : St → Prop} (hks : n ≤ ks.length) (h : ∀ K' : St → Prop, (∀ s, fJ P c all (r.drop n) (ks.drop n) s K → K' s) → fJ P c all (r.take n) (ks.take n) st K') : fJ P c all r ks st K := by
 have go : ∀ (n : Nat) (r : List Oper) (ks : List DK) (st : St), n ≤ ks.length → fJ P c all (r.take n) (ks.take n) st (fun s => fJ P c all (r.drop n) (ks.drop n) s K) → fJ P c all r ks st K := by
  intro n;induction n with
  | zero => intro r ks st _ h; simp only [List.take_zero, List.drop_zero, vZ] at h; exact h
  | succ n ih =>
   intro r ks st hks h;cases ks with
   | nil => simp at hks
   | cons k ks =>
    cases r with
    | nil => simp only [List.take_nil, List.drop_nil, vZ] at h ⊢; exact h
    | cons o r =>
     simp only [List.take_succ_cons, List.drop_succ_cons] at h;simp only [List.length_cons] at hks;unfold fJ at h ⊢;refine ⟨h.1, ?_⟩;have h2 := h.2;split at h2
     ·exact Do (fun s hs => ih r ks s (by omega) hs) h2
     ·split at h2
      ·split at h2
       ·exact ⟨fun hb => Do (fun s hs => ih r ks s (by omega) hs) (h2.1 hb), fun hb => ih r ks _ (by omega) (h2.2 hb)⟩
       ·exact h2.elim
      ·exact h2.elim
 exact go n r ks st hks (h _ fun _ h => h)
theorem Ws {c : Cfg} {all r : List Oper} {d : Option Tmp} {op : Op} {ty : TypeId} {pos : String} {after : Array Edge} {j t : Nat} {b want : Bool} {k : DK} {ks : List DK} {st : St} {K : St → Prop} (hg : aS all j = some t) (hs : st.env t = .d (.v (.bool b))) (hb : b = want)
  (h1 : ∀ K' : St → Prop, (∀ s, fJ P c all r ks s K → K' s) → Eh d st ∧ oW P c d op k st K') : fJ P c all (⟨d, op, ty, pos, after, some (j, want)⟩ :: r) (k :: ks) st K := by
 unfold fJ;refine ⟨(h1 _ fun _ h => h).1, ?_⟩;simp only [hg, hs];exact ⟨fun _ => (h1 _ fun _ h => h).2, fun h => (by rw [hb] at h; cases want <;> cases h)⟩
theorem fD {c : Cfg} {all r : List Oper} {ks : List DK} {n : Nat} {l : List (Nat × Slot)} {loc obj : List (List D)} {K : St → Prop} (t : Nat) {s : Slot} (hs : cX l t = s)
  (h : pY s.toD (fJ P c all r ks (St.mk' n ((t, .d (.bool true)) :: l) loc obj) K) (fJ P c all r ks (St.mk' n ((t, .d (.bool false)) :: l) loc obj) K)) : fJ P c all r ks (St.mk' n l loc obj) K := by
 unfold pY at h;split at h
 ·rename_i b hb;have hs' : cX l t = .d (.v (.bool b)) := by
   rw [hs];cases s with
   | d d => simp only [Slot.toD] at hb; rw [hb]
   | lref n o => simp [Slot.toD] at hb
  rw [wQ hs'];cases b
  ·exact h.2 rfl
  ·exact h.1 rfl
 ·exact h.elim
def cS : List Nat → List (Nat × Slot) → List (Nat × Slot)
 | _, [] => []
 | W, (t, s) :: r => if W.contains t then cS W r else (t, s) :: cS (t :: W) r
theorem Yr (n : Nat) (s : Slot) : wU n s (.d .any) = True := by
 unfold wU; split <;> simp_all
theorem aDa (n : Nat) (x : D) : wU n (.d x) (.d x) = True := by
 cases x with
 | sl o es => cases o <;> simp [wU]
 | _ => simp [wU]
theorem Wc (n : Nat) (es : List D) : wU n (.d (.sl true es)) (.d (.sl false es)) = True := by
 unfold wU; simp
theorem Uu (n m o : Nat) : wU n (.lref m o) (.lref m o) = (m < n) := by
 unfold wU; simp
def qV (n : Nat) (env : Nat → Slot) : List (Nat × Slot) → Prop
 | [] => True
 | (a, s) :: r => wU n (env a) s ∧ qV n env r
theorem Le (n : Nat) (env : Nat → Slot) : qV n env [] = True := rfl
theorem Gb (n : Nat) (env : Nat → Slot) (a : Nat) (s : Slot) (r : List (Nat × Slot)) : qV n env ((a, s) :: r) = (wU n (env a) s ∧ qV n env r) := rfl
theorem mA {n : Nat} {env : Nat → Slot} : ∀ {l : List (Nat × Slot)}, qV n env l → ∀ p ∈ l, wU n (env p.1) p.2
 | [], _, p, hp => by simp at hp
 | (a, s) :: r, h, p, hp => by
  rcases List.mem_cons.1 hp with rfl | hp
  ·exact h.1
  ·exact mA h.2 p hp
theorem aW {st : St} {n : Nat} {l : List (Nat × Slot)} {loc obj : List (List D)} (hn : st.n = n) (hl : qV loc.length st.env l) (hloc : loc <+: st.loc) (hobj : st.obj = obj) : Weak st (St.mk' n l loc obj) :=
 Ap hn (mA hl) hloc hobj
theorem bQ {α : Type} {n : Nat} {l l2 : List (Nat × Slot)} {loc obj : List (List D)} (F : α → List (Nat × Slot)) (W : List Nat) (p : α → Prop) (m : α → Nat) (x0 : α) {body : Code} {Q : Exit → St → Prop}
  (hl : cS W l = l2) (hF : qV loc.length (cX l) (F x0 ++ l2)) (hp : p x0)
  (h : ∀ x, p x → fW P body (uK (fun x => St.mk' n (F x ++ l2) loc obj) p m x Q) (St.mk' n (F x ++ l2) loc obj)) : fW P (.loop body) Q (St.mk' n l loc obj) :=
 Df (fun x => St.mk' n (F x ++ l2) loc obj) p m x0 (Ap rfl (mA hF) (List.prefix_refl _) rfl) hp h
theorem eI {α : Type} {n : Nat} {l l2 : List (Nat × Slot)} {loc obj : List (List D)} (F : α → List (Nat × Slot)) (G H : α → List (List D)) (W : List Nat) (p : α → Prop) (m : α → Nat) (x0 : α) {body : Code} {Q : Exit → St → Prop}
  (hl : cS W l = l2) (hF : qV (G x0).length (cX l) (F x0 ++ l2)) (hG : G x0 = loc) (hH : H x0 = obj) (hp : p x0)
  (h : ∀ x, p x → fW P body (uK (fun x => St.mk' n (F x ++ l2) (G x) (H x)) p m x Q) (St.mk' n (F x ++ l2) (G x) (H x))) : fW P (.loop body) Q (St.mk' n l loc obj) :=
 Df (fun x => St.mk' n (F x ++ l2) (G x) (H x)) p m x0 (Ap rfl (mA hF) (by rw [hG]; exact List.prefix_refl _) hH.symm) hp h
theorem bA {α : Type} {S : α → St} {p : α → Prop} {m : α → Nat} {x : α} {Q : Exit → St → Prop} {s : St} (y : α) (hp : p y) (hm : m y < m x) (hw : Weak s (S y)) : uK S p m x Q .normal s := ⟨y, hp, hm, hw⟩
def Tv {α : Type} (S : α → St) (p : α → Prop) (Q : Exit → St → Prop) : Exit → St → Prop
 | .normal, s => ∃ y, p y ∧ Weak s (S y)
 | e, s => Q e s
theorem Pf {α : Type} (S : α → St) (p : α → Prop) {a b : Code} {Q : Exit → St → Prop} {st : St} (h1 : fW P a (Tv S p Q) st) (h2 : ∀ x, p x → fW P b Q (S x)) : fW P (.seq a b) Q st := by
 refine aD (Ty h1 fun e s h => ?_);cases e with
 | normal => obtain ⟨y, hy, hw⟩ := h; exact Pt hw (h2 y hy)
 | _ => exact h
theorem Ro {α : Type} {S : α → St} {p : α → Prop} {Q : Exit → St → Prop} {s : St} (y : α) (hp : p y) (hw : Weak s (S y)) : Tv S p Q .normal s := ⟨y, hp, hw⟩
theorem Gs (n : Nat) : D.strip (.mref n) = .mref n := rfl
theorem Yl (n : Nat) : D.s1 (.mref n) = .mref n := rfl
theorem Xr (n : Nat) : D.s2 (.mref n) = .mref n := rfl
theorem Er (n : Nat) : D.plain (.mref n) = true := rfl
theorem Fs (n : Nat) : D.solid (.mref n) = true := rfl
theorem Ee (n : Nat) : D.ncells (.mref n) = 1 := rfl
theorem Hi (n : Nat) : D.cells (.mref n) = [.mref n] := rfl
theorem Mm (n a b : Nat) (l : List Nat) : D.strip (.mit n a l b) = .any := rfl
theorem aA4 (n a b : Nat) (l : List Nat) : D.s1 (.mit n a l b) = .any := rfl
theorem aBe (n a b : Nat) (l : List Nat) : D.s2 (.mit n a l b) = .any := rfl
theorem Nr (n a b : Nat) (l : List Nat) : D.plain (.mit n a l b) = true := rfl
theorem Km (n a b : Nat) (l : List Nat) : D.solid (.mit n a l b) = false := rfl
theorem Up (n c : Nat) (kd : TypeDesc) (kvs : List (Value × Nat × D)) : D.strip (.mp n kd c kvs) = .mref n := rfl
theorem aCt (n c : Nat) (kd : TypeDesc) (kvs : List (Value × Nat × D)) : D.s1 (.mp n kd c kvs) = .mref n := rfl
theorem aC5 (n c : Nat) (kd : TypeDesc) (kvs : List (Value × Nat × D)) : D.s2 (.mp n kd c kvs) = .mref n := rfl
theorem Ot (n c : Nat) (kd : TypeDesc) (kvs : List (Value × Nat × D)) : D.plain (.mp n kd c kvs) = true := rfl
theorem Ru (n c : Nat) (kd : TypeDesc) (kvs : List (Value × Nat × D)) : D.solid (.mp n kd c kvs) = true := rfl
theorem Nc (n c : Nat) (kd : TypeDesc) (kvs : List (Value × Nat × D)) : D.ncells (.mp n kd c kvs) = 1 := rfl
theorem Rz (n c : Nat) (kd : TypeDesc) (kvs : List (Value × Nat × D)) : D.cells (.mp n kd c kvs) = [.mp n kd c kvs] := rfl
theorem Mr (t : TypeId) (d : D) : D.strip (.ifc t d) = .ifc t d := rfl
theorem aA6 (t : TypeId) (d : D) : D.s1 (.ifc t d) = .ifc t d := rfl
theorem aB7 (t : TypeId) (d : D) : D.s2 (.ifc t d) = .ifc t d := rfl
theorem Lq (t : TypeId) (d : D) : D.plain (.ifc t d) = true := rfl
theorem Ni (t : TypeId) (d : D) : D.solid (.ifc t d) = true := rfl
theorem Gt (t : TypeId) (d : D) : D.ncells (.ifc t d) = 1 := rfl
theorem Ll (t : TypeId) (d : D) : D.cells (.ifc t d) = [.ifc t d] := rfl
theorem Ur (n : Nat) : D.arr (.mref n) = true := rfl
attribute [simp] Mm aA4 aBe Nr Km lV pL mG Zn Gs Yl Xr Er Fs Ee Hi Up aCt aC5 Ot Ru Nc Rz Mr aA6 aB7 Lq Ni Gt Ll Ur
theorem My (n a b c : Nat) : D.strip (.slo n a b c) = .slo n a b c := rfl
theorem Tk (n : Nat) : D.strip (.xl n) = .xl n := rfl
theorem Rc (k : Nat) (es : List D) : D.strip (.xs k es) = .xl es.length := rfl
theorem aBu (n a b c : Nat) : D.s2 (.slo n a b c) = .slo n a b c := rfl
theorem aC2 (n : Nat) : D.s2 (.xl n) = .xl n := rfl
theorem aCg (k : Nat) (es : List D) : D.s2 (.xs k es) = .xl es.length := rfl
theorem aB1 (f : Go.Fn) (a b : List D) : D.s2 (.clo f a b) = .clo f a b := rfl
theorem aBo (n a b c : Nat) : D.s1 (.slo n a b c) = .slo n a b c := rfl
theorem aDf (n : Nat) : D.s1 (.xl n) = .xl n := rfl
theorem aC1 (k : Nat) (es : List D) : D.s1 (.xs k es) = .xl es.length := rfl
theorem aAe (f : Go.Fn) (a b : List D) : D.s1 (.clo f a b) = .clo f a b := rfl
theorem Ln (n a b c : Nat) : D.plain (.slo n a b c) = true := rfl
theorem Ue (n : Nat) : D.plain (.xl n) = true := rfl
theorem Oy (k : Nat) (es : List D) : D.plain (.xs k es) = true := rfl
theorem Kz (n a b c : Nat) : D.solid (.slo n a b c) = true := rfl
theorem Rs (n : Nat) : D.solid (.xl n) = true := rfl
theorem Pi (k : Nat) (es : List D) : D.solid (.xs k es) = true := rfl
theorem Fo (n a b c : Nat) : D.ncells (.slo n a b c) = 1 := rfl
theorem Kf (n : Nat) : D.ncells (.xl n) = 1 := rfl
theorem Kg (k : Nat) (es : List D) : D.ncells (.xs k es) = 1 := rfl
theorem Md (n a b c : Nat) : D.cells (.slo n a b c) = [.slo n a b c] := rfl
theorem Rw (n : Nat) : D.cells (.xl n) = [.xl n] := rfl
theorem Px (k : Nat) (es : List D) : D.cells (.xs k es) = [.xs k es] := rfl
theorem aCv (x : Value) : D.arr (.v x) = true := rfl
theorem aAv (es : List D) : D.arr (.sl false es) = true := rfl
theorem Yt (cs : List D) : D.arr (.agg cs) = cs.all D.flat := rfl
theorem aAd (x : Value) : D.flat (.v x) = true := rfl
theorem Ys (es : List D) : D.flat (.sl false es) = true := rfl
theorem Qx (n o : Nat) : D.flat (.ref n o) = true := rfl
def rQ : List (Nat × List D) → List (List D) → List (List D)
 | [], l => l
 | (n, c) :: r, l => (rQ r l).set n c
theorem lL (l : List (List D)) : rQ [] l = l := rfl
theorem kB (n : Nat) (c : List D) (r : List (Nat × List D)) (l : List (List D)) : rQ ((n, c) :: r) l = (rQ r l).set n c := rfl
theorem lP {P : Program} {α : Type} {n : Nat} {l l2 : List (Nat × Slot)} {loc obj : List (List D)} (F : α → List (Nat × Slot)) (M N : α → List (Nat × List D)) (W : List Nat) (p : α → Prop) (m : α → Nat) (x0 : α) {body : Code} {Q : Exit → St → Prop}
  (hl : cS W l = l2) (hF : qV (rQ (M x0) loc).length (cX l) (F x0 ++ l2)) (hG : rQ (M x0) loc = loc) (hH : rQ (N x0) obj = obj) (hp : p x0)
  (h : ∀ x, p x → fW P body (uK (fun x => St.mk' n (F x ++ l2) (rQ (M x) loc) (rQ (N x) obj)) p m x Q) (St.mk' n (F x ++ l2) (rQ (M x) loc) (rQ (N x) obj))) : fW P (.loop body) Q (St.mk' n l loc obj) :=
 eI F (fun x => rQ (M x) loc) (fun x => rQ (N x) obj) W p m x0 hl hF hG hH hp h
theorem Lt {α : Type} (l : List α) (a : α) : (l ++ [a])[l.length]? = some a := by simp
theorem iN {α : Type} (l : List α) (a b : α) : (l ++ [a]).set l.length b = l ++ [b] := by simp
def qZ : List Nat → List (Nat × Slot) → List (Nat × Slot)
 | [], _ => []
 | t :: r, l => (t, cX l t) :: qZ r l
theorem La (l : List (Nat × Slot)) : qZ [] l = [] := rfl
theorem vM (t : Nat) (r : List Nat) (l : List (Nat × Slot)) : qZ (t :: r) l = (t, cX l t) :: qZ r l := rfl
theorem xK (l : List (Nat × Slot)) (u : Nat) : ∀ K : List Nat, cX (qZ K l) u = cX l u ∨ cX (qZ K l) u = .any
 | [] => .inr rfl
 | t :: r => by
  rw [vM, kG];split
  ·rename_i h; subst h; exact .inl rfl
  ·exact xK l u r
theorem Pg {P : Program} (K : List Nat) {l2 : List (Nat × Slot)} {c : Code} {n : Nat} {l : List (Nat × Slot)} {loc obj : List (List D)} {Q : Exit → St → Prop} (hl : qZ K l = l2) (h : fW P c Q (St.mk' n l2 loc obj)) : fW P c Q (St.mk' n l loc obj) := by
 subst hl;intro w0 g0 w g tmps hf hok hn;refine h w0 g0 w g tmps hf ⟨hok.mem, hok.xlt, fun t => ?_, hok.ll, hok.loc, hok.ol, hok.obj⟩ hn;have hs := hok.slot t;show SlotOk w g t (cX (qZ K l) t) _
 rcases xK l t K with e | e
 ·rw [e]; exact hs
 ·rw [e]; exact ⟨.any _, .flat _ _ _ rfl⟩
theorem iW {P : Program} (ts k : Nat) {es : List D} {c : Code} {n : Nat} {l : List (Nat × Slot)} {loc obj : List (List D)} {Q : Exit → St → Prop} (hs : cX l ts = .d (.xs k es)) (hk0 : 0 < k)
  (h : ∀ (cap : Nat) (rest : List D), es.length ≤ cap → cap ≤ maxLen → rest.length = (cap - es.length) * k → 0 < k → (∀ d ∈ es, d.ncells = k ∧ d.arr = true) → fW P c Q (St.mk' n ((ts, .d (.slo obj.length 0 es.length cap)) :: l) loc (obj ++ [es.flatMap D.cells ++ rest]))) : fW P c Q (St.mk' n l loc obj) := by
 intro w0 g0 w g tmps hf hok hn;obtain ⟨cap, rest, g', a1, a2, a3, a4, a5, _, hfr, hok'⟩ := hok.openX ts k es hs hk0;exact h cap rest a1 a2 a3 a4 a5 w0 g0 w g' tmps (hf.trans hfr) hok' hn
theorem fQ {P : Program} (ts k : Nat) {es : List D} {c : Code} {n : Nat} {l : List (Nat × Slot)} {loc obj : List (List D)} {Q : Exit → St → Prop} (hs : cX l ts = .d (.xs k es)) (hk0 : 0 < k)
  (h : ∀ (cap : Nat) (rest : List D), es.length ≤ cap → cap ≤ maxLen → rest = List.replicate ((cap - es.length) * k) .any → 0 < k → (∀ d ∈ es, d.ncells = k ∧ d.arr = true) → fW P c Q (St.mk' n ((ts, .d (.slo obj.length 0 es.length cap)) :: l) loc (obj ++ [es.flatMap D.cells ++ rest]))) : fW P c Q (St.mk' n l loc obj) := by
 intro w0 g0 w g tmps hf hok hn;obtain ⟨cap, rest, g', a1, a2, a3, a4, a5, _, hfr, hok'⟩ := hok.openX2 ts k es hs hk0;exact h cap rest a1 a2 a3 a4 a5 w0 g0 w g' tmps (hf.trans hfr) hok' hn
theorem cZ {P : Program} (ts k m len cap : Nat) (es cs : List D) {c : Code} {n : Nat} {l : List (Nat × Slot)} {loc obj : List (List D)} {Q : Exit → St → Prop} (hs : cX l ts = .d (.slo m 0 len cap)) (hm : obj[m]? = some cs) (hk : 0 < k) (hcs : cs.length = cap * k) (hl : es.length = len)
  (hes : ∀ d ∈ es, d.ncells = k ∧ d.arr = true) (he : es.flatMap D.cells <+: cs) (h : fW P c Q (St.mk' n ((ts, .d (.xs k es)) :: l) loc (obj.set m []))) : fW P c Q (St.mk' n l loc obj) := by
 intro w0 g0 w g tmps hf hok hn;obtain ⟨g', _, hfr, hok'⟩ := hok.closeX ts k m len cap es cs hs hm hk hcs hl hes he;exact h w0 g0 w g' tmps (hf.trans hfr) hok' hn
theorem Qq {α : Type} (f : α → D) (l : List α) (k : Nat) (h : k < l.length) : (l.map f).getD k .any = f l[k] := by
 simp [List.getD, h]
theorem xC {α : Type} (f : α → D) (l : List α) (k : Nat) (h : k < l.length) : (l.map f)[k]? = some (f l[k]) := by
 simp [h]
theorem Yg (n : Int) : Ob .i64 n = (-9223372036854775808 ≤ n ∧ n ≤ 9223372036854775807) := by
 unfold Ob;rfl
theorem aAm (n : Int) : Ob .u8 n = (0 ≤ n ∧ n ≤ 255) := by
 unfold Ob;rfl
end
theorem Od : Ac [] = true := rfl
theorem Mn (r : List (Option Holder)) : Ac (none :: r) = Ac r := by simp [Ac]
theorem Ko (h : Holder) (r : List (Option Holder)) : Ac (some h :: r) = (!r.contains (some h) && Ac r) := by
 simp only [Ac, List.filterMap_cons, id, List.nodup_cons, Bool.decide_and, List.contains_eq_mem];congr 1;rw [← decide_not];congr 1;simp [List.mem_filterMap]
theorem Nz : maxLen = 9223372036854775807 := rfl
theorem Zb (n : Nat) (l : List (Nat × Slot)) (loc obj : List (List D)) : ({ n := n, env := cX l, loc := loc, obj := obj } : St) = St.mk' n l loc obj := rfl
def sI : Slot → Slot
 | .d x => .d x.strip
 | s => s
def iO : List Nat → List (Nat × Slot) → List (Nat × Slot)
 | [], l => l
 | t :: r, l => (t, sI (cX l t)) :: iO r l
theorem tE (l : List (Nat × Slot)) (u : Nat) : ∀ ts : List Nat, cX (iO ts l) u = if u ∈ ts then sI (cX l u) else cX l u
 | [] => by simp [iO]
 | t :: r => by
  rw [iO, kG, tE l u r];by_cases h : u = t
  ·subst h; simp
  ·simp [h]
theorem jO (l : List (Nat × Slot)) (ts : List (Option Nat)) : dO ts (cX l) = cX (iO (ts.filterMap id) l) := by
 funext u;rw [tE];by_cases h : some u ∈ ts
 ·have h1 : ts.contains (some u) = true := by simpa using h
  have h2 : u ∈ ts.filterMap id := by simpa using h
  simp only [dO, h1, if_true, if_pos h2, sI];split <;> simp_all
 ·have h1 : ts.contains (some u) = false := by simpa using h
  have h2 : ¬ u ∈ ts.filterMap id := by simpa using h
  simp only [dO, h1, if_neg h2]; rfl
theorem Et {P : Program} {d : Nat} {f : FuncId} {args : List Operand} {n : Nat} {l : List (Nat × Slot)} {loc obj : List (List D)} {K : St → Prop} : iR P (some d) f args (St.mk' n l loc obj) K =
  ((args.filterMap bS).Nodup ∧ (∀ x ∈ args, pG ((St.mk' n l loc obj).rdS x) = true ∧ ((St.mk' n l loc obj).rd x).plain = true) ∧
   Ct P f (args.map (mX (St.mk' n l loc obj))) obj (fun r σ' => K (St.mk' n ((d, .d r) :: iO (args.filterMap bS) l) loc σ'))) := by
 unfold iR;have e : (args.map bS).filterMap id = args.filterMap bS := by rw [List.filterMap_map]; rfl
 simp only [tY, uE, uG, Jf, jO, e];rfl
theorem Dx (l : List (Nat × Slot)) : iO [] l = l := rfl
theorem zV (t : Nat) (r : List Nat) (l : List (Nat × Slot)) : iO (t :: r) l = (t, sI (cX l t)) :: iO r l := rfl
theorem Un (x : D) : sI (.d x) = .d x.strip := rfl
theorem Br (a b : Nat) : sI (.lref a b) = .lref a b := rfl
theorem Ju : List.filterMap bS [] = [] := rfl
theorem Lx (t : Tmp) (r : List Operand) : List.filterMap bS (.tmp t :: r) = t :: List.filterMap bS r := rfl
theorem Dq (v : Value) (r : List Operand) : List.filterMap bS (.const v :: r) = List.filterMap bS r := rfl
theorem Hu (v : FuncId) (r : List Operand) : List.filterMap bS (.func v :: r) = List.filterMap bS r := rfl
theorem zO {P : Program} {c : Cfg} {d : Nat} {f : FuncId} {args : Array Operand} {ts : Array TypeId} {n : Nat} {l : List (Nat × Slot)} {loc obj : List (List D)} {K : St → Prop} :
  oW P c (some d) (.call ⟨.value (.func f), args, ts⟩) .pureT (St.mk' n l loc obj) K =
  ((args.toList.filterMap bS).Nodup ∧ (∀ x ∈ args.toList, pG ((St.mk' n l loc obj).rdS x) = true ∧ ((St.mk' n l loc obj).rd x).plain = true) ∧
   ∃ r, (∀ σ, Ct P f (args.toList.map (mX (St.mk' n l loc obj))) σ fun r' σ' => r' = r ∧ σ' = σ) ∧ K (St.mk' n ((d, .d r) :: iO (args.toList.filterMap bS) l) loc obj)) := by
 have e : (args.toList.map bS).filterMap id = args.toList.filterMap bS := by rw [List.filterMap_map]; rfl
 simp only [oW, tY, uE, uG, Jf, jO, e];rfl
theorem Ci {P : Program} {c : Cfg} {d : Nat} {f : FuncId} {args : Array Operand} {ts : Array TypeId} {n : Nat} {l : List (Nat × Slot)} {loc obj : List (List D)} {K : St → Prop} :
  oW P c (some d) (.call ⟨.value (.func f), args, ts⟩) .detT (St.mk' n l loc obj) K =
  ((args.toList.filterMap bS).Nodup ∧ (∀ x ∈ args.toList, pG ((St.mk' n l loc obj).rdS x) = true ∧ ((St.mk' n l loc obj).rd x).plain = true) ∧
   ∃ r σ0, (Ct P f (args.toList.map (mX (St.mk' n l loc obj))) obj fun r' σ' => r' = r ∧ σ' = σ0) ∧ K (St.mk' n ((d, .d r) :: iO (args.toList.filterMap bS) l) loc σ0)) := by
 have e : (args.toList.map bS).filterMap id = args.toList.filterMap bS := by rw [List.filterMap_map]; rfl
 simp only [oW, tY, uE, uG, Jf, jO, e];rfl
theorem aAc {P : Program} {c : Cfg} {d : Option Tmp} {op : Op} {f : Fl} {st : St} {K : St → Prop} : oW P c d op (.op f) st K = (fV op = false ∧ iS c d st op = f ∧ eH P c d op st K) := rfl
theorem Us {P : Program} {c : Cfg} {d : Option Tmp} {f : FuncId} {args : Array Operand} {ts : Array TypeId} {st : St} {K : St → Prop} : oW P c d (.call ⟨.value (.func f), args, ts⟩) .pure st K =
  (gF args.toList st ∧ ∃ r, (∀ σ, Ct P f (dI args.toList st) σ fun r' σ' => r' = r ∧ σ' = σ) ∧ K (st.put d (.d r))) := rfl
def aCs (P : Program) (dst : Option Tmp) (d : D) (args : List Operand) (st : St) (K : St → Prop) : Prop := match d with
 | .clo (.func fid) first caps => (∀ d ∈ first ++ caps, d.plain = true) ∧ gF args st ∧ ∃ r, (∀ σ, Ct P fid (first.map D.strip ++ dI args st ++ caps.map D.strip) σ fun r' σ' => r' = r ∧ σ' = σ) ∧ K (st.put dst (.d r))
 | _ => False
theorem Mc {P : Program} {c : Cfg} {d : Option Tmp} {f : Operand} {args : Array Operand} {ts : Array TypeId} {st : St} {K : St → Prop} : oW P c d (.call ⟨.value f, args, ts⟩) .pureC st K = aCs P d (st.rd f) args.toList st K := rfl
theorem Vp {P : Program} {dst : Option Tmp} {fid : FuncId} {first caps : List D} {args : List Operand} {st : St} {K : St → Prop} : aCs P dst (.clo (.func fid) first caps) args st K = ((∀ d ∈ first ++ caps, d.plain = true) ∧ gF args st ∧ ∃ r, (∀ σ, Ct P fid (first.map D.strip ++ dI args st ++ caps.map D.strip) σ fun r' σ' => r' = r ∧ σ' = σ) ∧ K (st.put dst (.d r))) := rfl
theorem Rr {P : Program} {c : Cfg} {d : Option Tmp} {f : FuncId} {args : Array Operand} {ts : Array TypeId} {st : St} {K : St → Prop} : oW P c d (.call ⟨.value (.func f), args, ts⟩) .read st K =
  (gF args.toList st ∧ ∃ r, (Ct P f (dI args.toList st) st.obj fun r' σ' => r' = r ∧ σ' = st.obj) ∧ K (st.put d (.d r))) := rfl
theorem aBi {P : Program} {c : Cfg} {d : Option Tmp} {f : FuncId} {args : Array Operand} {ts : Array TypeId} {st : St} {K : St → Prop} : oW P c d (.call ⟨.value (.func f), args, ts⟩) .nd st K =
  ∃ Q, (gF args.toList st ∧ Ct P f (dI args.toList st) st.obj Q ∧ ∃ r σ0, Q r σ0) ∧ ∀ r σ0, Q r σ0 → K (({ st with obj := σ0 } : St).put d (.d r)) := rfl
theorem Nq {P : Program} {c : Cfg} {d : Option Tmp} {f : FuncId} {args : Array Operand} {ts : Array TypeId} {st : St} {K : St → Prop} : oW P c d (.call ⟨.value (.func f), args, ts⟩) .readT st K =
  (gF args.toList st ∧ ∃ r, (∀ J, Ct P f (dI args.toList st) (st.obj ++ J) fun r' σ' => r' = r ∧ σ' = st.obj ++ J) ∧ K (st.put d (.d r))) := rfl
theorem Ou {P : Program} {c : Cfg} {d : Option Tmp} {f : FuncId} {args : Array Operand} {ts : Array TypeId} {st : St} {K : St → Prop} : oW P c d (.call ⟨.value (.func f), args, ts⟩) .detA st K =
  (gF args.toList st ∧ ∃ r J, (Ct P f (dI args.toList st) st.obj fun r' σ' => r' = r ∧ σ' = st.obj ++ J) ∧ K (({ st with obj := st.obj ++ J } : St).put d (.d r))) := rfl
theorem Ya {P : Program} {c : Cfg} {d : Option Tmp} {f : FuncId} {args : Array Operand} {ts : Array TypeId} {st : St} {K : St → Prop} : oW P c d (.call ⟨.value (.func f), args, ts⟩) .det st K =
  (gF args.toList st ∧ ∃ r σ0, (Ct P f (dI args.toList st) st.obj fun r' σ' => r' = r ∧ σ' = σ0) ∧ K (({ st with obj := σ0 } : St).put d (.d r))) := rfl
theorem Vl {P : Program} {t : Nat} {a b : Code} {s : Slot} {n : Nat} {l : List (Nat × Slot)} {loc obj : List (List D)} {Q : Exit → St → Prop} (hs : cX l t = s)
  (h : pY s.toD (fW P a Q (St.mk' n ((t, .d (.bool true)) :: l) loc obj)) (fW P b Q (St.mk' n ((t, .d (.bool false)) :: l) loc obj))) : fW P (.cond (.tmp t) a b) Q (St.mk' n l loc obj) := by
 unfold pY at h;split at h
 ·rename_i v hv;have hs' : cX l t = .d (.v (.bool v)) := by
   rw [hs];cases s with
   | d d => simp only [Slot.toD] at hv; rw [hv]
   | lref n o => simp [Slot.toD] at hv
  rw [wQ hs'];cases v with
  | true => exact bR (t := true) (by simp [St.rd, St.rdS, kG, St.mk']) (fun _ => h.1 rfl) (fun h => by cases h)
  | false => exact bR (t := false) (by simp [St.rd, St.rdS, kG, St.mk']) (fun h => by cases h) (fun _ => h.2 rfl)
 ·exact h.elim
def kS (o : Oper) : Oper := ⟨o.dst, o.op, 0, "", #[], o.guard⟩
theorem jJ : List.map kS [] = [] := rfl
theorem iL (d : Option Tmp) (op : Op) (ty : TypeId) (pos : String) (after : Array Edge) (g : Option (Nat × Bool)) (r : List Oper) : List.map kS (⟨d, op, ty, pos, after, g⟩ :: r) = ⟨d, op, 0, "", #[], g⟩ :: List.map kS r := rfl
theorem vP {P : Program} {c : Cfg} {all : List Oper} {K : St → Prop} : ∀ (r : List Oper) (st : St), kD P c all (r.map kS) st K = kD P c all r st K
 | [], _ => rfl
 | o :: r, st => by
  have ih : (fun st' => kD P c all (r.map kS) st' K) = fun st' => kD P c all r st' K := funext fun st' => vP r st';show kD P c all (kS o :: r.map kS) st K = _
  unfold kD;simp only [kS, ih];split
  ·rfl
  ·split
   ·split
    ·rw [vP r]; rfl
    ·rfl
   ·rfl
theorem sR {P : Program} {c : Cfg} {all : List Oper} {K : St → Prop} : ∀ (r : List Oper) (ks : List DK) (st : St), fJ P c all (r.map kS) ks st K = fJ P c all r ks st K
 | [], _, _ => rfl
 | _ :: _, [], _ => rfl
 | o :: r, k :: ks, st => by
  have ih : (fun st' => fJ P c all (r.map kS) ks st' K) = fun st' => fJ P c all r ks st' K := funext fun st' => sR r ks st';show fJ P c all (kS o :: r.map kS) (k :: ks) st K = _
  unfold fJ;simp only [kS, ih];congr 1;split
  ·rfl
  ·split
   ·split
    ·rw [sR r]
    ·rfl
   ·rfl
theorem lA {P : Program} {c : Cfg} {id : Nat} {ops ops' : List Oper} {Q : Exit → St → Prop} {st : St} (he : ops.map kS = ops') (h : ∀ all : List Oper, (∀ j, aS all j = aS ops j) → ∀ K : St → Prop, (∀ s, Q .normal s → K s) → kD P c all ops' st K) : fW P (.region id ops.toArray false) Q st :=
 Gu fun K hK => by
  have := h ops (fun _ => rfl) K hK
  rwa [← he, vP] at this
theorem xT {P : Program} {c : Cfg} {id : Nat} {ops ops' : List Oper} (ks : List DK) {Q : Exit → St → Prop} {st : St} (hm : P.follows .mixedOrders = true) (hok : vW c ops ks = true) (he : ops.map kS = ops')
  (h : ∀ all : List Oper, (∀ j, aS all j = aS ops j) → ∀ K : St → Prop, (∀ s, Q .normal s → K s) → fJ P c all ops' ks st K) : fW P (.region id ops.toArray true) Q st :=
 Te ks hm hok fun K hK => by
  have := h ops (fun _ => rfl) K hK
  rwa [← he, sR] at this
def Gw : D → Prop
 | .v (.slice none 0 0) => True
 | _ => False
def mZ (x y : D) : Prop := y = x ∨ (x.plain = true ∧ y = x.strip) ∨ (Gw x ∧ (y = .sl false [] ∨ y = .sl true []))
theorem Gl : Gw (.v (.slice none 0 0)) = True := rfl
def fM : List D → List D → Prop
 | [], [] => True
 | a :: r, b :: q => mZ a b ∧ fM r q
 | _, _ => False
theorem cL {a b : List D} (h : a = b) : fM a b := by
 subst h;induction a with
 | nil => trivial
 | cons x r ih => exact ⟨.inl rfl, ih⟩
theorem wH : ∀ {a b : List D}, fM a b → a.length = b.length
 | [], [], _ => rfl
 | _ :: _, _ :: _, h => by simp [wH h.2]
 | [], _ :: _, h => h.elim
 | _ :: _, [], h => h.elim
theorem wG : ∀ {a b : List D}, fM a b → ∀ (i : Nat) (y : D), b[i]? = some y → ∃ x, a[i]? = some x ∧ mZ x y
 | x :: _, _ :: _, h, 0, y, hy => by simp at hy; subst hy; exact ⟨x, rfl, h.1⟩
 | _ :: _, _ :: _, h, i + 1, y, hy => by simpa using wG h.2 i y (by simpa using hy)
 | [], [], _, _, _, hy => by simp at hy
 | [], _ :: _, h, _, _, _ => h.elim
 | _ :: _, [], h, _, _, _ => h.elim
theorem Ct.of_le {P : Program} {f : FuncId} {a a' : List D} {σ σ' : List (List D)} {Q : D → List (List D) → Prop} (h : Ct P f a σ Q) (e : fM a' a) (e2 : σ' = σ) : Ct P f a' σ' Q := by
 subst e2;refine ⟨h.1, fun w g vs hs hb ho => h.2 w g vs (by rw [hs, wH e]) hb ⟨ho.mem, ho.xlt, fun t => ?_, ho.ll, ho.loc, ho.ol, ho.obj⟩⟩;have hsl := ho.slot t;simp only [St.ofArgs] at hsl ⊢;unfold dG at hsl ⊢;cases hy : a[t]? with
 | none => exact ⟨.any _, .flat _ _ _ rfl⟩
 | some y =>
  obtain ⟨x, hx, hle⟩ := wG e t y hy;rw [hx] at hsl;rcases hle with rfl | ⟨hp, rfl⟩ | ⟨hn, hy⟩
  ·exact hsl
  ·exact jS hsl.1 hp t
  ·have hxn : x = .v (.slice none 0 0) := by
    unfold Gw at hn;split at hn
    ·rfl
    ·exact hn.elim
   subst hxn;obtain ⟨hr, _⟩ := hsl;have hv := hr.vEq;rcases hy with rfl | rfl
   ·exact ⟨by rw [hv]; exact .nil _, .flat _ _ _ rfl⟩
   ·exact ⟨by rw [hv]; exact .nil _, .sl _ _ _ (.inl ⟨_, _, hv⟩)⟩
theorem qL : ∀ (sets : List (Nat × Slot)) (l : List (Nat × Slot)), dE sets (cX l) = cX (sets.reverseAux l)
 | [], l => rfl
 | (a, s) :: r, l => by
  show dE r (fun u => if u = a then s else cX l u) = _
  have : (fun u => if u = a then s else cX l u) = cX ((a, s) :: l) := by funext u; rw [kG]
  rw [this, qL r]; rfl
theorem aAp (n : Nat) (l : List (Nat × Slot)) (loc obj : List (List D)) (sets : List (Nat × Slot)) (ob : Option (List (List D))) : (St.mk' n l loc obj).upd ⟨sets, none, ob⟩ = St.mk' n (sets.reverseAux l) loc (ob.getD obj) := by
 show ({ n := n, env := dE sets (cX l), loc := loc, obj := ob.getD obj } : St) = _
 rw [qL]; rfl
theorem Fk (l : List (Nat × Slot)) : List.reverseAux [] l = l := rfl
theorem Dp (a : Nat × Slot) (r l : List (Nat × Slot)) : List.reverseAux (a :: r) l = List.reverseAux r (a :: l) := rfl
def Oa (R : iD) (K : List (Nat × Slot) → Option (List (List D)) → Prop) : Prop := ∃ sets ob, R sets ob ∧ K sets ob
@[congr] theorem aE2 {R R' : iD} {K : List (Nat × Slot) → Option (List (List D)) → Prop} (h : R = R') : Oa R K = Oa R' K := by rw [h]
theorem aA8 {P : Program} {alt : Bool} {dst : Option Tmp} {op : Op} {st : St} {K : St → Prop} : vcY P alt dst op st K = Oa (fun sets ob => yR P alt dst op st.rdS (if (Pc alt op).rO = true then st.obj else []) sets ob) (fun sets ob => K (st.upd ⟨sets, none, ob⟩)) := rfl
theorem aAq {S : List (Nat × Slot)} {O : Option (List (List D))} {K : List (Nat × Slot) → Option (List (List D)) → Prop} : Oa (fun sets ob => sets = S ∧ ob = O) K = K S O := by
 apply propext;constructor
 ·rintro ⟨_, _, ⟨rfl, rfl⟩, h⟩; exact h
 ·intro h; exact ⟨_, _, ⟨rfl, rfl⟩, h⟩
theorem Yk {C : Prop} {R : iD} {K : List (Nat × Slot) → Option (List (List D)) → Prop} : Oa (fun sets ob => C ∧ R sets ob) K = (C ∧ Oa (fun sets ob => R sets ob) K) := by
 apply propext;constructor
 ·rintro ⟨_, _, ⟨h1, h2⟩, h⟩; exact ⟨h1, _, _, h2, h⟩
 ·rintro ⟨h1, _, _, h2, h⟩; exact ⟨_, _, ⟨h1, h2⟩, h⟩
theorem aAt {α : Type} {R : α → iD} {K : List (Nat × Slot) → Option (List (List D)) → Prop} : Oa (fun sets ob => ∃ x, R x sets ob) K = ∃ x, Oa (fun sets ob => R x sets ob) K := by
 apply propext;constructor
 ·rintro ⟨_, _, ⟨x, h2⟩, h⟩; exact ⟨x, _, _, h2, h⟩
 ·rintro ⟨x, _, _, h2, h⟩; exact ⟨_, _, ⟨x, h2⟩, h⟩
theorem aB6 {R S : iD} {K : List (Nat × Slot) → Option (List (List D)) → Prop} : Oa (fun sets ob => R sets ob ∨ S sets ob) K = (Oa (fun sets ob => R sets ob) K ∨ Oa (fun sets ob => S sets ob) K) := by
 apply propext;constructor
 ·rintro ⟨_, _, h1 | h1, h⟩
  ·exact .inl ⟨_, _, h1, h⟩
  ·exact .inr ⟨_, _, h1, h⟩
 ·rintro (⟨_, _, h1, h⟩ | ⟨_, _, h1, h⟩)
  ·exact ⟨_, _, .inl h1, h⟩
  ·exact ⟨_, _, .inr h1, h⟩
theorem aDb {K : List (Nat × Slot) → Option (List (List D)) → Prop} : Oa (fun _ _ => False) K = False := by
 apply propext;exact ⟨fun ⟨_, _, h, _⟩ => h, False.elim⟩
attribute [simp] aA8 aAq Yk aAt aB6 aDb
attribute [simp] aAp Fk Dp isY sK Aj yR Vh Vf rT xR Kd Jy oS xN Me Pc Dj rB Ul Gl mB mK oN uS kK sB oR rW oJ yF lR Bool.true_or Bool.false_or
theorem Lf (cs : List D) : D.strip (.tup cs) = .tup (cs.map D.s2) := rfl
attribute [simp] Lf D.plain
theorem aAs (n : Nat) (cs : List D) : oD true n cs = if n ≤ cs.length then some (.agg (cs.take n)) else none := rfl
theorem Zs (n : Nat) (cs : List D) : oD false n cs = cs.head? := rfl
theorem aU (cs : List D) (off : Nat) (ds : List D) : cN cs off ds = cs.take off ++ ds ++ cs.drop (off + ds.length) := rfl
attribute [simp low] aAs Zs aU
attribute [simp] zO Ci aAc Us Mc Vp Rr Ya Nq Ou aBi
attribute [simp] My Tk Rc aBu aC2 aCg aB1 aBo aDf aC1 aAe Ln Ue Oy Kz Rs Pi Fo Kf Kg Md Rw Px aCv aAv Yt aAd Ys Qx Lt iN lL kB Et Dx zV Un Br Ju Lx Dq Hu
attribute [simp] Zb List.getElem?_cons_zero Option.bind_some Jf tY uE uG yS yH Wy Vc Rq Ph Qa Ir Jv Qh aA1 Oh oL aCq Sa
 Xu Rx Fj Xb Yw Ym Qc Mk Ki Na Kr Lo aEw aCl Zt aA5 Zq aBz aD3 aCo aBc Zx aAj
 Xp Tb Ly Kp Lg Lm Ng Zc Sq Nv Jz Nu Lh Tj Kw Ia Fw Vy Pl Lk Kj
 dF Yy Qy Qk Mf aBm Yo Pz Pv Wx Zg Zi aBt aBy aBh aAl Mi aAh aA9 Xf Qr Pd aQ eH Ad Wj cE Lj rY fO kI lN iZ eA flX oQ uV Cy fA mU tL Yz tJ tT fT eQ gO mN gL lY mF dN iY At mR iV
 lC tB oM mE fR iH kC wN kH nY gE gF dI mX pG xP St.cellsAt St.park Slot.plus Slot.isAddr Jc D.ofList
 Le Gb Yr aDa Wc Uu cS Qq xC Yg aAm Pj fV iS eX vZ vJ sJ Od Mn Ko Nz
end Go.Vm

