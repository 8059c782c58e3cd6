import Derived.Test.YtpfmpeaekgdgnaaGreatVm21
namespace Go.Vm
open Go
set_option linter.all false
section
variable {P : Program}
theorem aB {y : Code} {Q : Exit → St → Prop} {s : St} (h : fV P y Q s) : Ky P y Q .normal s := h
theorem bM {y : Code} {Q : Exit → St → Prop} {s : St} {i : Nat} (h : Q (.exit i) s) : Ky P y Q (.exit i) s := h
theorem aH {y : Code} {Q : Exit → St → Prop} {s : St} (h : Q .ret s) : Ky P y Q .ret s := h
theorem aQ {i : Nat} {Q : Exit → St → Prop} {s : St} (h : Q .normal s) : tF i Q .normal s := h
theorem bG {i : Nat} {Q : Exit → St → Prop} {s : St} (h : Q .normal s) : tF i Q (.exit i) s := by simpa [tF] using h
theorem aR {i : Nat} {Q : Exit → St → Prop} {s : St} (h : Q .ret s) : tF i Q .ret s := h
theorem bN {α : Type} {S : α → St} {p : α → Prop} {m : α → Nat} {x : α} {Q : Exit → St → Prop} {s : St} {i : Nat} (h : Q (.exit i) s) : uF S p m x Q (.exit i) s := h
theorem eM {α : Type} {S : α → St} {p : α → Prop} {m : α → Nat} {x : α} {Q : Exit → St → Prop} {s : St} (h : Q .ret s) : uF S p m x Q .ret s := h
def qB (d : D) (A B : Prop) : Prop := match d with
 | .v (.bool t) => (t = true → A) ∧ (t = false → B)
 | _ => False
theorem aD {c : Cfg} {all r : List Oper} {d : Option Tmp} {op : Op} {ty : TypeId} {pos : String} {after : Array Edge} {st : St} {K : St → Prop} (h : ∀ K' : St → Prop, (∀ s, kK P c all r s K → K' s) → Ho d st ∧ eJ P c d op st K') : kK P c all (⟨d, op, ty, pos, after, none⟩ :: r) st K :=
 h _ fun _ h => h
theorem aA {c : Cfg} {all : List Oper} (n : Nat) {r : List Oper} {st : St} {K : St → Prop} (h : ∀ K' : St → Prop, (∀ s, kK P c all (r.drop n) s K → K' s) → kK P c all (r.take n) st K') : kK P c all r st K := by
 have go : ∀ (n : Nat) (r : List Oper) (st : St), kK P c all (r.take n) st (fun s => kK P c all (r.drop n) s K) → kK P c all r st K := by
  intro n;induction n with
  | zero => intro r st h; exact h
  | succ n ih =>
   intro r st h;cases r with
   | nil => exact h
   | cons o r =>
    simp only [List.take_succ_cons, List.drop_succ_cons] at h;unfold kK at h ⊢;split at h
    ·rename_i hg;have hd := h.1;refine ⟨hd, ?_⟩;exact qG (fun s hs => ih r s hs) h.2
    ·rename_i j want hg;split at h
     ·split at h
      ·exact ⟨fun hb => ⟨(h.1 hb).1, qG (fun s hs => ih r s hs) (h.1 hb).2⟩, fun hb => ⟨(h.2 hb).1, ih r _ (h.2 hb).2⟩⟩
      ·exact h.elim
     ·exact h.elim
 exact go n r st (h _ fun _ h => h)
theorem aD1 {c : Cfg} {all r : List Oper} {d : Option Tmp} {op : Op} {ty : TypeId} {pos : String} {after : Array Edge} {j t : Nat} {b want : Bool} {st : St} {K : St → Prop} (hg : aT all j = some t) (hs : st.env t = .d (.v (.bool b)))
  (h1 : b = want → ∀ K' : St → Prop, (∀ s, kK P c all r s K → K' s) → Ho d st ∧ eJ P c d op st K') (h2 : b = !want → Ho d st ∧ kK P c all r (st.put d .und) K) : kK P c all (⟨d, op, ty, pos, after, some (j, want)⟩ :: r) st K := by
 rw [yY];simp only [hg, hs];exact ⟨fun hb => h1 hb _ fun _ h => h, h2⟩
theorem aCk {c : Cfg} {all r : List Oper} {d : Option Tmp} {op : Op} {ty : TypeId} {pos : String} {after : Array Edge} {j t : Nat} {b want : Bool} {st : St} {K : St → Prop} (hg : aT all j = some t) (hs : st.env t = .d (.v (.bool b))) (hb : b = want)
  (h1 : ∀ K' : St → Prop, (∀ s, kK P c all r s K → K' s) → Ho d st ∧ eJ P c d op st K') : kK P c all (⟨d, op, ty, pos, after, some (j, want)⟩ :: r) st K :=
 aD1 hg hs (fun _ => h1) fun h => (by rw [hb] at h; cases want <;> cases h)
theorem wQ {n t : Nat} {l : List (Nat × Slot)} {loc obj : List (List D)} {b : Bool} (hs : cV l t = .d (.v (.bool b))) : St.mk' n l loc obj = St.mk' n ((t, .d (.bool b)) :: l) loc obj := by
 unfold St.mk';congr 1;funext u;simp only [cV];split
 ·rename_i e; rw [e, hs]
 ·rfl
theorem aX {c : Cfg} {all r : List Oper} {n : Nat} {l : List (Nat × Slot)} {loc obj : List (List D)} {K : St → Prop} (t : Nat) {s : Slot} (hs : cV l t = s)
  (h : qB s.toD (kK P c all r (St.mk' n ((t, .d (.bool true)) :: l) loc obj) K) (kK P c all r (St.mk' n ((t, .d (.bool false)) :: l) loc obj) K)) : kK P c all r (St.mk' n l loc obj) K := by
 unfold qB at h;split at h
 ·rename_i b hb;have hs' : cV l t = .d (.v (.bool b)) := by
   rw [hs];cases s with
   | d d => simp only [Slot.toD] at hb; rw [hb]
   | lref n o => simp [Slot.toD] at hb
  rw [wQ hs'];cases b
  ·exact h.2 rfl
  ·exact h.1 rfl
 ·exact h.elim
def aBg (P : Program) (c : Cfg) (all r : List Oper) (K : St → Prop) : St → Prop := fun st => kK P c all r st K
theorem Rj {c : Cfg} {all r : List Oper} {K : St → Prop} {st : St} : aBg P c all r K st = kK P c all r st K := rfl
theorem Wy {c : Cfg} {all r : List Oper} {d : Option Tmp} {op : Op} {ty : TypeId} {pos : String} {after : Array Edge} {st : St} {K : St → Prop} : kK P c all (⟨d, op, ty, pos, after, none⟩ :: r) st K = (Ho d st ∧ eJ P c d op st (aBg P c all r K)) := rfl
def Vv (P : Program) (c : Cfg) (all r : List Oper) (ks : List DK) (K : St → Prop) : St → Prop := fun st => gQ P c all r ks st K
theorem Oi {c : Cfg} {all r : List Oper} {ks : List DK} {K : St → Prop} {st : St} : Vv P c all r ks K st = gQ P c all r ks st K := rfl
theorem Wt {c : Cfg} {all r : List Oper} {d : Option Tmp} {op : Op} {ty : TypeId} {pos : String} {after : Array Edge} {k : DK} {ks : List DK} {st : St} {K : St → Prop} : gQ P c all (⟨d, op, ty, pos, after, none⟩ :: r) (k :: ks) st K = (Ho d st ∧ qM P c d op k st (Vv P c all r ks K)) := rfl
@[congr] theorem aEa {op : BinOp} {t : TypeId} {x y x' y' : Slot} {K : D → Prop} (hx : x = x') (hy : y = y') : nC P op t x y K = nC P op t x' y' K := by rw [hx, hy]
@[congr] theorem aDm {op : BinOp} {k : IntKind} {a b a' b' : Int} {K : D → Prop} (hx : a = a') (hy : b = b') : uD op k a b K = uD op k a' b' K := by rw [hx, hy]
@[congr] theorem aD7 {op : BinOp} {a b a' b' : ByteArray} {K : D → Prop} (hx : a = a') (hy : b = b') : tV op a b K = tV op a' b' K := by rw [hx, hy]
@[congr] theorem aD6 {t : TypeId} {a b a' b' : List D} {K : Bool → Prop} (hx : a = a') (hy : b = b') : nL P t a b K = nL P t a' b' K := by rw [hx, hy]
@[congr] theorem aEi {op : UnOp} {x x' : D} {K : D → Prop} (hx : x = x') : uN op x K = uN op x' K := by rw [hx]
def sel (b : Bool) (s r : Slot) : Slot := if b = true then s else r
@[congr] theorem aE1 {b b' : Bool} {s r : Slot} (h : b = b') : sel b s r = sel b' s r := by rw [h]
theorem aAl {s r : Slot} : sel true s r = s := rfl
theorem aAq {s r : Slot} : sel false s r = r := rfl
theorem zJ (a : Nat) (s : Slot) (r : List (Nat × Slot)) (t : Nat) : cV ((a, s) :: r) t = sel (t == a) s (cV r t) := by
 simp only [cV, sel, beq_iff_eq]
def gv3 (s : Slot) (want : Bool) : Option Bool := uB s want
def gv2 (o : Option Tmp) (st : St) (want : Bool) : Option Bool := match o with
 | some t => gv3 (st.env t) want
 | none => none
@[congr] theorem aFl {o o' : Option Tmp} {st : St} {want : Bool} (h : o = o') : gv2 o st want = gv2 o' st want := by rw [h]
theorem Wh (t : Tmp) (st : St) (want : Bool) : gv2 (some t) st want = gv3 (st.env t) want := rfl
theorem Sp (b want : Bool) : gv3 (.d (.v (.bool b))) want = some b := rfl
theorem aAi (want : Bool) : gv3 (.d (.tup [])) want = some (!want) := rfl
def To (all : List Oper) (j : Nat) (st : St) (want : Bool) : Option Bool := match aT all j with
 | some t => uB (st.env t) want
 | none => none
theorem Wz (all : List Oper) (j : Nat) (st : St) (want : Bool) : To all j st want = gv2 (aT all j) st want := rfl
def Ks (g : Option Bool) (want : Bool) (A B : Prop) : Prop := match g with
 | some b => (b = want → A) ∧ (b = !want → B)
 | none => False
@[congr] theorem aC9 {g g' : Option Bool} {want : Bool} {A B : Prop} (h : g = g') : Ks g want A B = Ks g' want A B := by rw [h]
theorem aCv {A B : Prop} : Ks (some true) true A B = A := by simp [Ks]
theorem aA6 {A B : Prop} : Ks (some true) false A B = B := by simp [Ks]
theorem aBy {A B : Prop} : Ks (some false) true A B = B := by simp [Ks]
theorem aCn {A B : Prop} : Ks (some false) false A B = A := by simp [Ks]
theorem aBn {c : Cfg} {all r : List Oper} {d : Option Tmp} {op : Op} {ty : TypeId} {pos : String} {after : Array Edge} {j : Nat} {want : Bool} {st : St} {K : St → Prop} : kK P c all (⟨d, op, ty, pos, after, some (j, want)⟩ :: r) st K =
  Ks (To all j st want) want (Ho d st ∧ eJ P c d op st (aBg P c all r K)) (Ho d st ∧ kK P c all r (st.put d .und) K) := by
 rw [yY];unfold To Ks;split
 ·rename_i t ht;simp only [ht];split
  ·rename_i h; simp [h]; exact fun _ => Iff.rfl
  ·rename_i h; simp [h]
 ·rename_i h; simp [h]
def Fv (d : D) (A B : Prop) : Prop := match d with
 | .v (.bool t) => (t = true → A) ∧ (t = false → B)
 | _ => False
@[congr] theorem aA0 {d d' : D} {A B : Prop} (h : d = d') : Fv d A B = Fv d' A B := by rw [h]
theorem aBd {A B : Prop} : Fv (.v (.bool true)) A B = A := by simp [Fv]
theorem aB0 {A B : Prop} : Fv (.v (.bool false)) A B = B := by simp [Fv]
theorem Ly {dst : Option Tmp} {c a b : Operand} {st : St} {K : St → Prop} : qL dst c a b st K = Fv (st.rd c) ((st.rd a).plain = true ∧ K (st.put dst (.d (st.rd a).strip))) ((st.rd b).plain = true ∧ K (st.put dst (.d (st.rd b).strip))) := rfl
theorem Eb {c : Cfg} {dst : Option Tmp} {op : Op} {k : DK} {st : St} {K K' : St → Prop} (hk : ∀ s, K s → K' s) (h : qM P c dst op k st K) : qM P c dst op k st K' := by
 unfold qM at *;cases k with
 | op f => exact ⟨h.1, h.2.1, qG hk h.2.2⟩
 | pure =>
  simp only at *;split at h
  ·obtain ⟨h1, r, h2, h3⟩ := h; exact ⟨h1, r, h2, hk _ h3⟩
  ·exact h
 | pureC =>
  simp only at *;split at h
  ·split at h
   ·rename_i hf;obtain ⟨h0, h1, r, h2, h3⟩ := h;exact ⟨h0, h1, r, h2, hk _ h3⟩
   ·exact h.elim
  ·exact h
 | read =>
  simp only at *;split at h
  ·obtain ⟨h1, r, h2, h3⟩ := h; exact ⟨h1, r, h2, hk _ h3⟩
  ·exact h
 | det =>
  simp only at *;split at h
  ·obtain ⟨h1, r, σ0, h2, h3⟩ := h; exact ⟨h1, r, σ0, h2, hk _ h3⟩
  ·exact h
 | readT =>
  simp only at *;split at h
  ·obtain ⟨h1, r, h2, h3⟩ := h; exact ⟨h1, r, h2, hk _ h3⟩
  ·exact h
 | detA =>
  simp only at *;split at h
  ·obtain ⟨h1, r, J, h2, h3⟩ := h; exact ⟨h1, r, J, h2, hk _ h3⟩
  ·exact h
 | pureT =>
  simp only at *;split at h
  ·obtain ⟨h0, h1, r, h2, h3⟩ := h; exact ⟨h0, h1, r, h2, hk _ h3⟩
  ·exact h
 | detT =>
  simp only at *;split at h
  ·obtain ⟨h0, h1, r, σ0, h2, h3⟩ := h; exact ⟨h0, h1, r, σ0, h2, hk _ h3⟩
  ·exact h
theorem vF {c : Cfg} {all : List Oper} {ks : List DK} {st : St} {K : St → Prop} : gQ P c all [] ks st K = K st := by unfold gQ; rfl
theorem Ya {c : Cfg} {all r : List Oper} {d : Option Tmp} {op : Op} {ty : TypeId} {pos : String} {after : Array Edge} {j : Nat} {want : Bool} {k : DK} {ks : List DK} {st : St} {K : St → Prop} : gQ P c all (⟨d, op, ty, pos, after, some (j, want)⟩ :: r) (k :: ks) st K =
  (Ho d st ∧ Ks (To all j st want) want (qM P c d op k st (Vv P c all r ks K)) (gQ P c all r ks (st.put d .und) K)) := by
 conv => lhs; unfold gQ
 show (_ ∧ _) = _
 congr 1;simp only;unfold To Ks;split
 ·rename_i t ht;simp only [ht];split
  ·rename_i h; simp [h]; exact fun _ => Iff.rfl
  ·rename_i h; simp [h]
 ·rename_i h; simp [h]
theorem cO {c : Cfg} {all r : List Oper} {d : Option Tmp} {op : Op} {ty : TypeId} {pos : String} {after : Array Edge} {k : DK} {ks : List DK} {st : St} {K : St → Prop} (h : ∀ K' : St → Prop, (∀ s, gQ P c all r ks s K → K' s) → Ho d st ∧ qM P c d op k st K') : gQ P c all (⟨d, op, ty, pos, after, none⟩ :: r) (k :: ks) st K :=
 h _ fun _ h => h
theorem aP {c : Cfg} {all : List Oper} (n : Nat) {r : List Oper} {ks : List DK} {st : St} {K : St → Prop} (hks : n ≤ ks.length) (h : ∀ K' : St → Prop, (∀ s, gQ P c all (r.drop n) (ks.drop n) s K → K' s) → gQ P c all (r.take n) (ks.take n) st K') : gQ P c all r ks st K := by
 have go : ∀ (n : Nat) (r : List Oper) (ks : List DK) (st : St), n ≤ ks.length → gQ P c all (r.take n) (ks.take n) st (fun s => gQ P c all (r.drop n) (ks.drop n) s K) → gQ P c all r ks st K := by
  intro n;induction n with
  | zero => intro r ks st _ h; simp only [List.take_zero, List.drop_zero, vF] at h; exact h
  | succ n ih =>
   intro r ks st hks h;cases ks with
   | nil => simp at hks
   | cons k ks =>
    cases r with
    | nil => simp only [List.take_nil, List.drop_nil, vF] at h ⊢; exact h
    | cons o r =>
     simp only [List.take_succ_cons, List.drop_succ_cons] at h;simp only [List.length_cons] at hks;unfold gQ at h ⊢;refine ⟨h.1, ?_⟩;have h2 := h.2;split at h2
     ·exact Eb (fun s hs => ih r ks s (by omega) hs) h2
     ·split at h2
      ·split at h2
       ·exact ⟨fun hb => Eb (fun s hs => ih r ks s (by omega) hs) (h2.1 hb), fun hb => ih r ks _ (by omega) (h2.2 hb)⟩
       ·exact h2.elim
      ·exact h2.elim
 exact go n r ks st hks (h _ fun _ h => h)
theorem oT {c : Cfg} {all r : List Oper} {ks : List DK} {n : Nat} {l : List (Nat × Slot)} {loc obj : List (List D)} {K : St → Prop} (t : Nat) {s : Slot} (hs : cV l t = s)
  (h : qB s.toD (gQ P c all r ks (St.mk' n ((t, .d (.bool true)) :: l) loc obj) K) (gQ P c all r ks (St.mk' n ((t, .d (.bool false)) :: l) loc obj) K)) : gQ P c all r ks (St.mk' n l loc obj) K := by
 unfold qB at h;split at h
 ·rename_i b hb;have hs' : cV l t = .d (.v (.bool b)) := by
   rw [hs];cases s with
   | d d => simp only [Slot.toD] at hb; rw [hb]
   | lref n o => simp [Slot.toD] at hb
  rw [wQ hs'];cases b
  ·exact h.2 rfl
  ·exact h.1 rfl
 ·exact h.elim
def jU : List Nat → List (Nat × Slot) → List (Nat × Slot)
 | _, [] => []
 | W, (t, s) :: r => if W.contains t then jU W r else (t, s) :: jU (t :: W) r
theorem Yn (n : Nat) (s : Slot) : Cc n s (.d .any) = True := by
 unfold Cc; split <;> simp_all
theorem aDu (n : Nat) (x : D) : Cc n (.d x) (.d x) = True := by
 cases x with
 | sl o es => cases o <;> simp [Cc]
 | _ => simp [Cc]
theorem aAa (n : Nat) (es : List D) : Cc n (.d (.sl true es)) (.d (.sl false es)) = True := by
 unfold Cc; simp
theorem Rr (n m o : Nat) : Cc n (.lref m o) (.lref m o) = (m < n) := by
 unfold Cc; simp
def pU (n : Nat) (env : Nat → Slot) : List (Nat × Slot) → Prop
 | [] => True
 | (a, s) :: r => Cc n (env a) s ∧ pU n env r
theorem Nv (n : Nat) (env : Nat → Slot) : pU n env [] = True := rfl
theorem Hg (n : Nat) (env : Nat → Slot) (a : Nat) (s : Slot) (r : List (Nat × Slot)) : pU n env ((a, s) :: r) = (Cc n (env a) s ∧ pU n env r) := rfl
theorem lA {n : Nat} {env : Nat → Slot} : ∀ {l : List (Nat × Slot)}, pU n env l → ∀ p ∈ l, Cc n (env p.1) p.2
 | [], _, p, hp => by simp at hp
 | (a, s) :: r, h, p, hp => by
  rcases List.mem_cons.1 hp with rfl | hp
  ·exact h.1
  ·exact lA h.2 p hp
theorem aV {st : St} {n : Nat} {l : List (Nat × Slot)} {loc obj : List (List D)} (hn : st.n = n) (hl : pU loc.length st.env l) (hloc : loc <+: st.loc) (hobj : st.obj = obj) : Weak st (St.mk' n l loc obj) :=
 uZ hn (lA hl) hloc hobj
theorem bV {α : Type} {n : Nat} {l l2 : List (Nat × Slot)} {loc obj : List (List D)} (F : α → List (Nat × Slot)) (W : List Nat) (p : α → Prop) (m : α → Nat) (x0 : α) {body : Code} {Q : Exit → St → Prop}
  (hl : jU W l = l2) (hF : pU loc.length (cV l) (F x0 ++ l2)) (hp : p x0)
  (h : ∀ x, p x → fV P body (uF (fun x => St.mk' n (F x ++ l2) loc obj) p m x Q) (St.mk' n (F x ++ l2) loc obj)) : fV P (.loop body) Q (St.mk' n l loc obj) :=
 vE (fun x => St.mk' n (F x ++ l2) loc obj) p m x0 (uZ rfl (lA hF) (List.prefix_refl _) rfl) hp h
theorem sT {α : Type} {n : Nat} {l l2 : List (Nat × Slot)} {loc obj : List (List D)} (F : α → List (Nat × Slot)) (G : α → List (List D)) (W : List Nat) (p : α → Prop) (m : α → Nat) (x0 : α) {body : Code} {Q : Exit → St → Prop}
  (hl : jU W l = l2) (hF : pU (G x0).length (cV l) (F x0 ++ l2)) (hG : G x0 = loc) (hp : p x0)
  (h : ∀ x, p x → fV P body (uF (fun x => St.mk' n (F x ++ l2) (G x) obj) p m x Q) (St.mk' n (F x ++ l2) (G x) obj)) : fV P (.loop body) Q (St.mk' n l loc obj) :=
 vE (fun x => St.mk' n (F x ++ l2) (G x) obj) p m x0 (uZ rfl (lA hF) (by rw [hG]; exact List.prefix_refl _) rfl) hp h
theorem jK {α : Type} {n : Nat} {l l2 : List (Nat × Slot)} {loc obj : List (List D)} (F : α → List (Nat × Slot)) (G H : α → List (List D)) (W : List Nat) (p : α → Prop) (m : α → Nat) (x0 : α) {body : Code} {Q : Exit → St → Prop}
  (hl : jU W l = l2) (hF : pU (G x0).length (cV l) (F x0 ++ l2)) (hG : G x0 = loc) (hH : H x0 = obj) (hp : p x0)
  (h : ∀ x, p x → fV P body (uF (fun x => St.mk' n (F x ++ l2) (G x) (H x)) p m x Q) (St.mk' n (F x ++ l2) (G x) (H x))) : fV P (.loop body) Q (St.mk' n l loc obj) :=
 vE (fun x => St.mk' n (F x ++ l2) (G x) (H x)) p m x0 (uZ rfl (lA hF) (by rw [hG]; exact List.prefix_refl _) hH.symm) hp h
theorem bB {α : Type} {S : α → St} {p : α → Prop} {m : α → Nat} {x : α} {Q : Exit → St → Prop} {s : St} (y : α) (hp : p y) (hm : m y < m x) (hw : Weak s (S y)) : uF S p m x Q .normal s := ⟨y, hp, hm, hw⟩
def Uu {α : Type} (S : α → St) (p : α → Prop) (Q : Exit → St → Prop) : Exit → St → Prop
 | .normal, s => ∃ y, p y ∧ Weak s (S y)
 | e, s => Q e s
theorem Tw {α : Type} (S : α → St) (p : α → Prop) {a b : Code} {Q : Exit → St → Prop} {st : St} (h1 : fV P a (Uu S p Q) st) (h2 : ∀ x, p x → fV P b Q (S x)) : fV P (.seq a b) Q st := by
 refine aE (Vx h1 fun e s h => ?_);cases e with
 | normal => obtain ⟨y, hy, hw⟩ := h; exact Tk hw (h2 y hy)
 | _ => exact h
theorem Av {α : Type} {S : α → St} {p : α → Prop} {Q : Exit → St → Prop} {s : St} (y : α) (hp : p y) (hw : Weak s (S y)) : Uu S p Q .normal s := ⟨y, hp, hw⟩
theorem Ir (n : Nat) : D.strip (.mref n) = .mref n := rfl
theorem Zy (n : Nat) : D.s1 (.mref n) = .mref n := rfl
theorem Yp (n : Nat) : D.s2 (.mref n) = .mref n := rfl
theorem Gz (n : Nat) : D.plain (.mref n) = true := rfl
theorem Gw (n : Nat) : D.solid (.mref n) = true := rfl
theorem Cr (n : Nat) : D.ncells (.mref n) = 1 := rfl
theorem Ix (n : Nat) : D.cells (.mref n) = [.mref n] := rfl
theorem Oy (n a b : Nat) (l : List Nat) : D.strip (.mit n a l b) = .any := rfl
theorem aCu (n a b : Nat) (l : List Nat) : D.s1 (.mit n a l b) = .any := rfl
theorem aCc (n a b : Nat) (l : List Nat) : D.s2 (.mit n a l b) = .any := rfl
theorem Ov (n a b : Nat) (l : List Nat) : D.plain (.mit n a l b) = true := rfl
theorem Lz (n a b : Nat) (l : List Nat) : D.solid (.mit n a l b) = false := rfl
theorem Rd (n c : Nat) (kd : TypeDesc) (kvs : List (Value × Nat × D)) : D.strip (.mp n kd c kvs) = .mref n := rfl
theorem aDq (n c : Nat) (kd : TypeDesc) (kvs : List (Value × Nat × D)) : D.s1 (.mp n kd c kvs) = .mref n := rfl
theorem aEd (n c : Nat) (kd : TypeDesc) (kvs : List (Value × Nat × D)) : D.s2 (.mp n kd c kvs) = .mref n := rfl
theorem Tp (n c : Nat) (kd : TypeDesc) (kvs : List (Value × Nat × D)) : D.plain (.mp n kd c kvs) = true := rfl
theorem Px (n c : Nat) (kd : TypeDesc) (kvs : List (Value × Nat × D)) : D.solid (.mp n kd c kvs) = true := rfl
theorem Od (n c : Nat) (kd : TypeDesc) (kvs : List (Value × Nat × D)) : D.ncells (.mp n kd c kvs) = 1 := rfl
theorem Qd (n c : Nat) (kd : TypeDesc) (kvs : List (Value × Nat × D)) : D.cells (.mp n kd c kvs) = [.mp n kd c kvs] := rfl
theorem Ol (t : TypeId) (d : D) : D.strip (.ifc t d) = .ifc t d := rfl
theorem aBe (t : TypeId) (d : D) : D.s1 (.ifc t d) = .ifc t d := rfl
theorem aBc (t : TypeId) (d : D) : D.s2 (.ifc t d) = .ifc t d := rfl
theorem Mp (t : TypeId) (d : D) : D.plain (.ifc t d) = true := rfl
theorem Pg (t : TypeId) (d : D) : D.solid (.ifc t d) = true := rfl
theorem Il (t : TypeId) (d : D) : D.ncells (.ifc t d) = 1 := rfl
theorem Nn (t : TypeId) (d : D) : D.cells (.ifc t d) = [.ifc t d] := rfl
theorem Uq (n : Nat) : D.arr (.mref n) = true := rfl
attribute [simp] Oy aCu aCc Ov Lz mW qI mN aAr Ir Zy Yp Gz Gw Cr Ix Rd aDq aEd Tp Px Od Qd Ol aBe aBc Mp Pg Il Nn Uq
theorem Pj (n a b c : Nat) : D.strip (.slo n a b c) = .slo n a b c := rfl
theorem So (n : Nat) : D.strip (.xl n) = .xl n := rfl
theorem Qq (k : Nat) (es : List D) : D.strip (.xs k es) = .xl es.length := rfl
theorem aA1 (n a b c : Nat) : D.s2 (.slo n a b c) = .slo n a b c := rfl
theorem aDf (n : Nat) : D.s2 (.xl n) = .xl n := rfl
theorem aEc (k : Nat) (es : List D) : D.s2 (.xs k es) = .xl es.length := rfl
theorem aBz (f : Go.Fn) (a b : List D) : D.s2 (.clo f a b) = .clo f a b := rfl
theorem aCr (n a b c : Nat) : D.s1 (.slo n a b c) = .slo n a b c := rfl
theorem aDx (n : Nat) : D.s1 (.xl n) = .xl n := rfl
theorem aDv (k : Nat) (es : List D) : D.s1 (.xs k es) = .xl es.length := rfl
theorem aAw (f : Go.Fn) (a b : List D) : D.s1 (.clo f a b) = .clo f a b := rfl
theorem Oo (n a b c : Nat) : D.plain (.slo n a b c) = true := rfl
theorem Tt (n : Nat) : D.plain (.xl n) = true := rfl
theorem Vl (k : Nat) (es : List D) : D.plain (.xs k es) = true := rfl
theorem Oz (n a b c : Nat) : D.solid (.slo n a b c) = true := rfl
theorem Wg (n : Nat) : D.solid (.xl n) = true := rfl
theorem Us (k : Nat) (es : List D) : D.solid (.xs k es) = true := rfl
theorem Gj (n a b c : Nat) : D.ncells (.slo n a b c) = 1 := rfl
theorem Pc (n : Nat) : D.ncells (.xl n) = 1 := rfl
theorem Mo (k : Nat) (es : List D) : D.ncells (.xs k es) = 1 := rfl
theorem Mm (n a b c : Nat) : D.cells (.slo n a b c) = [.slo n a b c] := rfl
theorem Sh (n : Nat) : D.cells (.xl n) = [.xl n] := rfl
theorem Wi (k : Nat) (es : List D) : D.cells (.xs k es) = [.xs k es] := rfl
theorem aDs (x : Value) : D.arr (.v x) = true := rfl
theorem aBv (es : List D) : D.arr (.sl false es) = true := rfl
theorem Xu (cs : List D) : D.arr (.agg cs) = cs.all D.flat := rfl
theorem aBx (x : Value) : D.flat (.v x) = true := rfl
theorem Yi (es : List D) : D.flat (.sl false es) = true := rfl
theorem Ug (n o : Nat) : D.flat (.ref n o) = true := rfl
def sQ : List (Nat × List D) → List (List D) → List (List D)
 | [], l => l
 | (n, c) :: r, l => (sQ r l).set n c
theorem lX (l : List (List D)) : sQ [] l = l := rfl
theorem kI (n : Nat) (c : List D) (r : List (Nat × List D)) (l : List (List D)) : sQ ((n, c) :: r) l = (sQ r l).set n c := rfl
theorem lZ {P : Program} {α : Type} {n : Nat} {l l2 : List (Nat × Slot)} {loc obj : List (List D)} (F : α → List (Nat × Slot)) (M N : α → List (Nat × List D)) (W : List Nat) (p : α → Prop) (m : α → Nat) (x0 : α) {body : Code} {Q : Exit → St → Prop}
  (hl : jU W l = l2) (hF : pU (sQ (M x0) loc).length (cV l) (F x0 ++ l2)) (hG : sQ (M x0) loc = loc) (hH : sQ (N x0) obj = obj) (hp : p x0)
  (h : ∀ x, p x → fV P body (uF (fun x => St.mk' n (F x ++ l2) (sQ (M x) loc) (sQ (N x) obj)) p m x Q) (St.mk' n (F x ++ l2) (sQ (M x) loc) (sQ (N x) obj))) : fV P (.loop body) Q (St.mk' n l loc obj) :=
 jK F (fun x => sQ (M x) loc) (fun x => sQ (N x) obj) W p m x0 hl hF hG hH hp h
theorem Lt {α : Type} (l : List α) (a : α) : (l ++ [a])[l.length]? = some a := by simp
theorem iY {α : Type} (l : List α) (a b : α) : (l ++ [a]).set l.length b = l ++ [b] := by simp
def qP : List Nat → List (Nat × Slot) → List (Nat × Slot)
 | [], _ => []
 | t :: r, l => (t, cV l t) :: qP r l
theorem Mj (l : List (Nat × Slot)) : qP [] l = [] := rfl
theorem vD (t : Nat) (r : List Nat) (l : List (Nat × Slot)) : qP (t :: r) l = (t, cV l t) :: qP r l := rfl
theorem yS (l : List (Nat × Slot)) (u : Nat) : ∀ K : List Nat, cV (qP K l) u = cV l u ∨ cV (qP K l) u = .any
 | [] => .inr rfl
 | t :: r => by
  rw [vD, kV];split
  ·rename_i h; subst h; exact .inl rfl
  ·exact yS l u r
theorem Su {P : Program} (K : List Nat) {l2 : List (Nat × Slot)} {c : Code} {n : Nat} {l : List (Nat × Slot)} {loc obj : List (List D)} {Q : Exit → St → Prop} (hl : qP K l = l2) (h : fV P c Q (St.mk' n l2 loc obj)) : fV P c Q (St.mk' n l loc obj) := by
 subst hl;intro w0 g0 w g tmps hf hok hn;refine h w0 g0 w g tmps hf ⟨hok.mem, hok.xlt, fun t => ?_, hok.ll, hok.loc, hok.ol, hok.obj⟩ hn;have hs := hok.slot t;show SlotOk w g t (cV (qP K l) t) _
 rcases yS l t K with e | e
 ·rw [e]; exact hs
 ·rw [e]; exact ⟨.any _, .flat _ _ _ rfl⟩
theorem jJ {P : Program} (ts k : Nat) {es : List D} {c : Code} {n : Nat} {l : List (Nat × Slot)} {loc obj : List (List D)} {Q : Exit → St → Prop} (hs : cV l ts = .d (.xs k es)) (hk0 : 0 < k)
  (h : ∀ (cap : Nat) (rest : List D), es.length ≤ cap → cap ≤ maxLen → rest.length = (cap - es.length) * k → 0 < k → (∀ d ∈ es, d.ncells = k ∧ d.arr = true) → fV P c Q (St.mk' n ((ts, .d (.slo obj.length 0 es.length cap)) :: l) loc (obj ++ [es.flatMap D.cells ++ rest]))) : fV P c Q (St.mk' n l loc obj) := by
 intro w0 g0 w g tmps hf hok hn;obtain ⟨cap, rest, g', a1, a2, a3, a4, a5, _, hfr, hok'⟩ := hok.openX ts k es hs hk0;exact h cap rest a1 a2 a3 a4 a5 w0 g0 w g' tmps (hf.trans hfr) hok' hn
theorem iH {P : Program} (ts k : Nat) {es : List D} {c : Code} {n : Nat} {l : List (Nat × Slot)} {loc obj : List (List D)} {Q : Exit → St → Prop} (hs : cV l ts = .d (.xs k es)) (hk0 : 0 < k)
  (h : ∀ (cap : Nat) (rest : List D), es.length ≤ cap → cap ≤ maxLen → rest = List.replicate ((cap - es.length) * k) .any → 0 < k → (∀ d ∈ es, d.ncells = k ∧ d.arr = true) → fV P c Q (St.mk' n ((ts, .d (.slo obj.length 0 es.length cap)) :: l) loc (obj ++ [es.flatMap D.cells ++ rest]))) : fV P c Q (St.mk' n l loc obj) := by
 intro w0 g0 w g tmps hf hok hn;obtain ⟨cap, rest, g', a1, a2, a3, a4, a5, _, hfr, hok'⟩ := hok.openX2 ts k es hs hk0;exact h cap rest a1 a2 a3 a4 a5 w0 g0 w g' tmps (hf.trans hfr) hok' hn
theorem dC {P : Program} (ts k m len cap : Nat) (es cs : List D) {c : Code} {n : Nat} {l : List (Nat × Slot)} {loc obj : List (List D)} {Q : Exit → St → Prop} (hs : cV l ts = .d (.slo m 0 len cap)) (hm : obj[m]? = some cs) (hk : 0 < k) (hcs : cs.length = cap * k) (hl : es.length = len)
  (hes : ∀ d ∈ es, d.ncells = k ∧ d.arr = true) (he : es.flatMap D.cells <+: cs) (h : fV P c Q (St.mk' n ((ts, .d (.xs k es)) :: l) loc (obj.set m []))) : fV P c Q (St.mk' n l loc obj) := by
 intro w0 g0 w g tmps hf hok hn;obtain ⟨g', _, hfr, hok'⟩ := hok.closeX ts k m len cap es cs hs hm hk hcs hl hes he;exact h w0 g0 w g' tmps (hf.trans hfr) hok' hn
theorem Py {α : Type} (f : α → D) (l : List α) (k : Nat) (h : k < l.length) : (l.map f).getD k .any = f l[k] := by
 simp [List.getD, h]
theorem xS {α : Type} (f : α → D) (l : List α) (k : Nat) (h : k < l.length) : (l.map f)[k]? = some (f l[k]) := by
 simp [h]
theorem Zo (n : Int) : Pr .i64 n = (-9223372036854775808 ≤ n ∧ n ≤ 9223372036854775807) := by
 unfold Pr;rfl
theorem aBp (n : Int) : Pr .u8 n = (0 ≤ n ∧ n ≤ 255) := by
 unfold Pr;rfl
end
theorem Uy : Ab [] = true := rfl
theorem Of (r : List (Option Holder)) : Ab (none :: r) = Ab r := by simp [Ab]
theorem Mg (h : Holder) (r : List (Option Holder)) : Ab (some h :: r) = (!r.contains (some h) && Ab r) := by
 simp only [Ab, List.filterMap_cons, id, List.nodup_cons, Bool.decide_and, List.contains_eq_mem];congr 1;rw [← decide_not];congr 1;simp [List.mem_filterMap]
theorem Lp : maxLen = 9223372036854775807 := rfl
theorem Zc (n : Nat) (l : List (Nat × Slot)) (loc obj : List (List D)) : ({ n := n, env := cV l, loc := loc, obj := obj } : St) = St.mk' n l loc obj := rfl
def sE : Slot → Slot
 | .d x => .d x.strip
 | s => s
def iS : List Nat → List (Nat × Slot) → List (Nat × Slot)
 | [], l => l
 | t :: r, l => (t, sE (cV l t)) :: iS r l
theorem tZ (l : List (Nat × Slot)) (u : Nat) : ∀ ts : List Nat, cV (iS ts l) u = if u ∈ ts then sE (cV l u) else cV l u
 | [] => by simp [iS]
 | t :: r => by
  rw [iS, kV, tZ l u r];by_cases h : u = t
  ·subst h; simp
  ·simp [h]
theorem jZ (l : List (Nat × Slot)) (ts : List (Option Nat)) : dR ts (cV l) = cV (iS (ts.filterMap id) l) := by
 funext u;rw [tZ];by_cases h : some u ∈ ts
 ·have h1 : ts.contains (some u) = true := by simpa using h
  have h2 : u ∈ ts.filterMap id := by simpa using h
  simp only [dR, h1, if_true, if_pos h2, sE];split <;> simp_all
 ·have h1 : ts.contains (some u) = false := by simpa using h
  have h2 : ¬ u ∈ ts.filterMap id := by simpa using h
  simp only [dR, h1, if_neg h2]; rfl
theorem Ig {P : Program} {d : Nat} {f : FuncId} {args : List Operand} {n : Nat} {l : List (Nat × Slot)} {loc obj : List (List D)} {K : St → Prop} : iW P (some d) f args (St.mk' n l loc obj) K =
  ((args.filterMap bS).Nodup ∧ (∀ x ∈ args, pN ((St.mk' n l loc obj).rdS x) = true ∧ ((St.mk' n l loc obj).rd x).plain = true) ∧
   Ct P f (args.map (nE (St.mk' n l loc obj))) obj (fun r σ' => K (St.mk' n ((d, .d r) :: iS (args.filterMap bS) l) loc σ'))) := by
 unfold iW;have e : (args.map bS).filterMap id = args.filterMap bS := by rw [List.filterMap_map]; rfl
 simp only [uW, vA, uY, Ka, jZ, e];rfl
theorem Fg (l : List (Nat × Slot)) : iS [] l = l := rfl
theorem Bt (t : Nat) (r : List Nat) (l : List (Nat × Slot)) : iS (t :: r) l = (t, sE (cV l t)) :: iS r l := rfl
theorem Ur (x : D) : sE (.d x) = .d x.strip := rfl
theorem Ff (a b : Nat) : sE (.lref a b) = .lref a b := rfl
theorem Nf : List.filterMap bS [] = [] := rfl
theorem Mf (t : Tmp) (r : List Operand) : List.filterMap bS (.tmp t :: r) = t :: List.filterMap bS r := rfl
theorem Fh (v : Value) (r : List Operand) : List.filterMap bS (.const v :: r) = List.filterMap bS r := rfl
theorem Gf (v : FuncId) (r : List Operand) : List.filterMap bS (.func v :: r) = List.filterMap bS r := rfl
theorem An {P : Program} {c : Cfg} {d : Nat} {f : FuncId} {args : Array Operand} {ts : Array TypeId} {n : Nat} {l : List (Nat × Slot)} {loc obj : List (List D)} {K : St → Prop} :
  qM P c (some d) (.call ⟨.value (.func f), args, ts⟩) .pureT (St.mk' n l loc obj) K =
  ((args.toList.filterMap bS).Nodup ∧ (∀ x ∈ args.toList, pN ((St.mk' n l loc obj).rdS x) = true ∧ ((St.mk' n l loc obj).rd x).plain = true) ∧
   ∃ r, (∀ σ, Ct P f (args.toList.map (nE (St.mk' n l loc obj))) σ fun r' σ' => r' = r ∧ σ' = σ) ∧ K (St.mk' n ((d, .d r) :: iS (args.toList.filterMap bS) l) loc obj)) := by
 have e : (args.toList.map bS).filterMap id = args.toList.filterMap bS := by rw [List.filterMap_map]; rfl
 simp only [qM, uW, vA, uY, Ka, jZ, e];rfl
theorem Fa {P : Program} {c : Cfg} {d : Nat} {f : FuncId} {args : Array Operand} {ts : Array TypeId} {n : Nat} {l : List (Nat × Slot)} {loc obj : List (List D)} {K : St → Prop} :
  qM P c (some d) (.call ⟨.value (.func f), args, ts⟩) .detT (St.mk' n l loc obj) K =
  ((args.toList.filterMap bS).Nodup ∧ (∀ x ∈ args.toList, pN ((St.mk' n l loc obj).rdS x) = true ∧ ((St.mk' n l loc obj).rd x).plain = true) ∧
   ∃ r σ0, (Ct P f (args.toList.map (nE (St.mk' n l loc obj))) obj fun r' σ' => r' = r ∧ σ' = σ0) ∧ K (St.mk' n ((d, .d r) :: iS (args.toList.filterMap bS) l) loc σ0)) := by
 have e : (args.toList.map bS).filterMap id = args.toList.filterMap bS := by rw [List.filterMap_map]; rfl
 simp only [qM, uW, vA, uY, Ka, jZ, e];rfl
theorem aA5 {P : Program} {c : Cfg} {d : Option Tmp} {op : Op} {f : Fl} {st : St} {K : St → Prop} : qM P c d op (.op f) st K = (gA op = false ∧ jA c d st op = f ∧ eJ P c d op st K) := rfl
theorem Pz {P : Program} {c : Cfg} {d : Option Tmp} {f : FuncId} {args : Array Operand} {ts : Array TypeId} {st : St} {K : St → Prop} : qM P c d (.call ⟨.value (.func f), args, ts⟩) .pure st K =
  (gY args.toList st ∧ ∃ r, (∀ σ, Ct P f (dP args.toList st) σ fun r' σ' => r' = r ∧ σ' = σ) ∧ K (st.put d (.d r))) := rfl
def aD0 (P : Program) (dst : Option Tmp) (d : D) (args : List Operand) (st : St) (K : St → Prop) : Prop := match d with
 | .clo (.func fid) first caps => (∀ d ∈ first ++ caps, d.plain = true) ∧ gY args st ∧ ∃ r, (∀ σ, Ct P fid (first.map D.strip ++ dP args st ++ caps.map D.strip) σ fun r' σ' => r' = r ∧ σ' = σ) ∧ K (st.put dst (.d r))
 | _ => False
theorem Mz {P : Program} {c : Cfg} {d : Option Tmp} {f : Operand} {args : Array Operand} {ts : Array TypeId} {st : St} {K : St → Prop} : qM P c d (.call ⟨.value f, args, ts⟩) .pureC st K = aD0 P d (st.rd f) args.toList st K := rfl
theorem Xp {P : Program} {dst : Option Tmp} {fid : FuncId} {first caps : List D} {args : List Operand} {st : St} {K : St → Prop} : aD0 P dst (.clo (.func fid) first caps) args st K = ((∀ d ∈ first ++ caps, d.plain = true) ∧ gY args st ∧ ∃ r, (∀ σ, Ct P fid (first.map D.strip ++ dP args st ++ caps.map D.strip) σ fun r' σ' => r' = r ∧ σ' = σ) ∧ K (st.put dst (.d r))) := rfl
theorem Tb {P : Program} {c : Cfg} {d : Option Tmp} {f : FuncId} {args : Array Operand} {ts : Array TypeId} {st : St} {K : St → Prop} : qM P c d (.call ⟨.value (.func f), args, ts⟩) .read st K =
  (gY args.toList st ∧ ∃ r, (Ct P f (dP args.toList st) st.obj fun r' σ' => r' = r ∧ σ' = st.obj) ∧ K (st.put d (.d r))) := rfl
theorem Oh {P : Program} {c : Cfg} {d : Option Tmp} {f : FuncId} {args : Array Operand} {ts : Array TypeId} {st : St} {K : St → Prop} : qM P c d (.call ⟨.value (.func f), args, ts⟩) .readT st K =
  (gY args.toList st ∧ ∃ r, (∀ J, Ct P f (dP args.toList st) (st.obj ++ J) fun r' σ' => r' = r ∧ σ' = st.obj ++ J) ∧ K (st.put d (.d r))) := rfl
theorem Ub {P : Program} {c : Cfg} {d : Option Tmp} {f : FuncId} {args : Array Operand} {ts : Array TypeId} {st : St} {K : St → Prop} : qM P c d (.call ⟨.value (.func f), args, ts⟩) .detA st K =
  (gY args.toList st ∧ ∃ r J, (Ct P f (dP args.toList st) st.obj fun r' σ' => r' = r ∧ σ' = st.obj ++ J) ∧ K (({ st with obj := st.obj ++ J } : St).put d (.d r))) := rfl
theorem Xv {P : Program} {c : Cfg} {d : Option Tmp} {f : FuncId} {args : Array Operand} {ts : Array TypeId} {st : St} {K : St → Prop} : qM P c d (.call ⟨.value (.func f), args, ts⟩) .det st K =
  (gY args.toList st ∧ ∃ r σ0, (Ct P f (dP args.toList st) st.obj fun r' σ' => r' = r ∧ σ' = σ0) ∧ K (({ st with obj := σ0 } : St).put d (.d r))) := rfl
theorem Zk {P : Program} {t : Nat} {a b : Code} {s : Slot} {n : Nat} {l : List (Nat × Slot)} {loc obj : List (List D)} {Q : Exit → St → Prop} (hs : cV l t = s)
  (h : qB s.toD (fV P a Q (St.mk' n ((t, .d (.bool true)) :: l) loc obj)) (fV P b Q (St.mk' n ((t, .d (.bool false)) :: l) loc obj))) : fV P (.cond (.tmp t) a b) Q (St.mk' n l loc obj) := by
 unfold qB at h;split at h
 ·rename_i v hv;have hs' : cV l t = .d (.v (.bool v)) := by
   rw [hs];cases s with
   | d d => simp only [Slot.toD] at hv; rw [hv]
   | lref n o => simp [Slot.toD] at hv
  rw [wQ hs'];cases v with
  | true => exact bQ (t := true) (by simp [St.rd, St.rdS, kV, St.mk']) (fun _ => h.1 rfl) (fun h => by cases h)
  | false => exact bQ (t := false) (by simp [St.rd, St.rdS, kV, St.mk']) (fun h => by cases h) (fun _ => h.2 rfl)
 ·exact h.elim
def kP (o : Oper) : Oper := ⟨o.dst, o.op, 0, "", #[], o.guard⟩
theorem jT : List.map kP [] = [] := rfl
theorem iQ (d : Option Tmp) (op : Op) (ty : TypeId) (pos : String) (after : Array Edge) (g : Option (Nat × Bool)) (r : List Oper) : List.map kP (⟨d, op, ty, pos, after, g⟩ :: r) = ⟨d, op, 0, "", #[], g⟩ :: List.map kP r := rfl
theorem xK {P : Program} {c : Cfg} {all : List Oper} {K : St → Prop} : ∀ (r : List Oper) (st : St), kK P c all (r.map kP) st K = kK P c all r st K
 | [], _ => rfl
 | o :: r, st => by
  have ih : (fun st' => kK P c all (r.map kP) st' K) = fun st' => kK P c all r st' K := funext fun st' => xK r st';show kK P c all (kP o :: r.map kP) st K = _
  unfold kK;simp only [kP, ih];split
  ·rfl
  ·split
   ·split
    ·rw [xK r]; rfl
    ·rfl
   ·rfl
theorem tM {P : Program} {c : Cfg} {all : List Oper} {K : St → Prop} : ∀ (r : List Oper) (ks : List DK) (st : St), gQ P c all (r.map kP) ks st K = gQ P c all r ks st K
 | [], _, _ => rfl
 | _ :: _, [], _ => rfl
 | o :: r, k :: ks, st => by
  have ih : (fun st' => gQ P c all (r.map kP) ks st' K) = fun st' => gQ P c all r ks st' K := funext fun st' => tM r ks st';show gQ P c all (kP o :: r.map kP) (k :: ks) st K = _
  unfold gQ;simp only [kP, ih];congr 1;split
  ·rfl
  ·split
   ·split
    ·rw [tM r]
    ·rfl
   ·rfl
theorem lF {P : Program} {c : Cfg} {id : Nat} {ops ops' : List Oper} {Q : Exit → St → Prop} {st : St} (he : ops.map kP = ops') (h : ∀ all : List Oper, (∀ j, aT all j = aT ops j) → ∀ K : St → Prop, (∀ s, Q .normal s → K s) → kK P c all ops' st K) : fV P (.region id ops.toArray false) Q st :=
 In fun K hK => by
  have := h ops (fun _ => rfl) K hK
  rwa [← he, xK] at this
theorem zE {P : Program} {c : Cfg} {id : Nat} {ops ops' : List Oper} (ks : List DK) {Q : Exit → St → Prop} {st : St} (hm : P.follows .mixedOrders = true) (hok : qD c ops ks = true) (he : ops.map kP = ops')
  (h : ∀ all : List Oper, (∀ j, aT all j = aT ops j) → ∀ K : St → Prop, (∀ s, Q .normal s → K s) → gQ P c all ops' ks st K) : fV P (.region id ops.toArray true) Q st :=
 Qz ks hm hok fun K hK => by
  have := h ops (fun _ => rfl) K hK
  rwa [← he, tM] at this
def Hi : D → Prop
 | .v (.slice none 0 0) => True
 | _ => False
def rS (x y : D) : Prop := y = x ∨ (x.plain = true ∧ y = x.strip) ∨ (Hi x ∧ (y = .sl false [] ∨ y = .sl true []))
theorem Hu : Hi (.v (.slice none 0 0)) = True := rfl
def gG : List D → List D → Prop
 | [], [] => True
 | a :: r, b :: q => rS a b ∧ gG r q
 | _, _ => False
theorem dB {a b : List D} (h : a = b) : gG a b := by
 subst h;induction a with
 | nil => trivial
 | cons x r ih => exact ⟨.inl rfl, ih⟩
theorem wJ : ∀ {a b : List D}, gG a b → a.length = b.length
 | [], [], _ => rfl
 | _ :: _, _ :: _, h => by simp [wJ h.2]
 | [], _ :: _, h => h.elim
 | _ :: _, [], h => h.elim
theorem vM : ∀ {a b : List D}, gG a b → ∀ (i : Nat) (y : D), b[i]? = some y → ∃ x, a[i]? = some x ∧ rS x y
 | x :: _, _ :: _, h, 0, y, hy => by simp at hy; subst hy; exact ⟨x, rfl, h.1⟩
 | _ :: _, _ :: _, h, i + 1, y, hy => by simpa using vM h.2 i y (by simpa using hy)
 | [], [], _, _, _, hy => by simp at hy
 | [], _ :: _, h, _, _, _ => h.elim
 | _ :: _, [], h, _, _, _ => h.elim
theorem Ct.of_le {P : Program} {f : FuncId} {a a' : List D} {σ σ' : List (List D)} {Q : D → List (List D) → Prop} (h : Ct P f a σ Q) (e : gG a' a) (e2 : σ' = σ) : Ct P f a' σ' Q := by
 subst e2;refine ⟨h.1, fun w g vs hs hb ho => h.2 w g vs (by rw [hs, wJ e]) hb ⟨ho.mem, ho.xlt, fun t => ?_, ho.ll, ho.loc, ho.ol, ho.obj⟩⟩;have hsl := ho.slot t;simp only [St.ofArgs] at hsl ⊢;unfold dI at hsl ⊢;cases hy : a[t]? with
 | none => exact ⟨.any _, .flat _ _ _ rfl⟩
 | some y =>
  obtain ⟨x, hx, hle⟩ := vM e t y hy;rw [hx] at hsl;rcases hle with rfl | ⟨hp, rfl⟩ | ⟨hn, hy⟩
  ·exact hsl
  ·exact kE hsl.1 hp t
  ·have hxn : x = .v (.slice none 0 0) := by
    unfold Hi at hn;split at hn
    ·rfl
    ·exact hn.elim
   subst hxn;obtain ⟨hr, _⟩ := hsl;have hv := hr.vEq;rcases hy with rfl | rfl
   ·exact ⟨by rw [hv]; exact .nil _, .flat _ _ _ rfl⟩
   ·exact ⟨by rw [hv]; exact .nil _, .sl _ _ _ (.inl ⟨_, _, hv⟩)⟩
theorem qQ : ∀ (sets : List (Nat × Slot)) (l : List (Nat × Slot)), dH sets (cV l) = cV (sets.reverseAux l)
 | [], l => rfl
 | (a, s) :: r, l => by
  show dH r (fun u => if u = a then s else cV l u) = _
  have : (fun u => if u = a then s else cV l u) = cV ((a, s) :: l) := by funext u; rw [kV]
  rw [this, qQ r]; rfl
theorem aA2 (n : Nat) (l : List (Nat × Slot)) (loc obj : List (List D)) (sets : List (Nat × Slot)) (ob : Option (List (List D))) : (St.mk' n l loc obj).upd ⟨sets, none, ob⟩ = St.mk' n (sets.reverseAux l) loc (ob.getD obj) := by
 show ({ n := n, env := dH sets (cV l), loc := loc, obj := ob.getD obj } : St) = _
 rw [qQ]; rfl
theorem Gt (l : List (Nat × Slot)) : List.reverseAux [] l = l := rfl
theorem Cm (a : Nat × Slot) (r l : List (Nat × Slot)) : List.reverseAux (a :: r) l = List.reverseAux r (a :: l) := rfl
def Pq (R : iK) (K : List (Nat × Slot) → Option (List (List D)) → Prop) : Prop := ∃ sets ob, R sets ob ∧ K sets ob
@[congr] theorem aE3 {R R' : iK} {K : List (Nat × Slot) → Option (List (List D)) → Prop} (h : R = R') : Pq R K = Pq R' K := by rw [h]
theorem aA4 {P : Program} {alt : Bool} {dst : Option Tmp} {op : Op} {st : St} {K : St → Prop} : vcY P alt dst op st K = Pq (fun sets ob => yR P alt dst op st.rdS (if (Ut alt op).rO = true then st.obj else []) sets ob) (fun sets ob => K (st.upd ⟨sets, none, ob⟩)) := rfl
theorem aCp {S : List (Nat × Slot)} {O : Option (List (List D))} {K : List (Nat × Slot) → Option (List (List D)) → Prop} : Pq (fun sets ob => sets = S ∧ ob = O) K = K S O := by
 apply propext;constructor
 ·rintro ⟨_, _, ⟨rfl, rfl⟩, h⟩; exact h
 ·intro h; exact ⟨_, _, ⟨rfl, rfl⟩, h⟩
theorem Yt {C : Prop} {R : iK} {K : List (Nat × Slot) → Option (List (List D)) → Prop} : Pq (fun sets ob => C ∧ R sets ob) K = (C ∧ Pq (fun sets ob => R sets ob) K) := by
 apply propext;constructor
 ·rintro ⟨_, _, ⟨h1, h2⟩, h⟩; exact ⟨h1, _, _, h2, h⟩
 ·rintro ⟨h1, _, _, h2, h⟩; exact ⟨_, _, ⟨h1, h2⟩, h⟩
theorem aAx {α : Type} {R : α → iK} {K : List (Nat × Slot) → Option (List (List D)) → Prop} : Pq (fun sets ob => ∃ x, R x sets ob) K = ∃ x, Pq (fun sets ob => R x sets ob) K := by
 apply propext;constructor
 ·rintro ⟨_, _, ⟨x, h2⟩, h⟩; exact ⟨x, _, _, h2, h⟩
 ·rintro ⟨x, _, _, h2, h⟩; exact ⟨_, _, ⟨x, h2⟩, h⟩
theorem aBi {R S : iK} {K : List (Nat × Slot) → Option (List (List D)) → Prop} : Pq (fun sets ob => R sets ob ∨ S sets ob) K = (Pq (fun sets ob => R sets ob) K ∨ Pq (fun sets ob => S sets ob) K) := by
 apply propext;constructor
 ·rintro ⟨_, _, h1 | h1, h⟩
  ·exact .inl ⟨_, _, h1, h⟩
  ·exact .inr ⟨_, _, h1, h⟩
 ·rintro (⟨_, _, h1, h⟩ | ⟨_, _, h1, h⟩)
  ·exact ⟨_, _, .inl h1, h⟩
  ·exact ⟨_, _, .inr h1, h⟩
theorem aD2 {K : List (Nat × Slot) → Option (List (List D)) → Prop} : Pq (fun _ _ => False) K = False := by
 apply propext;exact ⟨fun ⟨_, _, h, _⟩ => h, False.elim⟩
attribute [simp] aA4 aCp Yt aAx aBi aD2
attribute [simp] aA2 Gt Cm isY tD Ba yR Wv Ww sN yL Nb Ou oP zD Pn Ut Db rC Wp Hu mF mZ pG xP kS sZ oW tP oS zB lU Bool.true_or Bool.false_or
theorem Pi (cs : List D) : D.strip (.tup cs) = .tup (cs.map D.s2) := rfl
attribute [simp] Pi D.plain
theorem aBs (n : Nat) (cs : List D) : oX true n cs = if n ≤ cs.length then some (.agg (cs.take n)) else none := rfl
theorem aBr (n : Nat) (cs : List D) : oX false n cs = cs.head? := rfl
theorem aU (cs : List D) (off : Nat) (ds : List D) : cQ cs off ds = cs.take off ++ ds ++ cs.drop (off + ds.length) := rfl
attribute [simp low] aBs aBr aU
attribute [simp] An Fa aA5 Pz Mz Xp Tb Xv Oh Ub
attribute [simp] Pj So Qq aA1 aDf aEc aBz aCr aDx aDv aAw Oo Tt Vl Oz Wg Us Gj Pc Mo Mm Sh Wi aDs aBv Xu aBx Yi Ug Lt iY lX kI Ig Fg Bt Ur Ff Nf Mf Fh Gf
attribute [simp] Zc List.getElem?_cons_zero Option.bind_some Ka uW vA uY zJ zN Xs Sl Pu Qx Tz Kw Mi Qg aB4 Qi oQ aDj Vy
 Ze Rm Gg Zn Xo Zq Ue Lh Ox Ng Nz Nk aE9 aDw aCo aC4 aBa aCs aFb aD5 aBk aCj aCh
 Xy Ra Po Nr Lo Ph Pb Yh Uk Ow Lk Ni No Ty Na Ha Iv Yx Ws Oe Pl
 dE Wy Rj Wt Oi aBn Wz Wh Sp aAi aAl aAq aCv aA6 aBy aCn Ly aBd aB0 Ya Pv Uh aN eJ Aq Ye cG Ll sV fU lB lS jH eE flX pH xC Ck fD nC uD Yj tV uN fR eT gL mP gP mH mR dN jF zW mT jG
 lI tY oN mL fT iL kL xJ kO nJ gH gY dP nE pN yO St.cellsAt St.park Slot.plus Slot.isAddr Kb D.ofList
 Nv Hg Yn aDu aAa Rr jU Py xS Zo aBp Ri gA jA eZ vF vC sP Uy Of Mg Lp
end Go.Vm

