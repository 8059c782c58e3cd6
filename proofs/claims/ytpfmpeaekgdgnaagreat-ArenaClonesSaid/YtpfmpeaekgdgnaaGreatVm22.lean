import Derived.Test.YtpfmpeaekgdgnaaGreatVm21
namespace Go.Vm
open Go
set_option linter.all false
section
variable {P : Program}
theorem aB {y : Code} {Q : Exit → St → Prop} {s : St} (h : fK P y Q s) : Jx P y Q .normal s := h
theorem bP {y : Code} {Q : Exit → St → Prop} {s : St} {i : Nat} (h : Q (.exit i) s) : Jx P y Q (.exit i) s := h
theorem aJ {y : Code} {Q : Exit → St → Prop} {s : St} (h : Q .ret s) : Jx P y Q .ret s := h
theorem aP {i : Nat} {Q : Exit → St → Prop} {s : St} (h : Q .normal s) : sD i Q .normal s := h
theorem bG {i : Nat} {Q : Exit → St → Prop} {s : St} (h : Q .normal s) : sD i Q (.exit i) s := by simpa [sD] using h
theorem aU {i : Nat} {Q : Exit → St → Prop} {s : St} (h : Q .ret s) : sD i Q .ret s := h
theorem bO {α : Type} {S : α → St} {p : α → Prop} {m : α → Nat} {x : α} {Q : Exit → St → Prop} {s : St} {i : Nat} (h : Q (.exit i) s) : wS S p m x Q (.exit i) s := h
theorem eJ {α : Type} {S : α → St} {p : α → Prop} {m : α → Nat} {x : α} {Q : Exit → St → Prop} {s : St} (h : Q .ret s) : wS S p m x Q .ret s := h
def pX (d : D) (A B : Prop) : Prop := match d with
 | .v (.bool t) => (t = true → A) ∧ (t = false → B)
 | _ => False
theorem aF {c : Cfg} {all r : List Oper} {d : Option Tmp} {op : Op} {ty : TypeId} {pos : String} {after : Array Edge} {st : St} {K : St → Prop} (h : ∀ K' : St → Prop, (∀ s, kL P c all r s K → K' s) → Dn d st ∧ eL P c d op st K') : kL P c all (⟨d, op, ty, pos, after, none⟩ :: r) st K :=
 h _ fun _ h => h
theorem aA {c : Cfg} {all : List Oper} (n : Nat) {r : List Oper} {st : St} {K : St → Prop} (h : ∀ K' : St → Prop, (∀ s, kL P c all (r.drop n) s K → K' s) → kL P c all (r.take n) st K') : kL P c all r st K := by
 have go : ∀ (n : Nat) (r : List Oper) (st : St), kL P c all (r.take n) st (fun s => kL P c all (r.drop n) s K) → kL P c all r st K := by
  intro n;induction n with
  | zero => intro r st h; exact h
  | succ n ih =>
   intro r st h;cases r with
   | nil => exact h
   | cons o r =>
    simp only [List.take_succ_cons, List.drop_succ_cons] at h;unfold kL at h ⊢;split at h
    ·rename_i hg;have hd := h.1;refine ⟨hd, ?_⟩;exact qC (fun s hs => ih r s hs) h.2
    ·rename_i j want hg;split at h
     ·split at h
      ·exact ⟨fun hb => ⟨(h.1 hb).1, qC (fun s hs => ih r s hs) (h.1 hb).2⟩, fun hb => ⟨(h.2 hb).1, ih r _ (h.2 hb).2⟩⟩
      ·exact h.elim
     ·exact h.elim
 exact go n r st (h _ fun _ h => h)
theorem aEb {c : Cfg} {all r : List Oper} {d : Option Tmp} {op : Op} {ty : TypeId} {pos : String} {after : Array Edge} {j t : Nat} {b want : Bool} {st : St} {K : St → Prop} (hg : aR all j = some t) (hs : st.env t = .d (.v (.bool b)))
  (h1 : b = want → ∀ K' : St → Prop, (∀ s, kL P c all r s K → K' s) → Dn d st ∧ eL P c d op st K') (h2 : b = !want → Dn d st ∧ kL P c all r (st.put d .und) K) : kL P c all (⟨d, op, ty, pos, after, some (j, want)⟩ :: r) st K := by
 rw [yW];simp only [hg, hs];exact ⟨fun hb => h1 hb _ fun _ h => h, h2⟩
theorem aBh {c : Cfg} {all r : List Oper} {d : Option Tmp} {op : Op} {ty : TypeId} {pos : String} {after : Array Edge} {j t : Nat} {b want : Bool} {st : St} {K : St → Prop} (hg : aR all j = some t) (hs : st.env t = .d (.v (.bool b))) (hb : b = want)
  (h1 : ∀ K' : St → Prop, (∀ s, kL P c all r s K → K' s) → Dn d st ∧ eL P c d op st K') : kL P c all (⟨d, op, ty, pos, after, some (j, want)⟩ :: r) st K :=
 aEb hg hs (fun _ => h1) fun h => (by rw [hb] at h; cases want <;> cases h)
theorem xJ {n t : Nat} {l : List (Nat × Slot)} {loc obj : List (List D)} {b : Bool} (hs : cX l t = .d (.v (.bool b))) : St.mk' n l loc obj = St.mk' n ((t, .d (.bool b)) :: l) loc obj := by
 unfold St.mk';congr 1;funext u;simp only [cX];split
 ·rename_i e; rw [e, hs]
 ·rfl
theorem aX {c : Cfg} {all r : List Oper} {n : Nat} {l : List (Nat × Slot)} {loc obj : List (List D)} {K : St → Prop} (t : Nat) {s : Slot} (hs : cX l t = s)
  (h : pX s.toD (kL P c all r (St.mk' n ((t, .d (.bool true)) :: l) loc obj) K) (kL P c all r (St.mk' n ((t, .d (.bool false)) :: l) loc obj) K)) : kL P c all r (St.mk' n l loc obj) K := by
 unfold pX at h;split at h
 ·rename_i b hb;have hs' : cX l t = .d (.v (.bool b)) := by
   rw [hs];cases s with
   | d d => simp only [Slot.toD] at hb; rw [hb]
   | lref n o => simp [Slot.toD] at hb
  rw [xJ hs'];cases b
  ·exact h.2 rfl
  ·exact h.1 rfl
 ·exact h.elim
def aBy (P : Program) (c : Cfg) (all r : List Oper) (K : St → Prop) : St → Prop := fun st => kL P c all r st K
theorem Pm {c : Cfg} {all r : List Oper} {K : St → Prop} {st : St} : aBy P c all r K st = kL P c all r st K := rfl
theorem Xz {c : Cfg} {all r : List Oper} {d : Option Tmp} {op : Op} {ty : TypeId} {pos : String} {after : Array Edge} {st : St} {K : St → Prop} : kL P c all (⟨d, op, ty, pos, after, none⟩ :: r) st K = (Dn d st ∧ eL P c d op st (aBy P c all r K)) := rfl
def Rl (P : Program) (c : Cfg) (all r : List Oper) (ks : List DK) (K : St → Prop) : St → Prop := fun st => fA P c all r ks st K
theorem Mn {c : Cfg} {all r : List Oper} {ks : List DK} {K : St → Prop} {st : St} : Rl P c all r ks K st = fA P c all r ks st K := rfl
theorem Uh {c : Cfg} {all r : List Oper} {d : Option Tmp} {op : Op} {ty : TypeId} {pos : String} {after : Array Edge} {k : DK} {ks : List DK} {st : St} {K : St → Prop} : fA P c all (⟨d, op, ty, pos, after, none⟩ :: r) (k :: ks) st K = (Dn d st ∧ pJ P c d op k st (Rl P c all r ks K)) := rfl
@[congr] theorem aD8 {op : BinOp} {t : TypeId} {x y x' y' : Slot} {K : D → Prop} (hx : x = x') (hy : y = y') : nF P op t x y K = nF P op t x' y' K := by rw [hx, hy]
@[congr] theorem aD4 {op : BinOp} {k : IntKind} {a b a' b' : Int} {K : D → Prop} (hx : a = a') (hy : b = b') : tW op k a b K = tW op k a' b' K := by rw [hx, hy]
@[congr] theorem aDl {op : BinOp} {a b a' b' : ByteArray} {K : D → Prop} (hx : a = a') (hy : b = b') : tX op a b K = tX op a' b' K := by rw [hx, hy]
@[congr] theorem aEe {t : TypeId} {a b a' b' : List D} {K : Bool → Prop} (hx : a = a') (hy : b = b') : nW P t a b K = nW P t a' b' K := by rw [hx, hy]
@[congr] theorem aEn {op : UnOp} {x x' : D} {K : D → Prop} (hx : x = x') : uP op x K = uP op x' K := by rw [hx]
def sel (b : Bool) (s r : Slot) : Slot := if b = true then s else r
@[congr] theorem aFs {b b' : Bool} {s r : Slot} (h : b = b') : sel b s r = sel b' s r := by rw [h]
theorem aAn {s r : Slot} : sel true s r = s := rfl
theorem aAu {s r : Slot} : sel false s r = r := rfl
theorem Ab (a : Nat) (s : Slot) (r : List (Nat × Slot)) (t : Nat) : cX ((a, s) :: r) t = sel (t == a) s (cX r t) := by
 simp only [cX, sel, beq_iff_eq]
def gv3 (s : Slot) (want : Bool) : Option Bool := uL s want
def gv2 (o : Option Tmp) (st : St) (want : Bool) : Option Bool := match o with
 | some t => gv3 (st.env t) want
 | none => none
@[congr] theorem aGp {o o' : Option Tmp} {st : St} {want : Bool} (h : o = o') : gv2 o st want = gv2 o' st want := by rw [h]
theorem Ur (t : Tmp) (st : St) (want : Bool) : gv2 (some t) st want = gv3 (st.env t) want := rfl
theorem Pr (b want : Bool) : gv3 (.d (.v (.bool b))) want = some b := rfl
theorem Zb (want : Bool) : gv3 (.d (.tup [])) want = some (!want) := rfl
def Wi (all : List Oper) (j : Nat) (st : St) (want : Bool) : Option Bool := match aR all j with
 | some t => uL (st.env t) want
 | none => none
theorem Zt (all : List Oper) (j : Nat) (st : St) (want : Bool) : Wi all j st want = gv2 (aR all j) st want := rfl
def Kh (g : Option Bool) (want : Bool) (A B : Prop) : Prop := match g with
 | some b => (b = want → A) ∧ (b = !want → B)
 | none => False
@[congr] theorem aDd {g g' : Option Bool} {want : Bool} {A B : Prop} (h : g = g') : Kh g want A B = Kh g' want A B := by rw [h]
theorem aBw {A B : Prop} : Kh (some true) true A B = A := by simp [Kh]
theorem aBu {A B : Prop} : Kh (some true) false A B = B := by simp [Kh]
theorem aBc {A B : Prop} : Kh (some false) true A B = B := by simp [Kh]
theorem aBj {A B : Prop} : Kh (some false) false A B = A := by simp [Kh]
theorem aCa {c : Cfg} {all r : List Oper} {d : Option Tmp} {op : Op} {ty : TypeId} {pos : String} {after : Array Edge} {j : Nat} {want : Bool} {st : St} {K : St → Prop} : kL P c all (⟨d, op, ty, pos, after, some (j, want)⟩ :: r) st K =
  Kh (Wi all j st want) want (Dn d st ∧ eL P c d op st (aBy P c all r K)) (Dn d st ∧ kL P c all r (st.put d .und) K) := by
 rw [yW];unfold Wi Kh;split
 ·rename_i t ht;simp only [ht];split
  ·rename_i h; simp [h]; exact fun _ => Iff.rfl
  ·rename_i h; simp [h]
 ·rename_i h; simp [h]
def Hx (d : D) (A B : Prop) : Prop := match d with
 | .v (.bool t) => (t = true → A) ∧ (t = false → B)
 | _ => False
@[congr] theorem aBz {d d' : D} {A B : Prop} (h : d = d') : Hx d A B = Hx d' A B := by rw [h]
theorem aB8 {A B : Prop} : Hx (.v (.bool true)) A B = A := by simp [Hx]
theorem aA6 {A B : Prop} : Hx (.v (.bool false)) A B = B := by simp [Hx]
theorem Mi {dst : Option Tmp} {c a b : Operand} {st : St} {K : St → Prop} : qE dst c a b st K = Hx (st.rd c) ((st.rd a).plain = true ∧ K (st.put dst (.d (st.rd a).strip))) ((st.rd b).plain = true ∧ K (st.put dst (.d (st.rd b).strip))) := rfl
theorem Dq {c : Cfg} {dst : Option Tmp} {op : Op} {k : DK} {st : St} {K K' : St → Prop} (hk : ∀ s, K s → K' s) (h : pJ P c dst op k st K) : pJ P c dst op k st K' := by
 unfold pJ at *;cases k with
 | op f => exact ⟨h.1, h.2.1, qC hk h.2.2⟩
 | pure =>
  simp only at *;split at h
  ·obtain ⟨h1, r, h2, h3⟩ := h; exact ⟨h1, r, h2, hk _ h3⟩
  ·exact h
 | pureC =>
  simp only at *;split at h
  ·split at h
   ·rename_i hf;obtain ⟨h0, h1, r, h2, h3⟩ := h;exact ⟨h0, h1, r, h2, hk _ h3⟩
   ·exact h.elim
  ·exact h
 | read =>
  simp only at *;split at h
  ·obtain ⟨h1, r, h2, h3⟩ := h; exact ⟨h1, r, h2, hk _ h3⟩
  ·exact h
 | det =>
  simp only at *;split at h
  ·obtain ⟨h1, r, σ0, h2, h3⟩ := h; exact ⟨h1, r, σ0, h2, hk _ h3⟩
  ·exact h
 | readT =>
  simp only at *;split at h
  ·obtain ⟨h1, r, h2, h3⟩ := h; exact ⟨h1, r, h2, hk _ h3⟩
  ·exact h
 | nd =>
  obtain ⟨Q, h1, h2⟩ := h;exact ⟨Q, h1, fun r σ0 hq => hk _ (h2 r σ0 hq)⟩
 | detA =>
  simp only at *;split at h
  ·obtain ⟨h1, r, J, h2, h3⟩ := h; exact ⟨h1, r, J, h2, hk _ h3⟩
  ·exact h
 | pureT =>
  simp only at *;split at h
  ·obtain ⟨h0, h1, r, h2, h3⟩ := h; exact ⟨h0, h1, r, h2, hk _ h3⟩
  ·exact h
 | detT =>
  simp only at *;split at h
  ·obtain ⟨h0, h1, r, σ0, h2, h3⟩ := h; exact ⟨h0, h1, r, σ0, h2, hk _ h3⟩
  ·exact h
theorem xP {c : Cfg} {all : List Oper} {ks : List DK} {st : St} {K : St → Prop} : fA P c all [] ks st K = K st := by unfold fA; rfl
theorem Zw {c : Cfg} {all r : List Oper} {d : Option Tmp} {op : Op} {ty : TypeId} {pos : String} {after : Array Edge} {j : Nat} {want : Bool} {k : DK} {ks : List DK} {st : St} {K : St → Prop} : fA P c all (⟨d, op, ty, pos, after, some (j, want)⟩ :: r) (k :: ks) st K =
  (Dn d st ∧ Kh (Wi all j st want) want (pJ P c d op k st (Rl P c all r ks K)) (fA P c all r ks (st.put d .und) K)) := by
 conv => lhs; unfold fA
 show (_ ∧ _) = _
 congr 1;simp only;unfold Wi Kh;split
 ·rename_i t ht;simp only [ht];split
  ·rename_i h; simp [h]; exact fun _ => Iff.rfl
  ·rename_i h; simp [h]
 ·rename_i h; simp [h]
theorem dD {c : Cfg} {all r : List Oper} {d : Option Tmp} {op : Op} {ty : TypeId} {pos : String} {after : Array Edge} {k : DK} {ks : List DK} {st : St} {K : St → Prop} (h : ∀ K' : St → Prop, (∀ s, fA P c all r ks s K → K' s) → Dn d st ∧ pJ P c d op k st K') : fA P c all (⟨d, op, ty, pos, after, none⟩ :: r) (k :: ks) st K :=
 h _ fun _ h => h
theorem aO {c : Cfg} {all : List Oper} (n : Nat) {r : List Oper} {ks : List DK} {st : St} {K : St → Prop} (hks : n ≤ ks.length) (h : ∀ K' : St → Prop, (∀ s, fA P c all (r.drop n) (ks.drop n) s K → K' s) → fA P c all (r.take n) (ks.take n) st K') : fA P c all r ks st K := by
 have go : ∀ (n : Nat) (r : List Oper) (ks : List DK) (st : St), n ≤ ks.length → fA P c all (r.take n) (ks.take n) st (fun s => fA P c all (r.drop n) (ks.drop n) s K) → fA P c all r ks st K := by
  intro n;induction n with
  | zero => intro r ks st _ h; simp only [List.take_zero, List.drop_zero, xP] at h; exact h
  | succ n ih =>
   intro r ks st hks h;cases ks with
   | nil => simp at hks
   | cons k ks =>
    cases r with
    | nil => simp only [List.take_nil, List.drop_nil, xP] at h ⊢; exact h
    | cons o r =>
     simp only [List.take_succ_cons, List.drop_succ_cons] at h;simp only [List.length_cons] at hks;unfold fA at h ⊢;refine ⟨h.1, ?_⟩;have h2 := h.2;split at h2
     ·exact Dq (fun s hs => ih r ks s (by omega) hs) h2
     ·split at h2
      ·split at h2
       ·exact ⟨fun hb => Dq (fun s hs => ih r ks s (by omega) hs) (h2.1 hb), fun hb => ih r ks _ (by omega) (h2.2 hb)⟩
       ·exact h2.elim
      ·exact h2.elim
 exact go n r ks st hks (h _ fun _ h => h)
theorem Zk {c : Cfg} {all r : List Oper} {d : Option Tmp} {op : Op} {ty : TypeId} {pos : String} {after : Array Edge} {j t : Nat} {b want : Bool} {k : DK} {ks : List DK} {st : St} {K : St → Prop} (hg : aR all j = some t) (hs : st.env t = .d (.v (.bool b))) (hb : b = want)
  (h1 : ∀ K' : St → Prop, (∀ s, fA P c all r ks s K → K' s) → Dn d st ∧ pJ P c d op k st K') : fA P c all (⟨d, op, ty, pos, after, some (j, want)⟩ :: r) (k :: ks) st K := by
 unfold fA;refine ⟨(h1 _ fun _ h => h).1, ?_⟩;simp only [hg, hs];exact ⟨fun _ => (h1 _ fun _ h => h).2, fun h => (by rw [hb] at h; cases want <;> cases h)⟩
theorem fI {c : Cfg} {all r : List Oper} {ks : List DK} {n : Nat} {l : List (Nat × Slot)} {loc obj : List (List D)} {K : St → Prop} (t : Nat) {s : Slot} (hs : cX l t = s)
  (h : pX s.toD (fA P c all r ks (St.mk' n ((t, .d (.bool true)) :: l) loc obj) K) (fA P c all r ks (St.mk' n ((t, .d (.bool false)) :: l) loc obj) K)) : fA P c all r ks (St.mk' n l loc obj) K := by
 unfold pX at h;split at h
 ·rename_i b hb;have hs' : cX l t = .d (.v (.bool b)) := by
   rw [hs];cases s with
   | d d => simp only [Slot.toD] at hb; rw [hb]
   | lref n o => simp [Slot.toD] at hb
  rw [xJ hs'];cases b
  ·exact h.2 rfl
  ·exact h.1 rfl
 ·exact h.elim
def cT : List Nat → List (Nat × Slot) → List (Nat × Slot)
 | _, [] => []
 | W, (t, s) :: r => if W.contains t then cT W r else (t, s) :: cT (t :: W) r
theorem Ye (n : Nat) (s : Slot) : yB n s (.d .any) = True := by
 unfold yB; split <;> simp_all
theorem aDq (n : Nat) (x : D) : yB n (.d x) (.d x) = True := by
 cases x with
 | sl o es => cases o <;> simp [yB]
 | _ => simp [yB]
theorem Xn (n : Nat) (es : List D) : yB n (.d (.sl true es)) (.d (.sl false es)) = True := by
 unfold yB; simp
theorem We (n m o : Nat) : yB n (.lref m o) (.lref m o) = (m < n) := by
 unfold yB; simp
def rF (n : Nat) (env : Nat → Slot) : List (Nat × Slot) → Prop
 | [] => True
 | (a, s) :: r => yB n (env a) s ∧ rF n env r
theorem Od (n : Nat) (env : Nat → Slot) : rF n env [] = True := rfl
theorem Ip (n : Nat) (env : Nat → Slot) (a : Nat) (s : Slot) (r : List (Nat × Slot)) : rF n env ((a, s) :: r) = (yB n (env a) s ∧ rF n env r) := rfl
theorem mK {n : Nat} {env : Nat → Slot} : ∀ {l : List (Nat × Slot)}, rF n env l → ∀ p ∈ l, yB n (env p.1) p.2
 | [], _, p, hp => by simp at hp
 | (a, s) :: r, h, p, hp => by
  rcases List.mem_cons.1 hp with rfl | hp
  ·exact h.1
  ·exact mK h.2 p hp
theorem aW {st : St} {n : Nat} {l : List (Nat × Slot)} {loc obj : List (List D)} (hn : st.n = n) (hl : rF loc.length st.env l) (hloc : loc <+: st.loc) (hobj : st.obj = obj) : Weak st (St.mk' n l loc obj) :=
 Ce hn (mK hl) hloc hobj
theorem bR {α : Type} {n : Nat} {l l2 : List (Nat × Slot)} {loc obj : List (List D)} (F : α → List (Nat × Slot)) (W : List Nat) (p : α → Prop) (m : α → Nat) (x0 : α) {body : Code} {Q : Exit → St → Prop}
  (hl : cT W l = l2) (hF : rF loc.length (cX l) (F x0 ++ l2)) (hp : p x0)
  (h : ∀ x, p x → fK P body (wS (fun x => St.mk' n (F x ++ l2) loc obj) p m x Q) (St.mk' n (F x ++ l2) loc obj)) : fK P (.loop body) Q (St.mk' n l loc obj) :=
 Ew (fun x => St.mk' n (F x ++ l2) loc obj) p m x0 (Ce rfl (mK hF) (List.prefix_refl _) rfl) hp h
theorem kF {α : Type} {n : Nat} {l l2 : List (Nat × Slot)} {loc obj : List (List D)} (F : α → List (Nat × Slot)) (G H : α → List (List D)) (W : List Nat) (p : α → Prop) (m : α → Nat) (x0 : α) {body : Code} {Q : Exit → St → Prop}
  (hl : cT W l = l2) (hF : rF (G x0).length (cX l) (F x0 ++ l2)) (hG : G x0 = loc) (hH : H x0 = obj) (hp : p x0)
  (h : ∀ x, p x → fK P body (wS (fun x => St.mk' n (F x ++ l2) (G x) (H x)) p m x Q) (St.mk' n (F x ++ l2) (G x) (H x))) : fK P (.loop body) Q (St.mk' n l loc obj) :=
 Ew (fun x => St.mk' n (F x ++ l2) (G x) (H x)) p m x0 (Ce rfl (mK hF) (by rw [hG]; exact List.prefix_refl _) hH.symm) hp h
theorem bB {α : Type} {S : α → St} {p : α → Prop} {m : α → Nat} {x : α} {Q : Exit → St → Prop} {s : St} (y : α) (hp : p y) (hm : m y < m x) (hw : Weak s (S y)) : wS S p m x Q .normal s := ⟨y, hp, hm, hw⟩
def Tu {α : Type} (S : α → St) (p : α → Prop) (Q : Exit → St → Prop) : Exit → St → Prop
 | .normal, s => ∃ y, p y ∧ Weak s (S y)
 | e, s => Q e s
theorem Uv {α : Type} (S : α → St) (p : α → Prop) {a b : Code} {Q : Exit → St → Prop} {st : St} (h1 : fK P a (Tu S p Q) st) (h2 : ∀ x, p x → fK P b Q (S x)) : fK P (.seq a b) Q st := by
 refine aD (Sk h1 fun e s h => ?_);cases e with
 | normal => obtain ⟨y, hy, hw⟩ := h; exact Us hw (h2 y hy)
 | _ => exact h
theorem Bm {α : Type} {S : α → St} {p : α → Prop} {Q : Exit → St → Prop} {s : St} (y : α) (hp : p y) (hw : Weak s (S y)) : Tu S p Q .normal s := ⟨y, hp, hw⟩
theorem Hc (n : Nat) : D.strip (.mref n) = .mref n := rfl
theorem Zu (n : Nat) : D.s1 (.mref n) = .mref n := rfl
theorem Xa (n : Nat) : D.s2 (.mref n) = .mref n := rfl
theorem Jd (n : Nat) : D.plain (.mref n) = true := rfl
theorem Gx (n : Nat) : D.solid (.mref n) = true := rfl
theorem Ed (n : Nat) : D.ncells (.mref n) = 1 := rfl
theorem Gz (n : Nat) : D.cells (.mref n) = [.mref n] := rfl
theorem Ky (n a b : Nat) (l : List Nat) : D.strip (.mit n a l b) = .any := rfl
theorem aBx (n a b : Nat) (l : List Nat) : D.s1 (.mit n a l b) = .any := rfl
theorem aBg (n a b : Nat) (l : List Nat) : D.s2 (.mit n a l b) = .any := rfl
theorem Mc (n a b : Nat) (l : List Nat) : D.plain (.mit n a l b) = true := rfl
theorem Lu (n a b : Nat) (l : List Nat) : D.solid (.mit n a l b) = false := rfl
theorem So (n c : Nat) (kd : TypeDesc) (kvs : List (Value × Nat × D)) : D.strip (.mp n kd c kvs) = .mref n := rfl
theorem aDo (n c : Nat) (kd : TypeDesc) (kvs : List (Value × Nat × D)) : D.s1 (.mp n kd c kvs) = .mref n := rfl
theorem aD6 (n c : Nat) (kd : TypeDesc) (kvs : List (Value × Nat × D)) : D.s2 (.mp n kd c kvs) = .mref n := rfl
theorem Wh (n c : Nat) (kd : TypeDesc) (kvs : List (Value × Nat × D)) : D.plain (.mp n kd c kvs) = true := rfl
theorem Td (n c : Nat) (kd : TypeDesc) (kvs : List (Value × Nat × D)) : D.solid (.mp n kd c kvs) = true := rfl
theorem Pe (n c : Nat) (kd : TypeDesc) (kvs : List (Value × Nat × D)) : D.ncells (.mp n kd c kvs) = 1 := rfl
theorem Qy (n c : Nat) (kd : TypeDesc) (kvs : List (Value × Nat × D)) : D.cells (.mp n kd c kvs) = [.mp n kd c kvs] := rfl
theorem Li (t : TypeId) (d : D) : D.strip (.ifc t d) = .ifc t d := rfl
theorem aBd (t : TypeId) (d : D) : D.s1 (.ifc t d) = .ifc t d := rfl
theorem aCg (t : TypeId) (d : D) : D.s2 (.ifc t d) = .ifc t d := rfl
theorem Lh (t : TypeId) (d : D) : D.plain (.ifc t d) = true := rfl
theorem Lo (t : TypeId) (d : D) : D.solid (.ifc t d) = true := rfl
theorem Iz (t : TypeId) (d : D) : D.ncells (.ifc t d) = 1 := rfl
theorem Pf (t : TypeId) (d : D) : D.cells (.ifc t d) = [.ifc t d] := rfl
theorem Rw (n : Nat) : D.arr (.mref n) = true := rfl
attribute [simp] Ky aBx aBg Mc Lu mF qG nB aAk Hc Zu Xa Jd Gx Ed Gz So aDo aD6 Wh Td Pe Qy Li aBd aCg Lh Lo Iz Pf Rw
theorem Ni (n a b c : Nat) : D.strip (.slo n a b c) = .slo n a b c := rfl
theorem Vx (n : Nat) : D.strip (.xl n) = .xl n := rfl
theorem Tn (k : Nat) (es : List D) : D.strip (.xs k es) = .xl es.length := rfl
theorem aA9 (n a b c : Nat) : D.s2 (.slo n a b c) = .slo n a b c := rfl
theorem aEd (n : Nat) : D.s2 (.xl n) = .xl n := rfl
theorem aDr (k : Nat) (es : List D) : D.s2 (.xs k es) = .xl es.length := rfl
theorem aBl (f : Go.Fn) (a b : List D) : D.s2 (.clo f a b) = .clo f a b := rfl
theorem aAz (n a b c : Nat) : D.s1 (.slo n a b c) = .slo n a b c := rfl
theorem aD3 (n : Nat) : D.s1 (.xl n) = .xl n := rfl
theorem aD9 (k : Nat) (es : List D) : D.s1 (.xs k es) = .xl es.length := rfl
theorem aDc (f : Go.Fn) (a b : List D) : D.s1 (.clo f a b) = .clo f a b := rfl
theorem Lf (n a b c : Nat) : D.plain (.slo n a b c) = true := rfl
theorem Qc (n : Nat) : D.plain (.xl n) = true := rfl
theorem Rq (k : Nat) (es : List D) : D.plain (.xs k es) = true := rfl
theorem Md (n a b c : Nat) : D.solid (.slo n a b c) = true := rfl
theorem Qg (n : Nat) : D.solid (.xl n) = true := rfl
theorem Ub (k : Nat) (es : List D) : D.solid (.xs k es) = true := rfl
theorem Ik (n a b c : Nat) : D.ncells (.slo n a b c) = 1 := rfl
theorem Nc (n : Nat) : D.ncells (.xl n) = 1 := rfl
theorem Ow (k : Nat) (es : List D) : D.ncells (.xs k es) = 1 := rfl
theorem Nn (n a b c : Nat) : D.cells (.slo n a b c) = [.slo n a b c] := rfl
theorem Uc (n : Nat) : D.cells (.xl n) = [.xl n] := rfl
theorem Pw (k : Nat) (es : List D) : D.cells (.xs k es) = [.xs k es] := rfl
theorem aDm (x : Value) : D.arr (.v x) = true := rfl
theorem aC5 (es : List D) : D.arr (.sl false es) = true := rfl
theorem Xp (cs : List D) : D.arr (.agg cs) = cs.all D.flat := rfl
theorem aCf (x : Value) : D.flat (.v x) = true := rfl
theorem Wr (es : List D) : D.flat (.sl false es) = true := rfl
theorem Vu (n o : Nat) : D.flat (.ref n o) = true := rfl
def tI : List (Nat × List D) → List (List D) → List (List D)
 | [], l => l
 | (n, c) :: r, l => (tI r l).set n c
theorem mC (l : List (List D)) : tI [] l = l := rfl
theorem kH (n : Nat) (c : List D) (r : List (Nat × List D)) (l : List (List D)) : tI ((n, c) :: r) l = (tI r l).set n c := rfl
theorem lW {P : Program} {α : Type} {n : Nat} {l l2 : List (Nat × Slot)} {loc obj : List (List D)} (F : α → List (Nat × Slot)) (M N : α → List (Nat × List D)) (W : List Nat) (p : α → Prop) (m : α → Nat) (x0 : α) {body : Code} {Q : Exit → St → Prop}
  (hl : cT W l = l2) (hF : rF (tI (M x0) loc).length (cX l) (F x0 ++ l2)) (hG : tI (M x0) loc = loc) (hH : tI (N x0) obj = obj) (hp : p x0)
  (h : ∀ x, p x → fK P body (wS (fun x => St.mk' n (F x ++ l2) (tI (M x) loc) (tI (N x) obj)) p m x Q) (St.mk' n (F x ++ l2) (tI (M x) loc) (tI (N x) obj))) : fK P (.loop body) Q (St.mk' n l loc obj) :=
 kF F (fun x => tI (M x) loc) (fun x => tI (N x) obj) W p m x0 hl hF hG hH hp h
theorem Lv {α : Type} (l : List α) (a : α) : (l ++ [a])[l.length]? = some a := by simp
theorem iS {α : Type} (l : List α) (a b : α) : (l ++ [a]).set l.length b = l ++ [b] := by simp
def qZ : List Nat → List (Nat × Slot) → List (Nat × Slot)
 | [], _ => []
 | t :: r, l => (t, cX l t) :: qZ r l
theorem Ov (l : List (Nat × Slot)) : qZ [] l = [] := rfl
theorem xO (t : Nat) (r : List Nat) (l : List (Nat × Slot)) : qZ (t :: r) l = (t, cX l t) :: qZ r l := rfl
theorem Ai (l : List (Nat × Slot)) (u : Nat) : ∀ K : List Nat, cX (qZ K l) u = cX l u ∨ cX (qZ K l) u = .any
 | [] => .inr rfl
 | t :: r => by
  rw [xO, kW];split
  ·rename_i h; subst h; exact .inl rfl
  ·exact Ai l u r
theorem To {P : Program} (K : List Nat) {l2 : List (Nat × Slot)} {c : Code} {n : Nat} {l : List (Nat × Slot)} {loc obj : List (List D)} {Q : Exit → St → Prop} (hl : qZ K l = l2) (h : fK P c Q (St.mk' n l2 loc obj)) : fK P c Q (St.mk' n l loc obj) := by
 subst hl;intro w0 g0 w g tmps hf hok hn;refine h w0 g0 w g tmps hf ⟨hok.mem, hok.xlt, fun t => ?_, hok.ll, hok.loc, hok.ol, hok.obj⟩ hn;have hs := hok.slot t;show SlotOk w g t (cX (qZ K l) t) _
 rcases Ai l t K with e | e
 ·rw [e]; exact hs
 ·rw [e]; exact ⟨.any _, .flat _ _ _ rfl⟩
theorem jG {P : Program} (ts k : Nat) {es : List D} {c : Code} {n : Nat} {l : List (Nat × Slot)} {loc obj : List (List D)} {Q : Exit → St → Prop} (hs : cX l ts = .d (.xs k es)) (hk0 : 0 < k)
  (h : ∀ (cap : Nat) (rest : List D), es.length ≤ cap → cap ≤ maxLen → rest.length = (cap - es.length) * k → 0 < k → (∀ d ∈ es, d.ncells = k ∧ d.arr = true) → fK P c Q (St.mk' n ((ts, .d (.slo obj.length 0 es.length cap)) :: l) loc (obj ++ [es.flatMap D.cells ++ rest]))) : fK P c Q (St.mk' n l loc obj) := by
 intro w0 g0 w g tmps hf hok hn;obtain ⟨cap, rest, g', a1, a2, a3, a4, a5, _, hfr, hok'⟩ := hok.openX ts k es hs hk0;exact h cap rest a1 a2 a3 a4 a5 w0 g0 w g' tmps (hf.trans hfr) hok' hn
theorem iK {P : Program} (ts k : Nat) {es : List D} {c : Code} {n : Nat} {l : List (Nat × Slot)} {loc obj : List (List D)} {Q : Exit → St → Prop} (hs : cX l ts = .d (.xs k es)) (hk0 : 0 < k)
  (h : ∀ (cap : Nat) (rest : List D), es.length ≤ cap → cap ≤ maxLen → rest = List.replicate ((cap - es.length) * k) .any → 0 < k → (∀ d ∈ es, d.ncells = k ∧ d.arr = true) → fK P c Q (St.mk' n ((ts, .d (.slo obj.length 0 es.length cap)) :: l) loc (obj ++ [es.flatMap D.cells ++ rest]))) : fK P c Q (St.mk' n l loc obj) := by
 intro w0 g0 w g tmps hf hok hn;obtain ⟨cap, rest, g', a1, a2, a3, a4, a5, _, hfr, hok'⟩ := hok.openX2 ts k es hs hk0;exact h cap rest a1 a2 a3 a4 a5 w0 g0 w g' tmps (hf.trans hfr) hok' hn
theorem dE {P : Program} (ts k m len cap : Nat) (es cs : List D) {c : Code} {n : Nat} {l : List (Nat × Slot)} {loc obj : List (List D)} {Q : Exit → St → Prop} (hs : cX l ts = .d (.slo m 0 len cap)) (hm : obj[m]? = some cs) (hk : 0 < k) (hcs : cs.length = cap * k) (hl : es.length = len)
  (hes : ∀ d ∈ es, d.ncells = k ∧ d.arr = true) (he : es.flatMap D.cells <+: cs) (h : fK P c Q (St.mk' n ((ts, .d (.xs k es)) :: l) loc (obj.set m []))) : fK P c Q (St.mk' n l loc obj) := by
 intro w0 g0 w g tmps hf hok hn;obtain ⟨g', _, hfr, hok'⟩ := hok.closeX ts k m len cap es cs hs hm hk hcs hl hes he;exact h w0 g0 w g' tmps (hf.trans hfr) hok' hn
theorem Vp {α : Type} (f : α → D) (l : List α) (k : Nat) (h : k < l.length) : (l.map f).getD k .any = f l[k] := by
 simp [List.getD, h]
theorem yF {α : Type} (f : α → D) (l : List α) (k : Nat) (h : k < l.length) : (l.map f)[k]? = some (f l[k]) := by
 simp [h]
theorem Zm (n : Int) : Pk .i64 n = (-9223372036854775808 ≤ n ∧ n ≤ 9223372036854775807) := by
 unfold Pk;rfl
theorem aA8 (n : Int) : Pk .u8 n = (0 ≤ n ∧ n ≤ 255) := by
 unfold Pk;rfl
end
theorem Tv : Bh [] = true := rfl
theorem Le (r : List (Option Holder)) : Bh (none :: r) = Bh r := by simp [Bh]
theorem Nb (h : Holder) (r : List (Option Holder)) : Bh (some h :: r) = (!r.contains (some h) && Bh r) := by
 simp only [Bh, List.filterMap_cons, id, List.nodup_cons, Bool.decide_and, List.contains_eq_mem];congr 1;rw [← decide_not];congr 1;simp [List.mem_filterMap]
theorem Mp : maxLen = 9223372036854775807 := rfl
theorem Xb (n : Nat) (l : List (Nat × Slot)) (loc obj : List (List D)) : ({ n := n, env := cX l, loc := loc, obj := obj } : St) = St.mk' n l loc obj := rfl
def sG : Slot → Slot
 | .d x => .d x.strip
 | s => s
def iT : List Nat → List (Nat × Slot) → List (Nat × Slot)
 | [], l => l
 | t :: r, l => (t, sG (cX l t)) :: iT r l
theorem uF (l : List (Nat × Slot)) (u : Nat) : ∀ ts : List Nat, cX (iT ts l) u = if u ∈ ts then sG (cX l u) else cX l u
 | [] => by simp [iT]
 | t :: r => by
  rw [iT, kW, uF l u r];by_cases h : u = t
  ·subst h; simp
  ·simp [h]
theorem jV (l : List (Nat × Slot)) (ts : List (Option Nat)) : dR ts (cX l) = cX (iT (ts.filterMap id) l) := by
 funext u;rw [uF];by_cases h : some u ∈ ts
 ·have h1 : ts.contains (some u) = true := by simpa using h
  have h2 : u ∈ ts.filterMap id := by simpa using h
  simp only [dR, h1, if_true, if_pos h2, sG];split <;> simp_all
 ·have h1 : ts.contains (some u) = false := by simpa using h
  have h2 : ¬ u ∈ ts.filterMap id := by simpa using h
  simp only [dR, h1, if_neg h2]; rfl
theorem Ia {P : Program} {d : Nat} {f : FuncId} {args : List Operand} {n : Nat} {l : List (Nat × Slot)} {loc obj : List (List D)} {K : St → Prop} : iU P (some d) f args (St.mk' n l loc obj) K =
  ((args.filterMap bS).Nodup ∧ (∀ x ∈ args, pQ ((St.mk' n l loc obj).rdS x) = true ∧ ((St.mk' n l loc obj).rd x).plain = true) ∧
   Ct P f (args.map (nJ (St.mk' n l loc obj))) obj (fun r σ' => K (St.mk' n ((d, .d r) :: iT (args.filterMap bS) l) loc σ'))) := by
 unfold iU;have e : (args.map bS).filterMap id = args.filterMap bS := by rw [List.filterMap_map]; rfl
 simp only [vB, uU, uW, Ku, jV, e];rfl
theorem Dm (l : List (Nat × Slot)) : iT [] l = l := rfl
theorem Aj (t : Nat) (r : List Nat) (l : List (Nat × Slot)) : iT (t :: r) l = (t, sG (cX l t)) :: iT r l := rfl
theorem Pu (x : D) : sG (.d x) = .d x.strip := rfl
theorem Dw (a b : Nat) : sG (.lref a b) = .lref a b := rfl
theorem Lj : List.filterMap bS [] = [] := rfl
theorem Nd (t : Tmp) (r : List Operand) : List.filterMap bS (.tmp t :: r) = t :: List.filterMap bS r := rfl
theorem Fv (v : Value) (r : List Operand) : List.filterMap bS (.const v :: r) = List.filterMap bS r := rfl
theorem Hd (v : FuncId) (r : List Operand) : List.filterMap bS (.func v :: r) = List.filterMap bS r := rfl
theorem Bo {P : Program} {c : Cfg} {d : Nat} {f : FuncId} {args : Array Operand} {ts : Array TypeId} {n : Nat} {l : List (Nat × Slot)} {loc obj : List (List D)} {K : St → Prop} :
  pJ P c (some d) (.call ⟨.value (.func f), args, ts⟩) .pureT (St.mk' n l loc obj) K =
  ((args.toList.filterMap bS).Nodup ∧ (∀ x ∈ args.toList, pQ ((St.mk' n l loc obj).rdS x) = true ∧ ((St.mk' n l loc obj).rd x).plain = true) ∧
   ∃ r, (∀ σ, Ct P f (args.toList.map (nJ (St.mk' n l loc obj))) σ fun r' σ' => r' = r ∧ σ' = σ) ∧ K (St.mk' n ((d, .d r) :: iT (args.toList.filterMap bS) l) loc obj)) := by
 have e : (args.toList.map bS).filterMap id = args.toList.filterMap bS := by rw [List.filterMap_map]; rfl
 simp only [pJ, vB, uU, uW, Ku, jV, e];rfl
theorem Fj {P : Program} {c : Cfg} {d : Nat} {f : FuncId} {args : Array Operand} {ts : Array TypeId} {n : Nat} {l : List (Nat × Slot)} {loc obj : List (List D)} {K : St → Prop} :
  pJ P c (some d) (.call ⟨.value (.func f), args, ts⟩) .detT (St.mk' n l loc obj) K =
  ((args.toList.filterMap bS).Nodup ∧ (∀ x ∈ args.toList, pQ ((St.mk' n l loc obj).rdS x) = true ∧ ((St.mk' n l loc obj).rd x).plain = true) ∧
   ∃ r σ0, (Ct P f (args.toList.map (nJ (St.mk' n l loc obj))) obj fun r' σ' => r' = r ∧ σ' = σ0) ∧ K (St.mk' n ((d, .d r) :: iT (args.toList.filterMap bS) l) loc σ0)) := by
 have e : (args.toList.map bS).filterMap id = args.toList.filterMap bS := by rw [List.filterMap_map]; rfl
 simp only [pJ, vB, uU, uW, Ku, jV, e];rfl
theorem aBs {P : Program} {c : Cfg} {d : Option Tmp} {op : Op} {f : Fl} {st : St} {K : St → Prop} : pJ P c d op (.op f) st K = (gC op = false ∧ jA c d st op = f ∧ eL P c d op st K) := rfl
theorem Ry {P : Program} {c : Cfg} {d : Option Tmp} {f : FuncId} {args : Array Operand} {ts : Array TypeId} {st : St} {K : St → Prop} : pJ P c d (.call ⟨.value (.func f), args, ts⟩) .pure st K =
  (gK args.toList st ∧ ∃ r, (∀ σ, Ct P f (dJ args.toList st) σ fun r' σ' => r' = r ∧ σ' = σ) ∧ K (st.put d (.d r))) := rfl
def aDt (P : Program) (dst : Option Tmp) (d : D) (args : List Operand) (st : St) (K : St → Prop) : Prop := match d with
 | .clo (.func fid) first caps => (∀ d ∈ first ++ caps, d.plain = true) ∧ gK args st ∧ ∃ r, (∀ σ, Ct P fid (first.map D.strip ++ dJ args st ++ caps.map D.strip) σ fun r' σ' => r' = r ∧ σ' = σ) ∧ K (st.put dst (.d r))
 | _ => False
theorem Ou {P : Program} {c : Cfg} {d : Option Tmp} {f : Operand} {args : Array Operand} {ts : Array TypeId} {st : St} {K : St → Prop} : pJ P c d (.call ⟨.value f, args, ts⟩) .pureC st K = aDt P d (st.rd f) args.toList st K := rfl
theorem Yy {P : Program} {dst : Option Tmp} {fid : FuncId} {first caps : List D} {args : List Operand} {st : St} {K : St → Prop} : aDt P dst (.clo (.func fid) first caps) args st K = ((∀ d ∈ first ++ caps, d.plain = true) ∧ gK args st ∧ ∃ r, (∀ σ, Ct P fid (first.map D.strip ++ dJ args st ++ caps.map D.strip) σ fun r' σ' => r' = r ∧ σ' = σ) ∧ K (st.put dst (.d r))) := rfl
theorem Sz {P : Program} {c : Cfg} {d : Option Tmp} {f : FuncId} {args : Array Operand} {ts : Array TypeId} {st : St} {K : St → Prop} : pJ P c d (.call ⟨.value (.func f), args, ts⟩) .read st K =
  (gK args.toList st ∧ ∃ r, (Ct P f (dJ args.toList st) st.obj fun r' σ' => r' = r ∧ σ' = st.obj) ∧ K (st.put d (.d r))) := rfl
theorem aCm {P : Program} {c : Cfg} {d : Option Tmp} {f : FuncId} {args : Array Operand} {ts : Array TypeId} {st : St} {K : St → Prop} : pJ P c d (.call ⟨.value (.func f), args, ts⟩) .nd st K =
  ∃ Q, (gK args.toList st ∧ Ct P f (dJ args.toList st) st.obj Q ∧ ∃ r σ0, Q r σ0) ∧ ∀ r σ0, Q r σ0 → K (({ st with obj := σ0 } : St).put d (.d r)) := rfl
theorem Nl {P : Program} {c : Cfg} {d : Option Tmp} {f : FuncId} {args : Array Operand} {ts : Array TypeId} {st : St} {K : St → Prop} : pJ P c d (.call ⟨.value (.func f), args, ts⟩) .readT st K =
  (gK args.toList st ∧ ∃ r, (∀ J, Ct P f (dJ args.toList st) (st.obj ++ J) fun r' σ' => r' = r ∧ σ' = st.obj ++ J) ∧ K (st.put d (.d r))) := rfl
theorem Vt {P : Program} {c : Cfg} {d : Option Tmp} {f : FuncId} {args : Array Operand} {ts : Array TypeId} {st : St} {K : St → Prop} : pJ P c d (.call ⟨.value (.func f), args, ts⟩) .detA st K =
  (gK args.toList st ∧ ∃ r J, (Ct P f (dJ args.toList st) st.obj fun r' σ' => r' = r ∧ σ' = st.obj ++ J) ∧ K (({ st with obj := st.obj ++ J } : St).put d (.d r))) := rfl
theorem Xm {P : Program} {c : Cfg} {d : Option Tmp} {f : FuncId} {args : Array Operand} {ts : Array TypeId} {st : St} {K : St → Prop} : pJ P c d (.call ⟨.value (.func f), args, ts⟩) .det st K =
  (gK args.toList st ∧ ∃ r σ0, (Ct P f (dJ args.toList st) st.obj fun r' σ' => r' = r ∧ σ' = σ0) ∧ K (({ st with obj := σ0 } : St).put d (.d r))) := rfl
theorem Zf {P : Program} {t : Nat} {a b : Code} {s : Slot} {n : Nat} {l : List (Nat × Slot)} {loc obj : List (List D)} {Q : Exit → St → Prop} (hs : cX l t = s)
  (h : pX s.toD (fK P a Q (St.mk' n ((t, .d (.bool true)) :: l) loc obj)) (fK P b Q (St.mk' n ((t, .d (.bool false)) :: l) loc obj))) : fK P (.cond (.tmp t) a b) Q (St.mk' n l loc obj) := by
 unfold pX at h;split at h
 ·rename_i v hv;have hs' : cX l t = .d (.v (.bool v)) := by
   rw [hs];cases s with
   | d d => simp only [Slot.toD] at hv; rw [hv]
   | lref n o => simp [Slot.toD] at hv
  rw [xJ hs'];cases v with
  | true => exact bT (t := true) (by simp [St.rd, St.rdS, kW, St.mk']) (fun _ => h.1 rfl) (fun h => by cases h)
  | false => exact bT (t := false) (by simp [St.rd, St.rdS, kW, St.mk']) (fun h => by cases h) (fun _ => h.2 rfl)
 ·exact h.elim
def jW (o : Oper) : Oper := ⟨o.dst, o.op, 0, "", #[], o.guard⟩
theorem gS : List.map jW [] = [] := rfl
theorem fN (d : Option Tmp) (op : Op) (ty : TypeId) (pos : String) (after : Array Edge) (g : Option (Nat × Bool)) (r : List Oper) : List.map jW (⟨d, op, ty, pos, after, g⟩ :: r) = ⟨d, op, 0, "", #[], g⟩ :: List.map jW r := rfl
theorem vH {P : Program} {c : Cfg} {all : List Oper} {K : St → Prop} : ∀ (r : List Oper) (st : St), kL P c all (r.map jW) st K = kL P c all r st K
 | [], _ => rfl
 | o :: r, st => by
  have ih : (fun st' => kL P c all (r.map jW) st' K) = fun st' => kL P c all r st' K := funext fun st' => vH r st';show kL P c all (jW o :: r.map jW) st K = _
  unfold kL;simp only [jW, ih];split
  ·rfl
  ·split
   ·split
    ·rw [vH r]; rfl
    ·rfl
   ·rfl
theorem pE {P : Program} {c : Cfg} {all : List Oper} {K : St → Prop} : ∀ (r : List Oper) (ks : List DK) (st : St), fA P c all (r.map jW) ks st K = fA P c all r ks st K
 | [], _, _ => rfl
 | _ :: _, [], _ => rfl
 | o :: r, k :: ks, st => by
  have ih : (fun st' => fA P c all (r.map jW) ks st' K) = fun st' => fA P c all r ks st' K := funext fun st' => pE r ks st';show fA P c all (jW o :: r.map jW) (k :: ks) st K = _
  unfold fA;simp only [jW, ih];congr 1;split
  ·rfl
  ·split
   ·split
    ·rw [pE r]
    ·rfl
   ·rfl
theorem lD {P : Program} {c : Cfg} {id : Nat} {ops ops' : List Oper} {Q : Exit → St → Prop} {st : St} (he : ops.map jW = ops') (h : ∀ all : List Oper, (∀ j, aR all j = aR ops j) → ∀ K : St → Prop, (∀ s, Q .normal s → K s) → kL P c all ops' st K) : fK P (.region id ops.toArray false) Q st :=
 Ix fun K hK => by
  have := h ops (fun _ => rfl) K hK
  rwa [← he, vH] at this
theorem zB {P : Program} {c : Cfg} {id : Nat} {ops ops' : List Oper} (ks : List DK) {Q : Exit → St → Prop} {st : St} (hm : P.follows .mixedOrders = true) (hok : wD c ops ks = true) (he : ops.map jW = ops')
  (h : ∀ all : List Oper, (∀ j, aR all j = aR ops j) → ∀ K : St → Prop, (∀ s, Q .normal s → K s) → fA P c all ops' ks st K) : fK P (.region id ops.toArray true) Q st :=
 Sf ks hm hok fun K hK => by
  have := h ops (fun _ => rfl) K hK
  rwa [← he, pE] at this
def Hh : D → Prop
 | .v (.slice none 0 0) => True
 | _ => False
def pU (x y : D) : Prop := y = x ∨ (x.plain = true ∧ y = x.strip) ∨ (Hh x ∧ (y = .sl false [] ∨ y = .sl true []))
theorem Gw : Hh (.v (.slice none 0 0)) = True := rfl
def fM : List D → List D → Prop
 | [], [] => True
 | a :: r, b :: q => pU a b ∧ fM r q
 | _, _ => False
theorem cW {a b : List D} (h : a = b) : fM a b := by
 subst h;induction a with
 | nil => trivial
 | cons x r ih => exact ⟨.inl rfl, ih⟩
theorem wC : ∀ {a b : List D}, fM a b → a.length = b.length
 | [], [], _ => rfl
 | _ :: _, _ :: _, h => by simp [wC h.2]
 | [], _ :: _, h => h.elim
 | _ :: _, [], h => h.elim
theorem wV : ∀ {a b : List D}, fM a b → ∀ (i : Nat) (y : D), b[i]? = some y → ∃ x, a[i]? = some x ∧ pU x y
 | x :: _, _ :: _, h, 0, y, hy => by simp at hy; subst hy; exact ⟨x, rfl, h.1⟩
 | _ :: _, _ :: _, h, i + 1, y, hy => by simpa using wV h.2 i y (by simpa using hy)
 | [], [], _, _, _, hy => by simp at hy
 | [], _ :: _, h, _, _, _ => h.elim
 | _ :: _, [], h, _, _, _ => h.elim
theorem Ct.of_le {P : Program} {f : FuncId} {a a' : List D} {σ σ' : List (List D)} {Q : D → List (List D) → Prop} (h : Ct P f a σ Q) (e : fM a' a) (e2 : σ' = σ) : Ct P f a' σ' Q := by
 subst e2;refine ⟨h.1, fun w g vs hs hb ho => h.2 w g vs (by rw [hs, wC e]) hb ⟨ho.mem, ho.xlt, fun t => ?_, ho.ll, ho.loc, ho.ol, ho.obj⟩⟩;have hsl := ho.slot t;simp only [St.ofArgs] at hsl ⊢;unfold dK at hsl ⊢;cases hy : a[t]? with
 | none => exact ⟨.any _, .flat _ _ _ rfl⟩
 | some y =>
  obtain ⟨x, hx, hle⟩ := wV e t y hy;rw [hx] at hsl;rcases hle with rfl | ⟨hp, rfl⟩ | ⟨hn, hy⟩
  ·exact hsl
  ·exact kA hsl.1 hp t
  ·have hxn : x = .v (.slice none 0 0) := by
    unfold Hh at hn;split at hn
    ·rfl
    ·exact hn.elim
   subst hxn;obtain ⟨hr, _⟩ := hsl;have hv := hr.vEq;rcases hy with rfl | rfl
   ·exact ⟨by rw [hv]; exact .nil _, .flat _ _ _ rfl⟩
   ·exact ⟨by rw [hv]; exact .nil _, .sl _ _ _ (.inl ⟨_, _, hv⟩)⟩
theorem rU : ∀ (sets : List (Nat × Slot)) (l : List (Nat × Slot)), dH sets (cX l) = cX (sets.reverseAux l)
 | [], l => rfl
 | (a, s) :: r, l => by
  show dH r (fun u => if u = a then s else cX l u) = _
  have : (fun u => if u = a then s else cX l u) = cX ((a, s) :: l) := by funext u; rw [kW]
  rw [this, rU r]; rfl
theorem aA7 (n : Nat) (l : List (Nat × Slot)) (loc obj : List (List D)) (sets : List (Nat × Slot)) (ob : Option (List (List D))) : (St.mk' n l loc obj).upd ⟨sets, none, ob⟩ = St.mk' n (sets.reverseAux l) loc (ob.getD obj) := by
 show ({ n := n, env := dH sets (cX l), loc := loc, obj := ob.getD obj } : St) = _
 rw [rU]; rfl
theorem Gi (l : List (Nat × Slot)) : List.reverseAux [] l = l := rfl
theorem Fq (a : Nat × Slot) (r l : List (Nat × Slot)) : List.reverseAux (a :: r) l = List.reverseAux r (a :: l) := rfl
def Pj (R : iH) (K : List (Nat × Slot) → Option (List (List D)) → Prop) : Prop := ∃ sets ob, R sets ob ∧ K sets ob
@[congr] theorem aEz {R R' : iH} {K : List (Nat × Slot) → Option (List (List D)) → Prop} (h : R = R') : Pj R K = Pj R' K := by rw [h]
theorem aCh {P : Program} {alt : Bool} {dst : Option Tmp} {op : Op} {st : St} {K : St → Prop} : vcY P alt dst op st K = Pj (fun sets ob => yR P alt dst op st.rdS (if (Qh alt op).rO = true then st.obj else []) sets ob) (fun sets ob => K (st.upd ⟨sets, none, ob⟩)) := rfl
theorem aB7 {S : List (Nat × Slot)} {O : Option (List (List D))} {K : List (Nat × Slot) → Option (List (List D)) → Prop} : Pj (fun sets ob => sets = S ∧ ob = O) K = K S O := by
 apply propext;constructor
 ·rintro ⟨_, _, ⟨rfl, rfl⟩, h⟩; exact h
 ·intro h; exact ⟨_, _, ⟨rfl, rfl⟩, h⟩
theorem Ws {C : Prop} {R : iH} {K : List (Nat × Slot) → Option (List (List D)) → Prop} : Pj (fun sets ob => C ∧ R sets ob) K = (C ∧ Pj (fun sets ob => R sets ob) K) := by
 apply propext;constructor
 ·rintro ⟨_, _, ⟨h1, h2⟩, h⟩; exact ⟨h1, _, _, h2, h⟩
 ·rintro ⟨h1, _, _, h2, h⟩; exact ⟨_, _, ⟨h1, h2⟩, h⟩
theorem aCb {α : Type} {R : α → iH} {K : List (Nat × Slot) → Option (List (List D)) → Prop} : Pj (fun sets ob => ∃ x, R x sets ob) K = ∃ x, Pj (fun sets ob => R x sets ob) K := by
 apply propext;constructor
 ·rintro ⟨_, _, ⟨x, h2⟩, h⟩; exact ⟨x, _, _, h2, h⟩
 ·rintro ⟨x, _, _, h2, h⟩; exact ⟨_, _, ⟨x, h2⟩, h⟩
theorem aCw {R S : iH} {K : List (Nat × Slot) → Option (List (List D)) → Prop} : Pj (fun sets ob => R sets ob ∨ S sets ob) K = (Pj (fun sets ob => R sets ob) K ∨ Pj (fun sets ob => S sets ob) K) := by
 apply propext;constructor
 ·rintro ⟨_, _, h1 | h1, h⟩
  ·exact .inl ⟨_, _, h1, h⟩
  ·exact .inr ⟨_, _, h1, h⟩
 ·rintro (⟨_, _, h1, h⟩ | ⟨_, _, h1, h⟩)
  ·exact ⟨_, _, .inl h1, h⟩
  ·exact ⟨_, _, .inr h1, h⟩
theorem aDz {K : List (Nat × Slot) → Option (List (List D)) → Prop} : Pj (fun _ _ => False) K = False := by
 apply propext;exact ⟨fun ⟨_, _, h, _⟩ => h, False.elim⟩
attribute [simp] aCh aB7 Ws aCb aCw aDz
attribute [simp] aA7 Gi Fq isY sR Cm yR Wm Wn sO zI Oq Ns oK Ad No Qh Ev qP Vk Gw mV mE oP xK kR sW oO tU oW zO lR Bool.true_or Bool.false_or
theorem Lk (cs : List D) : D.strip (.tup cs) = .tup (cs.map D.s2) := rfl
attribute [simp] Lk D.plain
theorem aBo (n : Nat) (cs : List D) : oM true n cs = if n ≤ cs.length then some (.agg (cs.take n)) else none := rfl
theorem aCd (n : Nat) (cs : List D) : oM false n cs = cs.head? := rfl
theorem aV (cs : List D) (off : Nat) (ds : List D) : cN cs off ds = cs.take off ++ ds ++ cs.drop (off + ds.length) := rfl
attribute [simp low] aBo aCd aV
attribute [simp] Bo Fj aBs Ry Ou Yy Sz Xm Nl Vt aCm
attribute [simp] Ni Vx Tn aA9 aEd aDr aBl aAz aD3 aD9 aDc Lf Qc Rq Md Qg Ub Ik Nc Ow Nn Uc Pw aDm aC5 Xp aCf Wr Vu Lv iS mC kH Ia Dm Aj Pu Dw Lj Nd Fv Hd
attribute [simp] Xb List.getElem?_cons_zero Option.bind_some Ku vB uU uW Ab yV Yg Su Qo Vw Rn Ki Lx Qm aCv Sp mH aEj Vz
 Ya Uz Hw Yc Zg aAb Te Mr Mk Mj Oa Nj aFz aD7 aB0 aCp aC7 aA0 aDp aAs aCc aCi aCl
 Yv Rj Mv Kz Lp Pd Nu Zx Ro Pb Mw Of Lg Rb Nf Gs Gj Zs Uq Ng Mf
 dZ Xz Pm Uh Mn aCa Zt Ur Pr Zb aAn aAu aBw aBu aBc aBj Mi aB8 aA6 Zw Va Wb aQ eL Aq Xj cJ Oj tM fY kX lL jE eG flX oZ wE Ei fF nF tW aAa tX uP fU eS gT mY gR mO mR dP jD Ca mW jC
 lF uG oL mX fS iN kG vW kV oF fT gK dJ nJ pQ Aa St.cellsAt St.park Slot.plus Slot.isAddr Js D.ofList
 Od Ip Ye aDq Xn We cT Vp yF Zm aA8 Qt gC jA eY xP xQ sM Tv Le Nb Mp
end Go.Vm

