import Derived.Test.YtpfmpeaekgdgnaaGreatVm21
namespace Go.Vm
open Go
set_option linter.all false
section
variable {P : Program}
theorem q_then_n {y : Code} {Q : Exit → St → Prop} {s : St} (h : AWP P y Q s) : thenQ P y Q .normal s := h
theorem q_then_e {y : Code} {Q : Exit → St → Prop} {s : St} {i : Nat} (h : Q (.exit i) s) : thenQ P y Q (.exit i) s := h
theorem q_then_r {y : Code} {Q : Exit → St → Prop} {s : St} (h : Q .ret s) : thenQ P y Q .ret s := h
theorem q_block_n {i : Nat} {Q : Exit → St → Prop} {s : St} (h : Q .normal s) : blockQ i Q .normal s := h
theorem q_block_e {i : Nat} {Q : Exit → St → Prop} {s : St} (h : Q .normal s) : blockQ i Q (.exit i) s := by simpa [blockQ] using h
theorem q_block_r {i : Nat} {Q : Exit → St → Prop} {s : St} (h : Q .ret s) : blockQ i Q .ret s := h
theorem q_loop_e {α : Type} {S : α → St} {p : α → Prop} {m : α → Nat} {x : α} {Q : Exit → St → Prop} {s : St} {i : Nat} (h : Q (.exit i) s) : loopQ S p m x Q (.exit i) s := h
theorem q_loop_r {α : Type} {S : α → St} {p : α → Prop} {m : α → Nat} {x : α} {Q : Exit → St → Prop} {s : St} (h : Q .ret s) : loopQ S p m x Q .ret s := h
def condVC (d : D) (A B : Prop) : Prop := match d with
 | .v (.bool t) => (t = true → A) ∧ (t = false → B)
 | _ => False
theorem vcL_step {c : Cfg} {all r : List Oper} {d : Option Tmp} {op : Op} {ty : TypeId} {pos : String} {after : Array Edge} {st : St} {K : St → Prop} (h : ∀ K' : St → Prop, (∀ s, vcL P c all r s K → K' s) → dOk d st ∧ vcOp' P c d op st K') : vcL P c all (⟨d, op, ty, pos, after, none⟩ :: r) st K :=
 h _ fun _ h => h
theorem vcL_split {c : Cfg} {all : List Oper} (n : Nat) {r : List Oper} {st : St} {K : St → Prop} (h : ∀ K' : St → Prop, (∀ s, vcL P c all (r.drop n) s K → K' s) → vcL P c all (r.take n) st K') : vcL P c all r st K := by
 have go : ∀ (n : Nat) (r : List Oper) (st : St), vcL P c all (r.take n) st (fun s => vcL P c all (r.drop n) s K) → vcL P c all r st K := by
  intro n
  induction n with
  | zero => intro r st h; exact h
  | succ n ih =>
   intro r st h
   cases r with
   | nil => exact h
   | cons o r =>
    simp only [List.take_succ_cons, List.drop_succ_cons] at h
    unfold vcL at h ⊢
    split at h
    ·rename_i hg
     have hd := h.1
     refine ⟨hd, ?_⟩
     exact vcOp'_mono (fun s hs => ih r s hs) h.2
    ·rename_i j want hg
     split at h
     ·split at h
      ·exact ⟨fun hb => ⟨(h.1 hb).1, vcOp'_mono (fun s hs => ih r s hs) (h.1 hb).2⟩, fun hb => ⟨(h.2 hb).1, ih r _ (h.2 hb).2⟩⟩
      ·exact h.elim
     ·exact h.elim
 exact go n r st (h _ fun _ h => h)
theorem vcL_g {c : Cfg} {all r : List Oper} {d : Option Tmp} {op : Op} {ty : TypeId} {pos : String} {after : Array Edge} {j t : Nat} {b want : Bool} {st : St} {K : St → Prop} (hg : guardOf all j = some t) (hs : st.env t = .d (.v (.bool b)))
  (h1 : b = want → ∀ K' : St → Prop, (∀ s, vcL P c all r s K → K' s) → dOk d st ∧ vcOp' P c d op st K') (h2 : b = !want → dOk d st ∧ vcL P c all r (st.put d .und) K) : vcL P c all (⟨d, op, ty, pos, after, some (j, want)⟩ :: r) st K := by
 rw [vcL_guard]
 simp only [hg, hs]
 exact ⟨fun hb => h1 hb _ fun _ h => h, h2⟩
theorem vcL_gt {c : Cfg} {all r : List Oper} {d : Option Tmp} {op : Op} {ty : TypeId} {pos : String} {after : Array Edge} {j t : Nat} {b want : Bool} {st : St} {K : St → Prop} (hg : guardOf all j = some t) (hs : st.env t = .d (.v (.bool b))) (hb : b = want)
  (h1 : ∀ K' : St → Prop, (∀ s, vcL P c all r s K → K' s) → dOk d st ∧ vcOp' P c d op st K') : vcL P c all (⟨d, op, ty, pos, after, some (j, want)⟩ :: r) st K :=
 vcL_g hg hs (fun _ => h1) fun h => (by rw [hb] at h; cases want <;> cases h)
theorem bool_env {n t : Nat} {l : List (Nat × Slot)} {loc obj : List (List D)} {b : Bool} (hs : envOf l t = .d (.v (.bool b))) : St.mk' n l loc obj = St.mk' n ((t, .d (.bool b)) :: l) loc obj := by
 unfold St.mk'
 congr 1
 funext u
 simp only [envOf]
 split
 ·rename_i e; rw [e, hs]
 ·rfl
theorem vcL_bool {c : Cfg} {all r : List Oper} {n : Nat} {l : List (Nat × Slot)} {loc obj : List (List D)} {K : St → Prop} (t : Nat) {s : Slot} (hs : envOf l t = s)
  (h : condVC s.toD (vcL P c all r (St.mk' n ((t, .d (.bool true)) :: l) loc obj) K) (vcL P c all r (St.mk' n ((t, .d (.bool false)) :: l) loc obj) K)) : vcL P c all r (St.mk' n l loc obj) K := by
 unfold condVC at h
 split at h
 ·rename_i b hb
  have hs' : envOf l t = .d (.v (.bool b)) := by
   rw [hs]
   cases s with
   | d d => simp only [Slot.toD] at hb; rw [hb]
   | lref n o => simp [Slot.toD] at hb
  rw [bool_env hs']
  cases b
  ·exact h.2 rfl
  ·exact h.1 rfl
 ·exact h.elim
def vcLk (P : Program) (c : Cfg) (all r : List Oper) (K : St → Prop) : St → Prop := fun st => vcL P c all r st K
theorem vcLk_app {c : Cfg} {all r : List Oper} {K : St → Prop} {st : St} : vcLk P c all r K st = vcL P c all r st K := rfl
theorem vcL_one {c : Cfg} {all r : List Oper} {d : Option Tmp} {op : Op} {ty : TypeId} {pos : String} {after : Array Edge} {st : St} {K : St → Prop} : vcL P c all (⟨d, op, ty, pos, after, none⟩ :: r) st K = (dOk d st ∧ vcOp' P c d op st (vcLk P c all r K)) := rfl
def vcDLk (P : Program) (c : Cfg) (all r : List Oper) (ks : List DK) (K : St → Prop) : St → Prop := fun st => vcDL P c all r ks st K
theorem vcDLk_app {c : Cfg} {all r : List Oper} {ks : List DK} {K : St → Prop} {st : St} : vcDLk P c all r ks K st = vcDL P c all r ks st K := rfl
theorem vcDL_one {c : Cfg} {all r : List Oper} {d : Option Tmp} {op : Op} {ty : TypeId} {pos : String} {after : Array Edge} {k : DK} {ks : List DK} {st : St} {K : St → Prop} : vcDL P c all (⟨d, op, ty, pos, after, none⟩ :: r) (k :: ks) st K = (dOk d st ∧ vcD P c d op k st (vcDLk P c all r ks K)) := rfl
@[congr] theorem vcBin_cg {op : BinOp} {t : TypeId} {x y x' y' : Slot} {K : D → Prop} (hx : x = x') (hy : y = y') : vcBin P op t x y K = vcBin P op t x' y' K := by rw [hx, hy]
@[congr] theorem vcInt_cg {op : BinOp} {k : IntKind} {a b a' b' : Int} {K : D → Prop} (hx : a = a') (hy : b = b') : vcInt op k a b K = vcInt op k a' b' K := by rw [hx, hy]
@[congr] theorem vcStr_cg {op : BinOp} {a b a' b' : ByteArray} {K : D → Prop} (hx : a = a') (hy : b = b') : vcStr op a b K = vcStr op a' b' K := by rw [hx, hy]
@[congr] theorem vcAgg_cg {t : TypeId} {a b a' b' : List D} {K : Bool → Prop} (hx : a = a') (hy : b = b') : vcAgg P t a b K = vcAgg P t a' b' K := by rw [hx, hy]
@[congr] theorem vcUn_cg {op : UnOp} {x x' : D} {K : D → Prop} (hx : x = x') : vcUn op x K = vcUn op x' K := by rw [hx]
def sel (b : Bool) (s r : Slot) : Slot := if b = true then s else r
@[congr] theorem sel_cg {b b' : Bool} {s r : Slot} (h : b = b') : sel b s r = sel b' s r := by rw [h]
theorem sel_t {s r : Slot} : sel true s r = s := rfl
theorem sel_f {s r : Slot} : sel false s r = r := rfl
theorem envOf_sel (a : Nat) (s : Slot) (r : List (Nat × Slot)) (t : Nat) : envOf ((a, s) :: r) t = sel (t == a) s (envOf r t) := by
 simp only [envOf, sel, beq_iff_eq]
def gv3 (s : Slot) (want : Bool) : Option Bool := gRead s want
def gv2 (o : Option Tmp) (st : St) (want : Bool) : Option Bool := match o with
 | some t => gv3 (st.env t) want
 | none => none
@[congr] theorem gv2_cg {o o' : Option Tmp} {st : St} {want : Bool} (h : o = o') : gv2 o st want = gv2 o' st want := by rw [h]
theorem gv2_some (t : Tmp) (st : St) (want : Bool) : gv2 (some t) st want = gv3 (st.env t) want := rfl
theorem gv3_bool (b want : Bool) : gv3 (.d (.v (.bool b))) want = some b := rfl
theorem gv3_und (want : Bool) : gv3 (.d (.tup [])) want = some (!want) := rfl
def gval (all : List Oper) (j : Nat) (st : St) (want : Bool) : Option Bool := match guardOf all j with
 | some t => gRead (st.env t) want
 | none => none
theorem gval_eq (all : List Oper) (j : Nat) (st : St) (want : Bool) : gval all j st want = gv2 (guardOf all j) st want := rfl
def vcG (g : Option Bool) (want : Bool) (A B : Prop) : Prop := match g with
 | some b => (b = want → A) ∧ (b = !want → B)
 | none => False
@[congr] theorem vcG_congr {g g' : Option Bool} {want : Bool} {A B : Prop} (h : g = g') : vcG g want A B = vcG g' want A B := by rw [h]
theorem vcG_tt {A B : Prop} : vcG (some true) true A B = A := by simp [vcG]
theorem vcG_tf {A B : Prop} : vcG (some true) false A B = B := by simp [vcG]
theorem vcG_ft {A B : Prop} : vcG (some false) true A B = B := by simp [vcG]
theorem vcG_ff {A B : Prop} : vcG (some false) false A B = A := by simp [vcG]
theorem vcL_gd {c : Cfg} {all r : List Oper} {d : Option Tmp} {op : Op} {ty : TypeId} {pos : String} {after : Array Edge} {j : Nat} {want : Bool} {st : St} {K : St → Prop} : vcL P c all (⟨d, op, ty, pos, after, some (j, want)⟩ :: r) st K =
  vcG (gval all j st want) want (dOk d st ∧ vcOp' P c d op st (vcLk P c all r K)) (dOk d st ∧ vcL P c all r (st.put d .und) K) := by
 rw [vcL_guard]
 unfold gval vcG
 split
 ·rename_i t ht
  simp only [ht]
  split
  ·rename_i h; simp [h]; exact fun _ => Iff.rfl
  ·rename_i h; simp [h]
 ·rename_i h; simp [h]
def vcPB (d : D) (A B : Prop) : Prop := match d with
 | .v (.bool t) => (t = true → A) ∧ (t = false → B)
 | _ => False
@[congr] theorem vcPB_congr {d d' : D} {A B : Prop} (h : d = d') : vcPB d A B = vcPB d' A B := by rw [h]
theorem vcPB_t {A B : Prop} : vcPB (.v (.bool true)) A B = A := by simp [vcPB]
theorem vcPB_f {A B : Prop} : vcPB (.v (.bool false)) A B = B := by simp [vcPB]
theorem vcPick_eq {dst : Option Tmp} {c a b : Operand} {st : St} {K : St → Prop} : vcPick dst c a b st K = vcPB (st.rd c) ((st.rd a).plain = true ∧ K (st.put dst (.d (st.rd a).strip))) ((st.rd b).plain = true ∧ K (st.put dst (.d (st.rd b).strip))) := rfl
theorem vcD_mono {c : Cfg} {dst : Option Tmp} {op : Op} {k : DK} {st : St} {K K' : St → Prop} (hk : ∀ s, K s → K' s) (h : vcD P c dst op k st K) : vcD P c dst op k st K' := by
 unfold vcD at *
 cases k with
 | op f => exact ⟨h.1, h.2.1, vcOp'_mono hk h.2.2⟩
 | pure =>
  simp only at *
  split at h
  ·obtain ⟨h1, r, h2, h3⟩ := h; exact ⟨h1, r, h2, hk _ h3⟩
  ·exact h
 | pureC =>
  simp only at *
  split at h
  ·split at h
   ·rename_i hf
    obtain ⟨h0, h1, r, h2, h3⟩ := h
    exact ⟨h0, h1, r, h2, hk _ h3⟩
   ·exact h.elim
  ·exact h
 | read =>
  simp only at *
  split at h
  ·obtain ⟨h1, r, h2, h3⟩ := h; exact ⟨h1, r, h2, hk _ h3⟩
  ·exact h
 | det =>
  simp only at *
  split at h
  ·obtain ⟨h1, r, σ0, h2, h3⟩ := h; exact ⟨h1, r, σ0, h2, hk _ h3⟩
  ·exact h
 | pureT =>
  simp only at *
  split at h
  ·obtain ⟨h0, h1, r, h2, h3⟩ := h; exact ⟨h0, h1, r, h2, hk _ h3⟩
  ·exact h
 | detT =>
  simp only at *
  split at h
  ·obtain ⟨h0, h1, r, σ0, h2, h3⟩ := h; exact ⟨h0, h1, r, σ0, h2, hk _ h3⟩
  ·exact h
theorem vcDL_nil {c : Cfg} {all : List Oper} {ks : List DK} {st : St} {K : St → Prop} : vcDL P c all [] ks st K = K st := by unfold vcDL; rfl
theorem vcDL_gd {c : Cfg} {all r : List Oper} {d : Option Tmp} {op : Op} {ty : TypeId} {pos : String} {after : Array Edge} {j : Nat} {want : Bool} {k : DK} {ks : List DK} {st : St} {K : St → Prop} : vcDL P c all (⟨d, op, ty, pos, after, some (j, want)⟩ :: r) (k :: ks) st K =
  (dOk d st ∧ vcG (gval all j st want) want (vcD P c d op k st (vcDLk P c all r ks K)) (vcDL P c all r ks (st.put d .und) K)) := by
 conv => lhs; unfold vcDL
 show (_ ∧ _) = _
 congr 1
 simp only
 unfold gval vcG
 split
 ·rename_i t ht
  simp only [ht]
  split
  ·rename_i h; simp [h]; exact fun _ => Iff.rfl
  ·rename_i h; simp [h]
 ·rename_i h; simp [h]
theorem vcDL_step {c : Cfg} {all r : List Oper} {d : Option Tmp} {op : Op} {ty : TypeId} {pos : String} {after : Array Edge} {k : DK} {ks : List DK} {st : St} {K : St → Prop} (h : ∀ K' : St → Prop, (∀ s, vcDL P c all r ks s K → K' s) → dOk d st ∧ vcD P c d op k st K') : vcDL P c all (⟨d, op, ty, pos, after, none⟩ :: r) (k :: ks) st K :=
 h _ fun _ h => h
theorem vcDL_split {c : Cfg} {all : List Oper} (n : Nat) {r : List Oper} {ks : List DK} {st : St} {K : St → Prop} (hks : n ≤ ks.length) (h : ∀ K' : St → Prop, (∀ s, vcDL P c all (r.drop n) (ks.drop n) s K → K' s) → vcDL P c all (r.take n) (ks.take n) st K') : vcDL P c all r ks st K := by
 have go : ∀ (n : Nat) (r : List Oper) (ks : List DK) (st : St), n ≤ ks.length → vcDL P c all (r.take n) (ks.take n) st (fun s => vcDL P c all (r.drop n) (ks.drop n) s K) → vcDL P c all r ks st K := by
  intro n
  induction n with
  | zero => intro r ks st _ h; simp only [List.take_zero, List.drop_zero, vcDL_nil] at h; exact h
  | succ n ih =>
   intro r ks st hks h
   cases ks with
   | nil => simp at hks
   | cons k ks =>
    cases r with
    | nil => simp only [List.take_nil, List.drop_nil, vcDL_nil] at h ⊢; exact h
    | cons o r =>
     simp only [List.take_succ_cons, List.drop_succ_cons] at h
     simp only [List.length_cons] at hks
     unfold vcDL at h ⊢
     refine ⟨h.1, ?_⟩
     have h2 := h.2
     split at h2
     ·exact vcD_mono (fun s hs => ih r ks s (by omega) hs) h2
     ·split at h2
      ·split at h2
       ·exact ⟨fun hb => vcD_mono (fun s hs => ih r ks s (by omega) hs) (h2.1 hb), fun hb => ih r ks _ (by omega) (h2.2 hb)⟩
       ·exact h2.elim
      ·exact h2.elim
 exact go n r ks st hks (h _ fun _ h => h)
theorem vcDL_bool {c : Cfg} {all r : List Oper} {ks : List DK} {n : Nat} {l : List (Nat × Slot)} {loc obj : List (List D)} {K : St → Prop} (t : Nat) {s : Slot} (hs : envOf l t = s)
  (h : condVC s.toD (vcDL P c all r ks (St.mk' n ((t, .d (.bool true)) :: l) loc obj) K) (vcDL P c all r ks (St.mk' n ((t, .d (.bool false)) :: l) loc obj) K)) : vcDL P c all r ks (St.mk' n l loc obj) K := by
 unfold condVC at h
 split at h
 ·rename_i b hb
  have hs' : envOf l t = .d (.v (.bool b)) := by
   rw [hs]
   cases s with
   | d d => simp only [Slot.toD] at hb; rw [hb]
   | lref n o => simp [Slot.toD] at hb
  rw [bool_env hs']
  cases b
  ·exact h.2 rfl
  ·exact h.1 rfl
 ·exact h.elim
def tidy : List Nat → List (Nat × Slot) → List (Nat × Slot)
 | _, [] => []
 | W, (t, s) :: r => if W.contains t then tidy W r else (t, s) :: tidy (t :: W) r
theorem leS_any (n : Nat) (s : Slot) : leS n s (.d .any) = True := by
 unfold leS; split <;> simp_all
theorem leS_d (n : Nat) (x : D) : leS n (.d x) (.d x) = True := by
 cases x with
 | sl o es => cases o <;> simp [leS]
 | _ => simp [leS]
theorem leS_own (n : Nat) (es : List D) : leS n (.d (.sl true es)) (.d (.sl false es)) = True := by
 unfold leS; simp
theorem leS_lref (n m o : Nat) : leS n (.lref m o) (.lref m o) = (m < n) := by
 unfold leS; simp
def leAll (n : Nat) (env : Nat → Slot) : List (Nat × Slot) → Prop
 | [] => True
 | (a, s) :: r => leS n (env a) s ∧ leAll n env r
theorem leAll_nil (n : Nat) (env : Nat → Slot) : leAll n env [] = True := rfl
theorem leAll_cons (n : Nat) (env : Nat → Slot) (a : Nat) (s : Slot) (r : List (Nat × Slot)) : leAll n env ((a, s) :: r) = (leS n (env a) s ∧ leAll n env r) := rfl
theorem leAll_spec {n : Nat} {env : Nat → Slot} : ∀ {l : List (Nat × Slot)}, leAll n env l → ∀ p ∈ l, leS n (env p.1) p.2
 | [], _, p, hp => by simp at hp
 | (a, s) :: r, h, p, hp => by
  rcases List.mem_cons.1 hp with rfl | hp
  ·exact h.1
  ·exact leAll_spec h.2 p hp
theorem weak_mkA {st : St} {n : Nat} {l : List (Nat × Slot)} {loc obj : List (List D)} (hn : st.n = n) (hl : leAll loc.length st.env l) (hloc : loc <+: st.loc) (hobj : st.obj = obj) : Weak st (St.mk' n l loc obj) :=
 weak_mk hn (leAll_spec hl) hloc hobj
theorem awp_loopE {α : Type} {n : Nat} {l l2 : List (Nat × Slot)} {loc obj : List (List D)} (F : α → List (Nat × Slot)) (W : List Nat) (p : α → Prop) (m : α → Nat) (x0 : α) {body : Code} {Q : Exit → St → Prop}
  (hl : tidy W l = l2) (hF : leAll loc.length (envOf l) (F x0 ++ l2)) (hp : p x0)
  (h : ∀ x, p x → AWP P body (loopQ (fun x => St.mk' n (F x ++ l2) loc obj) p m x Q) (St.mk' n (F x ++ l2) loc obj)) : AWP P (.loop body) Q (St.mk' n l loc obj) :=
 awp_loop (fun x => St.mk' n (F x ++ l2) loc obj) p m x0 (weak_mk rfl (leAll_spec hF) (List.prefix_refl _) rfl) hp h
theorem awp_loopL {α : Type} {n : Nat} {l l2 : List (Nat × Slot)} {loc obj : List (List D)} (F : α → List (Nat × Slot)) (G : α → List (List D)) (W : List Nat) (p : α → Prop) (m : α → Nat) (x0 : α) {body : Code} {Q : Exit → St → Prop}
  (hl : tidy W l = l2) (hF : leAll (G x0).length (envOf l) (F x0 ++ l2)) (hG : G x0 = loc) (hp : p x0)
  (h : ∀ x, p x → AWP P body (loopQ (fun x => St.mk' n (F x ++ l2) (G x) obj) p m x Q) (St.mk' n (F x ++ l2) (G x) obj)) : AWP P (.loop body) Q (St.mk' n l loc obj) :=
 awp_loop (fun x => St.mk' n (F x ++ l2) (G x) obj) p m x0 (weak_mk rfl (leAll_spec hF) (by rw [hG]; exact List.prefix_refl _) rfl) hp h
theorem awp_loopO {α : Type} {n : Nat} {l l2 : List (Nat × Slot)} {loc obj : List (List D)} (F : α → List (Nat × Slot)) (G H : α → List (List D)) (W : List Nat) (p : α → Prop) (m : α → Nat) (x0 : α) {body : Code} {Q : Exit → St → Prop}
  (hl : tidy W l = l2) (hF : leAll (G x0).length (envOf l) (F x0 ++ l2)) (hG : G x0 = loc) (hH : H x0 = obj) (hp : p x0)
  (h : ∀ x, p x → AWP P body (loopQ (fun x => St.mk' n (F x ++ l2) (G x) (H x)) p m x Q) (St.mk' n (F x ++ l2) (G x) (H x))) : AWP P (.loop body) Q (St.mk' n l loc obj) :=
 awp_loop (fun x => St.mk' n (F x ++ l2) (G x) (H x)) p m x0 (weak_mk rfl (leAll_spec hF) (by rw [hG]; exact List.prefix_refl _) hH.symm) hp h
theorem q_round {α : Type} {S : α → St} {p : α → Prop} {m : α → Nat} {x : α} {Q : Exit → St → Prop} {s : St} (y : α) (hp : p y) (hm : m y < m x) (hw : Weak s (S y)) : loopQ S p m x Q .normal s := ⟨y, hp, hm, hw⟩
theorem strip_mref (n : Nat) : D.strip (.mref n) = .mref n := rfl
theorem s1_mref (n : Nat) : D.s1 (.mref n) = .mref n := rfl
theorem s2_mref (n : Nat) : D.s2 (.mref n) = .mref n := rfl
theorem plain_mref (n : Nat) : D.plain (.mref n) = true := rfl
theorem solid_mref (n : Nat) : D.solid (.mref n) = true := rfl
theorem ncells_mref (n : Nat) : D.ncells (.mref n) = 1 := rfl
theorem cells_mref (n : Nat) : D.cells (.mref n) = [.mref n] := rfl
theorem strip_mp (n c : Nat) (kd : TypeDesc) (kvs : List (Value × Nat × D)) : D.strip (.mp n kd c kvs) = .mref n := rfl
theorem s1_mp (n c : Nat) (kd : TypeDesc) (kvs : List (Value × Nat × D)) : D.s1 (.mp n kd c kvs) = .mref n := rfl
theorem s2_mp (n c : Nat) (kd : TypeDesc) (kvs : List (Value × Nat × D)) : D.s2 (.mp n kd c kvs) = .mref n := rfl
theorem plain_mp (n c : Nat) (kd : TypeDesc) (kvs : List (Value × Nat × D)) : D.plain (.mp n kd c kvs) = true := rfl
theorem solid_mp (n c : Nat) (kd : TypeDesc) (kvs : List (Value × Nat × D)) : D.solid (.mp n kd c kvs) = true := rfl
theorem ncells_mp (n c : Nat) (kd : TypeDesc) (kvs : List (Value × Nat × D)) : D.ncells (.mp n kd c kvs) = 1 := rfl
theorem cells_mp (n c : Nat) (kd : TypeDesc) (kvs : List (Value × Nat × D)) : D.cells (.mp n kd c kvs) = [.mp n kd c kvs] := rfl
theorem strip_ifc (t : TypeId) (d : D) : D.strip (.ifc t d) = .ifc t d := rfl
theorem s1_ifc (t : TypeId) (d : D) : D.s1 (.ifc t d) = .ifc t d := rfl
theorem s2_ifc (t : TypeId) (d : D) : D.s2 (.ifc t d) = .ifc t d := rfl
theorem plain_ifc (t : TypeId) (d : D) : D.plain (.ifc t d) = true := rfl
theorem solid_ifc (t : TypeId) (d : D) : D.solid (.ifc t d) = true := rfl
theorem ncells_ifc (t : TypeId) (d : D) : D.ncells (.ifc t d) = 1 := rfl
theorem cells_ifc (t : TypeId) (d : D) : D.cells (.ifc t d) = [.ifc t d] := rfl
theorem arr_mref (n : Nat) : D.arr (.mref n) = true := rfl
attribute [simp] strip_mref s1_mref s2_mref plain_mref solid_mref ncells_mref cells_mref strip_mp s1_mp s2_mp plain_mp solid_mp ncells_mp cells_mp strip_ifc s1_ifc s2_ifc plain_ifc solid_ifc ncells_ifc cells_ifc arr_mref
theorem strip_slo (n a b c : Nat) : D.strip (.slo n a b c) = .slo n a b c := rfl
theorem strip_xl (n : Nat) : D.strip (.xl n) = .xl n := rfl
theorem strip_xs (k : Nat) (es : List D) : D.strip (.xs k es) = .xl es.length := rfl
theorem s2_slo (n a b c : Nat) : D.s2 (.slo n a b c) = .slo n a b c := rfl
theorem s2_xl (n : Nat) : D.s2 (.xl n) = .xl n := rfl
theorem s2_xs (k : Nat) (es : List D) : D.s2 (.xs k es) = .xl es.length := rfl
theorem s2_clo (f : Go.Fn) (a b : List D) : D.s2 (.clo f a b) = .clo f a b := rfl
theorem s1_slo (n a b c : Nat) : D.s1 (.slo n a b c) = .slo n a b c := rfl
theorem s1_xl (n : Nat) : D.s1 (.xl n) = .xl n := rfl
theorem s1_xs (k : Nat) (es : List D) : D.s1 (.xs k es) = .xl es.length := rfl
theorem s1_clo (f : Go.Fn) (a b : List D) : D.s1 (.clo f a b) = .clo f a b := rfl
theorem plain_slo (n a b c : Nat) : D.plain (.slo n a b c) = true := rfl
theorem plain_xl (n : Nat) : D.plain (.xl n) = true := rfl
theorem plain_xs (k : Nat) (es : List D) : D.plain (.xs k es) = true := rfl
theorem solid_slo (n a b c : Nat) : D.solid (.slo n a b c) = true := rfl
theorem solid_xl (n : Nat) : D.solid (.xl n) = true := rfl
theorem solid_xs (k : Nat) (es : List D) : D.solid (.xs k es) = true := rfl
theorem ncells_slo (n a b c : Nat) : D.ncells (.slo n a b c) = 1 := rfl
theorem ncells_xl (n : Nat) : D.ncells (.xl n) = 1 := rfl
theorem ncells_xs (k : Nat) (es : List D) : D.ncells (.xs k es) = 1 := rfl
theorem cells_slo (n a b c : Nat) : D.cells (.slo n a b c) = [.slo n a b c] := rfl
theorem cells_xl (n : Nat) : D.cells (.xl n) = [.xl n] := rfl
theorem cells_xs (k : Nat) (es : List D) : D.cells (.xs k es) = [.xs k es] := rfl
theorem arr_v (x : Value) : D.arr (.v x) = true := rfl
theorem arr_sl (es : List D) : D.arr (.sl false es) = true := rfl
theorem arr_agg (cs : List D) : D.arr (.agg cs) = cs.all D.flat := rfl
theorem flat_v (x : Value) : D.flat (.v x) = true := rfl
theorem flat_sl (es : List D) : D.flat (.sl false es) = true := rfl
theorem flat_ref (n o : Nat) : D.flat (.ref n o) = true := rfl
def setL : List (Nat × List D) → List (List D) → List (List D)
 | [], l => l
 | (n, c) :: r, l => (setL r l).set n c
theorem setL_nil (l : List (List D)) : setL [] l = l := rfl
theorem setL_cons (n : Nat) (c : List D) (r : List (Nat × List D)) (l : List (List D)) : setL ((n, c) :: r) l = (setL r l).set n c := rfl
theorem awp_loopM {P : Program} {α : Type} {n : Nat} {l l2 : List (Nat × Slot)} {loc obj : List (List D)} (F : α → List (Nat × Slot)) (M N : α → List (Nat × List D)) (W : List Nat) (p : α → Prop) (m : α → Nat) (x0 : α) {body : Code} {Q : Exit → St → Prop}
  (hl : tidy W l = l2) (hF : leAll (setL (M x0) loc).length (envOf l) (F x0 ++ l2)) (hG : setL (M x0) loc = loc) (hH : setL (N x0) obj = obj) (hp : p x0)
  (h : ∀ x, p x → AWP P body (loopQ (fun x => St.mk' n (F x ++ l2) (setL (M x) loc) (setL (N x) obj)) p m x Q) (St.mk' n (F x ++ l2) (setL (M x) loc) (setL (N x) obj))) : AWP P (.loop body) Q (St.mk' n l loc obj) :=
 awp_loopO F (fun x => setL (M x) loc) (fun x => setL (N x) obj) W p m x0 hl hF hG hH hp h
theorem getq_last {α : Type} (l : List α) (a : α) : (l ++ [a])[l.length]? = some a := by simp
theorem set_last {α : Type} (l : List α) (a b : α) : (l ++ [a]).set l.length b = l ++ [b] := by simp
def keepL : List Nat → List (Nat × Slot) → List (Nat × Slot)
 | [], _ => []
 | t :: r, l => (t, envOf l t) :: keepL r l
theorem keepL_nil (l : List (Nat × Slot)) : keepL [] l = [] := rfl
theorem keepL_cons (t : Nat) (r : List Nat) (l : List (Nat × Slot)) : keepL (t :: r) l = (t, envOf l t) :: keepL r l := rfl
theorem keepL_env (l : List (Nat × Slot)) (u : Nat) : ∀ K : List Nat, envOf (keepL K l) u = envOf l u ∨ envOf (keepL K l) u = .any
 | [] => .inr rfl
 | t :: r => by
  rw [keepL_cons, envOf_cons]
  split
  ·rename_i h; subst h; exact .inl rfl
  ·exact keepL_env l u r
theorem awp_keep {P : Program} (K : List Nat) {l2 : List (Nat × Slot)} {c : Code} {n : Nat} {l : List (Nat × Slot)} {loc obj : List (List D)} {Q : Exit → St → Prop} (hl : keepL K l = l2) (h : AWP P c Q (St.mk' n l2 loc obj)) : AWP P c Q (St.mk' n l loc obj) := by
 subst hl
 intro w0 g0 w g tmps hf hok hn
 refine h w0 g0 w g tmps hf ⟨hok.mem, hok.xlt, fun t => ?_, hok.ll, hok.loc, hok.ol, hok.obj⟩ hn
 have hs := hok.slot t
 show SlotOk w g t (envOf (keepL K l) t) _
 rcases keepL_env l t K with e | e
 ·rw [e]; exact hs
 ·rw [e]; exact ⟨.any _, .flat _ _ _ rfl⟩
theorem awp_openX {P : Program} (ts k : Nat) {es : List D} {c : Code} {n : Nat} {l : List (Nat × Slot)} {loc obj : List (List D)} {Q : Exit → St → Prop} (hs : envOf l ts = .d (.xs k es)) (hk0 : 0 < k)
  (h : ∀ (cap : Nat) (rest : List D), es.length ≤ cap → cap ≤ maxLen → rest.length = (cap - es.length) * k → 0 < k → (∀ d ∈ es, d.ncells = k ∧ d.arr = true) → AWP P c Q (St.mk' n ((ts, .d (.slo obj.length 0 es.length cap)) :: l) loc (obj ++ [es.flatMap D.cells ++ rest]))) : AWP P c Q (St.mk' n l loc obj) := by
 intro w0 g0 w g tmps hf hok hn
 obtain ⟨cap, rest, g', a1, a2, a3, a4, a5, _, hfr, hok'⟩ := hok.openX ts k es hs hk0
 exact h cap rest a1 a2 a3 a4 a5 w0 g0 w g' tmps (hf.trans hfr) hok' hn
theorem awp_openX2 {P : Program} (ts k : Nat) {es : List D} {c : Code} {n : Nat} {l : List (Nat × Slot)} {loc obj : List (List D)} {Q : Exit → St → Prop} (hs : envOf l ts = .d (.xs k es)) (hk0 : 0 < k)
  (h : ∀ (cap : Nat) (rest : List D), es.length ≤ cap → cap ≤ maxLen → rest = List.replicate ((cap - es.length) * k) .any → 0 < k → (∀ d ∈ es, d.ncells = k ∧ d.arr = true) → AWP P c Q (St.mk' n ((ts, .d (.slo obj.length 0 es.length cap)) :: l) loc (obj ++ [es.flatMap D.cells ++ rest]))) : AWP P c Q (St.mk' n l loc obj) := by
 intro w0 g0 w g tmps hf hok hn
 obtain ⟨cap, rest, g', a1, a2, a3, a4, a5, _, hfr, hok'⟩ := hok.openX2 ts k es hs hk0
 exact h cap rest a1 a2 a3 a4 a5 w0 g0 w g' tmps (hf.trans hfr) hok' hn
theorem awp_closeX {P : Program} (ts k m len cap : Nat) (es cs : List D) {c : Code} {n : Nat} {l : List (Nat × Slot)} {loc obj : List (List D)} {Q : Exit → St → Prop} (hs : envOf l ts = .d (.slo m 0 len cap)) (hm : obj[m]? = some cs) (hk : 0 < k) (hcs : cs.length = cap * k) (hl : es.length = len)
  (hes : ∀ d ∈ es, d.ncells = k ∧ d.arr = true) (he : es.flatMap D.cells <+: cs) (h : AWP P c Q (St.mk' n ((ts, .d (.xs k es)) :: l) loc (obj.set m []))) : AWP P c Q (St.mk' n l loc obj) := by
 intro w0 g0 w g tmps hf hok hn
 obtain ⟨g', _, hfr, hok'⟩ := hok.closeX ts k m len cap es cs hs hm hk hcs hl hes he
 exact h w0 g0 w g' tmps (hf.trans hfr) hok' hn
theorem getD_map {α : Type} (f : α → D) (l : List α) (k : Nat) (h : k < l.length) : (l.map f).getD k .any = f l[k] := by
 simp [List.getD, h]
theorem getElem?_map' {α : Type} (f : α → D) (l : List α) (k : Nat) (h : k < l.length) : (l.map f)[k]? = some (f l[k]) := by
 simp [h]
theorem inR_i64 (n : Int) : inR .i64 n = (-9223372036854775808 ≤ n ∧ n ≤ 9223372036854775807) := by
 unfold inR
 rfl
theorem inR_u8 (n : Int) : inR .u8 n = (0 ≤ n ∧ n ≤ 255) := by
 unfold inR
 rfl
end
theorem hsOk_nil : hsOk [] = true := rfl
theorem hsOk_none (r : List (Option Holder)) : hsOk (none :: r) = hsOk r := by simp [hsOk]
theorem hsOk_some (h : Holder) (r : List (Option Holder)) : hsOk (some h :: r) = (!r.contains (some h) && hsOk r) := by
 simp only [hsOk, List.filterMap_cons, id, List.nodup_cons, Bool.decide_and, List.contains_eq_mem]
 congr 1
 rw [← decide_not]
 congr 1
 simp [List.mem_filterMap]
theorem maxLen_eq : maxLen = 9223372036854775807 := rfl
theorem mk_fold (n : Nat) (l : List (Nat × Slot)) (loc obj : List (List D)) : ({ n := n, env := envOf l, loc := loc, obj := obj } : St) = St.mk' n l loc obj := rfl
def stripS : Slot → Slot
 | .d x => .d x.strip
 | s => s
def stripOn : List Nat → List (Nat × Slot) → List (Nat × Slot)
 | [], l => l
 | t :: r, l => (t, stripS (envOf l t)) :: stripOn r l
theorem stripOn_env (l : List (Nat × Slot)) (u : Nat) : ∀ ts : List Nat, envOf (stripOn ts l) u = if u ∈ ts then stripS (envOf l u) else envOf l u
 | [] => by simp [stripOn]
 | t :: r => by
  rw [stripOn, envOf_cons, stripOn_env l u r]
  by_cases h : u = t
  ·subst h; simp
  ·simp [h]
theorem stripOn_stripIn (l : List (Nat × Slot)) (ts : List (Option Nat)) : stripIn ts (envOf l) = envOf (stripOn (ts.filterMap id) l) := by
 funext u
 rw [stripOn_env]
 by_cases h : some u ∈ ts
 ·have h1 : ts.contains (some u) = true := by simpa using h
  have h2 : u ∈ ts.filterMap id := by simpa using h
  simp only [stripIn, h1, if_true, if_pos h2, stripS]
  split <;> simp_all
 ·have h1 : ts.contains (some u) = false := by simpa using h
  have h2 : ¬ u ∈ ts.filterMap id := by simpa using h
  simp only [stripIn, h1, if_neg h2]; rfl
theorem vcCallT_mk {P : Program} {d : Nat} {f : FuncId} {args : List Operand} {n : Nat} {l : List (Nat × Slot)} {loc obj : List (List D)} {K : St → Prop} : vcCallT P (some d) f args (St.mk' n l loc obj) K =
  ((args.filterMap opSlot).Nodup ∧ (∀ x ∈ args, noTup ((St.mk' n l loc obj).rdS x) = true ∧ ((St.mk' n l loc obj).rd x).plain = true) ∧
   Ct P f (args.map (argT (St.mk' n l loc obj))) obj (fun r σ' => K (St.mk' n ((d, .d r) :: stripOn (args.filterMap opSlot) l) loc σ'))) := by
 unfold vcCallT
 have e : (args.map opSlot).filterMap id = args.filterMap opSlot := by rw [List.filterMap_map]; rfl
 simp only [mk'_env, mk'_loc, mk'_obj, mk'_n, stripOn_stripIn, e]
 rfl
theorem stripOn_nil (l : List (Nat × Slot)) : stripOn [] l = l := rfl
theorem stripOn_cons (t : Nat) (r : List Nat) (l : List (Nat × Slot)) : stripOn (t :: r) l = (t, stripS (envOf l t)) :: stripOn r l := rfl
theorem stripS_d (x : D) : stripS (.d x) = .d x.strip := rfl
theorem stripS_lref (a b : Nat) : stripS (.lref a b) = .lref a b := rfl
theorem slots_nil : List.filterMap opSlot [] = [] := rfl
theorem slots_tmp (t : Tmp) (r : List Operand) : List.filterMap opSlot (.tmp t :: r) = t :: List.filterMap opSlot r := rfl
theorem slots_const (v : Value) (r : List Operand) : List.filterMap opSlot (.const v :: r) = List.filterMap opSlot r := rfl
theorem slots_func (v : FuncId) (r : List Operand) : List.filterMap opSlot (.func v :: r) = List.filterMap opSlot r := rfl
theorem vcD_pureT_mk {P : Program} {c : Cfg} {d : Nat} {f : FuncId} {args : Array Operand} {ts : Array TypeId} {n : Nat} {l : List (Nat × Slot)} {loc obj : List (List D)} {K : St → Prop} :
  vcD P c (some d) (.call ⟨.value (.func f), args, ts⟩) .pureT (St.mk' n l loc obj) K =
  ((args.toList.filterMap opSlot).Nodup ∧ (∀ x ∈ args.toList, noTup ((St.mk' n l loc obj).rdS x) = true ∧ ((St.mk' n l loc obj).rd x).plain = true) ∧
   ∃ r, (∀ σ, Ct P f (args.toList.map (argT (St.mk' n l loc obj))) σ fun r' σ' => r' = r ∧ σ' = σ) ∧ K (St.mk' n ((d, .d r) :: stripOn (args.toList.filterMap opSlot) l) loc obj)) := by
 have e : (args.toList.map opSlot).filterMap id = args.toList.filterMap opSlot := by rw [List.filterMap_map]; rfl
 simp only [vcD, mk'_env, mk'_loc, mk'_obj, mk'_n, stripOn_stripIn, e]
 rfl
theorem vcD_detT_mk {P : Program} {c : Cfg} {d : Nat} {f : FuncId} {args : Array Operand} {ts : Array TypeId} {n : Nat} {l : List (Nat × Slot)} {loc obj : List (List D)} {K : St → Prop} :
  vcD P c (some d) (.call ⟨.value (.func f), args, ts⟩) .detT (St.mk' n l loc obj) K =
  ((args.toList.filterMap opSlot).Nodup ∧ (∀ x ∈ args.toList, noTup ((St.mk' n l loc obj).rdS x) = true ∧ ((St.mk' n l loc obj).rd x).plain = true) ∧
   ∃ r σ0, (Ct P f (args.toList.map (argT (St.mk' n l loc obj))) obj fun r' σ' => r' = r ∧ σ' = σ0) ∧ K (St.mk' n ((d, .d r) :: stripOn (args.toList.filterMap opSlot) l) loc σ0)) := by
 have e : (args.toList.map opSlot).filterMap id = args.toList.filterMap opSlot := by rw [List.filterMap_map]; rfl
 simp only [vcD, mk'_env, mk'_loc, mk'_obj, mk'_n, stripOn_stripIn, e]
 rfl
theorem vcD_op {P : Program} {c : Cfg} {d : Option Tmp} {op : Op} {f : Fl} {st : St} {K : St → Prop} : vcD P c d op (.op f) st K = (isCallOp op = false ∧ flOf c d st op = f ∧ vcOp' P c d op st K) := rfl
theorem vcD_pure {P : Program} {c : Cfg} {d : Option Tmp} {f : FuncId} {args : Array Operand} {ts : Array TypeId} {st : St} {K : St → Prop} : vcD P c d (.call ⟨.value (.func f), args, ts⟩) .pure st K =
  (vcArgs args.toList st ∧ ∃ r, (∀ σ, Ct P f (argsD args.toList st) σ fun r' σ' => r' = r ∧ σ' = σ) ∧ K (st.put d (.d r))) := rfl
def vcPC (P : Program) (dst : Option Tmp) (d : D) (args : List Operand) (st : St) (K : St → Prop) : Prop := match d with
 | .clo (.func fid) first caps => (∀ d ∈ first ++ caps, d.plain = true) ∧ vcArgs args st ∧ ∃ r, (∀ σ, Ct P fid (first.map D.strip ++ argsD args st ++ caps.map D.strip) σ fun r' σ' => r' = r ∧ σ' = σ) ∧ K (st.put dst (.d r))
 | _ => False
theorem vcD_pureC {P : Program} {c : Cfg} {d : Option Tmp} {f : Operand} {args : Array Operand} {ts : Array TypeId} {st : St} {K : St → Prop} : vcD P c d (.call ⟨.value f, args, ts⟩) .pureC st K = vcPC P d (st.rd f) args.toList st K := rfl
theorem vcPC_eq {P : Program} {dst : Option Tmp} {fid : FuncId} {first caps : List D} {args : List Operand} {st : St} {K : St → Prop} : vcPC P dst (.clo (.func fid) first caps) args st K = ((∀ d ∈ first ++ caps, d.plain = true) ∧ vcArgs args st ∧ ∃ r, (∀ σ, Ct P fid (first.map D.strip ++ argsD args st ++ caps.map D.strip) σ fun r' σ' => r' = r ∧ σ' = σ) ∧ K (st.put dst (.d r))) := rfl
theorem vcD_read {P : Program} {c : Cfg} {d : Option Tmp} {f : FuncId} {args : Array Operand} {ts : Array TypeId} {st : St} {K : St → Prop} : vcD P c d (.call ⟨.value (.func f), args, ts⟩) .read st K =
  (vcArgs args.toList st ∧ ∃ r, (Ct P f (argsD args.toList st) st.obj fun r' σ' => r' = r ∧ σ' = st.obj) ∧ K (st.put d (.d r))) := rfl
theorem vcD_det {P : Program} {c : Cfg} {d : Option Tmp} {f : FuncId} {args : Array Operand} {ts : Array TypeId} {st : St} {K : St → Prop} : vcD P c d (.call ⟨.value (.func f), args, ts⟩) .det st K =
  (vcArgs args.toList st ∧ ∃ r σ0, (Ct P f (argsD args.toList st) st.obj fun r' σ' => r' = r ∧ σ' = σ0) ∧ K (({ st with obj := σ0 } : St).put d (.d r))) := rfl
theorem awp_ifB {P : Program} {t : Nat} {a b : Code} {s : Slot} {n : Nat} {l : List (Nat × Slot)} {loc obj : List (List D)} {Q : Exit → St → Prop} (hs : envOf l t = s)
  (h : condVC s.toD (AWP P a Q (St.mk' n ((t, .d (.bool true)) :: l) loc obj)) (AWP P b Q (St.mk' n ((t, .d (.bool false)) :: l) loc obj))) : AWP P (.cond (.tmp t) a b) Q (St.mk' n l loc obj) := by
 unfold condVC at h
 split at h
 ·rename_i v hv
  have hs' : envOf l t = .d (.v (.bool v)) := by
   rw [hs]
   cases s with
   | d d => simp only [Slot.toD] at hv; rw [hv]
   | lref n o => simp [Slot.toD] at hv
  rw [bool_env hs']
  cases v with
  | true => exact awp_cond (t := true) (by simp [St.rd, St.rdS, envOf_cons, St.mk']) (fun _ => h.1 rfl) (fun h => by cases h)
  | false => exact awp_cond (t := false) (by simp [St.rd, St.rdS, envOf_cons, St.mk']) (fun h => by cases h) (fun _ => h.2 rfl)
 ·exact h.elim
def lite (o : Oper) : Oper := ⟨o.dst, o.op, 0, "", #[], o.guard⟩
theorem lite_nil : List.map lite [] = [] := rfl
theorem lite_cons (d : Option Tmp) (op : Op) (ty : TypeId) (pos : String) (after : Array Edge) (g : Option (Nat × Bool)) (r : List Oper) : List.map lite (⟨d, op, ty, pos, after, g⟩ :: r) = ⟨d, op, 0, "", #[], g⟩ :: List.map lite r := rfl
theorem vcL_lite {P : Program} {c : Cfg} {all : List Oper} {K : St → Prop} : ∀ (r : List Oper) (st : St), vcL P c all (r.map lite) st K = vcL P c all r st K
 | [], _ => rfl
 | o :: r, st => by
  have ih : (fun st' => vcL P c all (r.map lite) st' K) = fun st' => vcL P c all r st' K := funext fun st' => vcL_lite r st'
  show vcL P c all (lite o :: r.map lite) st K = _
  unfold vcL
  simp only [lite, ih]
  split
  ·rfl
  ·split
   ·split
    ·rw [vcL_lite r]; rfl
    ·rfl
   ·rfl
theorem vcDL_lite {P : Program} {c : Cfg} {all : List Oper} {K : St → Prop} : ∀ (r : List Oper) (ks : List DK) (st : St), vcDL P c all (r.map lite) ks st K = vcDL P c all r ks st K
 | [], _, _ => rfl
 | _ :: _, [], _ => rfl
 | o :: r, k :: ks, st => by
  have ih : (fun st' => vcDL P c all (r.map lite) ks st' K) = fun st' => vcDL P c all r ks st' K := funext fun st' => vcDL_lite r ks st'
  show vcDL P c all (lite o :: r.map lite) (k :: ks) st K = _
  unfold vcDL
  simp only [lite, ih]
  congr 1
  split
  ·rfl
  ·split
   ·split
    ·rw [vcDL_lite r]
    ·rfl
   ·rfl
theorem awp_regionA {P : Program} {c : Cfg} {id : Nat} {ops ops' : List Oper} {Q : Exit → St → Prop} {st : St} (he : ops.map lite = ops') (h : ∀ all : List Oper, (∀ j, guardOf all j = guardOf ops j) → ∀ K : St → Prop, (∀ s, Q .normal s → K s) → vcL P c all ops' st K) : AWP P (.region id ops.toArray false) Q st :=
 awp_region fun K hK => by
  have := h ops (fun _ => rfl) K hK
  rwa [← he, vcL_lite] at this
theorem awp_drawA {P : Program} {c : Cfg} {id : Nat} {ops ops' : List Oper} (ks : List DK) {Q : Exit → St → Prop} {st : St} (hm : P.follows .mixedOrders = true) (hok : drawOk c ops ks = true) (he : ops.map lite = ops')
  (h : ∀ all : List Oper, (∀ j, guardOf all j = guardOf ops j) → ∀ K : St → Prop, (∀ s, Q .normal s → K s) → vcDL P c all ops' ks st K) : AWP P (.region id ops.toArray true) Q st :=
 awp_draw ks hm hok fun K hK => by
  have := h ops (fun _ => rfl) K hK
  rwa [← he, vcDL_lite] at this
def isNilV : D → Prop
 | .v (.slice none 0 0) => True
 | _ => False
def leArg (x y : D) : Prop := y = x ∨ (x.plain = true ∧ y = x.strip) ∨ (isNilV x ∧ (y = .sl false [] ∨ y = .sl true []))
theorem isNilV_nil : isNilV (.v (.slice none 0 0)) = True := rfl
def leArgs : List D → List D → Prop
 | [], [] => True
 | a :: r, b :: q => leArg a b ∧ leArgs r q
 | _, _ => False
theorem leArgs_of {a b : List D} (h : a = b) : leArgs a b := by
 subst h
 induction a with
 | nil => trivial
 | cons x r ih => exact ⟨.inl rfl, ih⟩
theorem leArgs_len : ∀ {a b : List D}, leArgs a b → a.length = b.length
 | [], [], _ => rfl
 | _ :: _, _ :: _, h => by simp [leArgs_len h.2]
 | [], _ :: _, h => h.elim
 | _ :: _, [], h => h.elim
theorem leArgs_get : ∀ {a b : List D}, leArgs a b → ∀ (i : Nat) (y : D), b[i]? = some y → ∃ x, a[i]? = some x ∧ leArg x y
 | x :: _, _ :: _, h, 0, y, hy => by simp at hy; subst hy; exact ⟨x, rfl, h.1⟩
 | _ :: _, _ :: _, h, i + 1, y, hy => by simpa using leArgs_get h.2 i y (by simpa using hy)
 | [], [], _, _, _, hy => by simp at hy
 | [], _ :: _, h, _, _, _ => h.elim
 | _ :: _, [], h, _, _, _ => h.elim
theorem Ct.of_le {P : Program} {f : FuncId} {a a' : List D} {σ σ' : List (List D)} {Q : D → List (List D) → Prop} (h : Ct P f a σ Q) (e : leArgs a' a) (e2 : σ' = σ) : Ct P f a' σ' Q := by
 subst e2
 refine ⟨h.1, fun w g vs hs hb ho => h.2 w g vs (by rw [hs, leArgs_len e]) hb ⟨ho.mem, ho.xlt, fun t => ?_, ho.ll, ho.loc, ho.ol, ho.obj⟩⟩
 have hsl := ho.slot t
 simp only [St.ofArgs] at hsl ⊢
 unfold slotsOf at hsl ⊢
 cases hy : a[t]? with
 | none => exact ⟨.any _, .flat _ _ _ rfl⟩
 | some y =>
  obtain ⟨x, hx, hle⟩ := leArgs_get e t y hy
  rw [hx] at hsl
  rcases hle with rfl | ⟨hp, rfl⟩ | ⟨hn, hy⟩
  ·exact hsl
  ·exact slotOk_strip hsl.1 hp t
  ·have hxn : x = .v (.slice none 0 0) := by
    unfold isNilV at hn
    split at hn
    ·rfl
    ·exact hn.elim
   subst hxn
   obtain ⟨hr, _⟩ := hsl
   have hv := hr.vEq
   rcases hy with rfl | rfl
   ·exact ⟨by rw [hv]; exact .nil _, .flat _ _ _ rfl⟩
   ·exact ⟨by rw [hv]; exact .nil _, .sl _ _ _ (.inl ⟨_, _, hv⟩)⟩
theorem setAll_envOf : ∀ (sets : List (Nat × Slot)) (l : List (Nat × Slot)), setAll sets (envOf l) = envOf (sets.reverseAux l)
 | [], l => rfl
 | (a, s) :: r, l => by
  show setAll r (fun u => if u = a then s else envOf l u) = _
  have : (fun u => if u = a then s else envOf l u) = envOf ((a, s) :: l) := by funext u; rw [envOf_cons]
  rw [this, setAll_envOf r]; rfl
theorem upd_mk (n : Nat) (l : List (Nat × Slot)) (loc obj : List (List D)) (sets : List (Nat × Slot)) (ob : Option (List (List D))) : (St.mk' n l loc obj).upd ⟨sets, none, ob⟩ = St.mk' n (sets.reverseAux l) loc (ob.getD obj) := by
 show ({ n := n, env := setAll sets (envOf l), loc := loc, obj := ob.getD obj } : St) = _
 rw [setAll_envOf]; rfl
theorem revAux_nil (l : List (Nat × Slot)) : List.reverseAux [] l = l := rfl
theorem revAux_cons (a : Nat × Slot) (r l : List (Nat × Slot)) : List.reverseAux (a :: r) l = List.reverseAux r (a :: l) := rfl
def exS (R : YRel) (K : List (Nat × Slot) → Option (List (List D)) → Prop) : Prop := ∃ sets ob, R sets ob ∧ K sets ob
@[congr] theorem exS_cg {R R' : YRel} {K : List (Nat × Slot) → Option (List (List D)) → Prop} (h : R = R') : exS R K = exS R' K := by rw [h]
theorem vcY_mk {P : Program} {alt : Bool} {dst : Option Tmp} {op : Op} {st : St} {K : St → Prop} : vcY P alt dst op st K = exS (fun sets ob => yR P alt dst op st.rdS (if (flY alt op).rO = true then st.obj else []) sets ob) (fun sets ob => K (st.upd ⟨sets, none, ob⟩)) := rfl
theorem exS_eq {S : List (Nat × Slot)} {O : Option (List (List D))} {K : List (Nat × Slot) → Option (List (List D)) → Prop} : exS (fun sets ob => sets = S ∧ ob = O) K = K S O := by
 apply propext
 constructor
 ·rintro ⟨_, _, ⟨rfl, rfl⟩, h⟩; exact h
 ·intro h; exact ⟨_, _, ⟨rfl, rfl⟩, h⟩
theorem exS_and {C : Prop} {R : YRel} {K : List (Nat × Slot) → Option (List (List D)) → Prop} : exS (fun sets ob => C ∧ R sets ob) K = (C ∧ exS (fun sets ob => R sets ob) K) := by
 apply propext
 constructor
 ·rintro ⟨_, _, ⟨h1, h2⟩, h⟩; exact ⟨h1, _, _, h2, h⟩
 ·rintro ⟨h1, _, _, h2, h⟩; exact ⟨_, _, ⟨h1, h2⟩, h⟩
theorem exS_ex {α : Type} {R : α → YRel} {K : List (Nat × Slot) → Option (List (List D)) → Prop} : exS (fun sets ob => ∃ x, R x sets ob) K = ∃ x, exS (fun sets ob => R x sets ob) K := by
 apply propext
 constructor
 ·rintro ⟨_, _, ⟨x, h2⟩, h⟩; exact ⟨x, _, _, h2, h⟩
 ·rintro ⟨x, _, _, h2, h⟩; exact ⟨_, _, ⟨x, h2⟩, h⟩
theorem exS_or {R S : YRel} {K : List (Nat × Slot) → Option (List (List D)) → Prop} : exS (fun sets ob => R sets ob ∨ S sets ob) K = (exS (fun sets ob => R sets ob) K ∨ exS (fun sets ob => S sets ob) K) := by
 apply propext
 constructor
 ·rintro ⟨_, _, h1 | h1, h⟩
  ·exact .inl ⟨_, _, h1, h⟩
  ·exact .inr ⟨_, _, h1, h⟩
 ·rintro (⟨_, _, h1, h⟩ | ⟨_, _, h1, h⟩)
  ·exact ⟨_, _, .inl h1, h⟩
  ·exact ⟨_, _, .inr h1, h⟩
theorem exS_f {K : List (Nat × Slot) → Option (List (List D)) → Prop} : exS (fun _ _ => False) K = False := by
 apply propext
 exact ⟨fun ⟨_, _, h, _⟩ => h, False.elim⟩
attribute [simp] vcY_mk exS_eq exS_and exS_ex exS_or exS_f
attribute [simp] upd_mk revAux_nil revAux_cons isY useY altY yR yA1 yA2 ySlice yMake yCap yLen yAppend yCopy srcY flY bndY argOf argC isNilV_nil yLookup yUpdate yDelete yLenM yMakeMap yEntry yStoreM yIface yAssert yOver vcInvoke Bool.true_or Bool.false_or
theorem strip_tup (cs : List D) : D.strip (.tup cs) = .tup (cs.map D.s2) := rfl
attribute [simp] strip_tup D.plain
theorem ldD_tt (n : Nat) (cs : List D) : ldD true n cs = if n ≤ cs.length then some (.agg (cs.take n)) else none := rfl
theorem ldD_ff (n : Nat) (cs : List D) : ldD false n cs = cs.head? := rfl
theorem splice_un (cs : List D) (off : Nat) (ds : List D) : splice cs off ds = cs.take off ++ ds ++ cs.drop (off + ds.length) := rfl
attribute [simp low] ldD_tt ldD_ff splice_un
attribute [simp] vcD_pureT_mk vcD_detT_mk vcD_op vcD_pure vcD_pureC vcPC_eq vcD_read vcD_det
attribute [simp] strip_slo strip_xl strip_xs s2_slo s2_xl s2_xs s2_clo s1_slo s1_xl s1_xs s1_clo plain_slo plain_xl plain_xs solid_slo solid_xl solid_xs ncells_slo ncells_xl ncells_xs cells_slo cells_xl cells_xs arr_v arr_sl arr_agg flat_v flat_sl flat_ref getq_last set_last setL_nil setL_cons vcCallT_mk stripOn_nil stripOn_cons stripS_d stripS_lref slots_nil slots_tmp slots_const slots_func
attribute [simp] mk_fold List.getElem?_cons_zero Option.bind_some mk'_n mk'_env mk'_loc mk'_obj envOf_sel envOf_nil set_mk' put_some put_none with_loc with_obj rdS_tmp rdS_const rdS_func rd_tmp rd_const rd_func toD_d toD_lref
 ofV_int ofV_bool ofV_string ofV_nil ofV_ptr strip_v strip_sl strip_agg strip_adr strip_ref strip_any strip_clo s2_v s2_sl s2_agg s2_adr s2_ref s2_any s1_v s1_sl s1_adr s1_ref s1_any
 plain_v plain_sl plain_agg plain_adr plain_ref plain_clo plain_any solid_v solid_sl solid_agg solid_adr solid_ref solid_clo ncells_v ncells_sl ncells_agg ncells_ref cells_v cells_sl cells_agg cells_ref
 vcL_nil vcL_one vcLk_app vcDL_one vcDLk_app vcL_gd gval_eq gv2_some gv3_bool gv3_und sel_t sel_f vcG_tt vcG_tf vcG_ft vcG_ff vcPick_eq vcPB_t vcPB_f vcDL_gd dOk_some dOk_none argEnv vcOp' useX keyX vcOp0 vcX vcLenX vcIndexAddrX vcSliceX vcClearX vcAppendX flOf0 flX isNilSl vcNil nilC vcMove vcBin vcInt shOk vcStr vcUn vcLoadTake vcLoad vcFieldAddr vcField vcIndexAddr vcIndex vcSlice boundD vcExtract vcFunc vcNilCheck vcConvert
 vcAlloc vcBox vcStore vcBuild vcBuildSlice vcCallAny vcBuiltin vcLen vcAppend vcMin vcCall vcArgs argsD argT noTup fillD St.cellsAt St.park Slot.plus Slot.isAddr isPtr D.ofList
 leAll_nil leAll_cons leS_any leS_d leS_own leS_lref tidy getD_map getElem?_map' inR_i64 inR_u8 minD isCallOp flOf addrFl vcDL_nil resOne resAll hsOk_nil hsOk_none hsOk_some maxLen_eq
end Go.Vm

