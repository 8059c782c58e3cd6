/- Part twenty-two of a layer of our own over the model: what a printed walk leans on. Nothing here names a program. -/
import Derived.Test.YthieajadepfeoaaVm21
namespace Go.Vm
open Go

section
variable {P : Program}

/-! ends -/

theorem q_then_n {y : Code} {Q : Exit → St → Prop} {s : St} (h : AWP P y Q s) : thenQ P y Q .normal s := h
theorem q_then_e {y : Code} {Q : Exit → St → Prop} {s : St} {i : Nat} (h : Q (.exit i) s) : thenQ P y Q (.exit i) s := h
theorem q_then_r {y : Code} {Q : Exit → St → Prop} {s : St} (h : Q .ret s) : thenQ P y Q .ret s := h
theorem q_block_n {i : Nat} {Q : Exit → St → Prop} {s : St} (h : Q .normal s) : blockQ i Q .normal s := h
theorem q_block_e {i : Nat} {Q : Exit → St → Prop} {s : St} (h : Q .normal s) : blockQ i Q (.exit i) s := by simpa [blockQ] using h
theorem q_block_o {i j : Nat} {Q : Exit → St → Prop} {s : St} (hne : j ≠ i) (h : Q (.exit j) s) : blockQ i Q (.exit j) s := by simpa [blockQ, hne] using h
theorem q_block_r {i : Nat} {Q : Exit → St → Prop} {s : St} (h : Q .ret s) : blockQ i Q .ret s := h
theorem q_loop_e {α : Type} {S : α → St} {p : α → Prop} {m : α → Nat} {x : α} {Q : Exit → St → Prop} {s : St} {i : Nat} (h : Q (.exit i) s) : loopQ S p m x Q (.exit i) s := h
theorem q_loop_r {α : Type} {S : α → St} {p : α → Prop} {m : α → Nat} {x : α} {Q : Exit → St → Prop} {s : St} (h : Q .ret s) : loopQ S p m x Q .ret s := h

def condVC (d : D) (A B : Prop) : Prop := match d with
  | .v (.bool t) => (t = true → A) ∧ (t = false → B)
  | _ => False

theorem awp_condK {x : Operand} {a b : Code} {Q : Exit → St → Prop} {st : St} (h : ∀ A B : Prop, (AWP P a Q st → A) → (AWP P b Q st → B) → condVC (st.rd x) A B) : AWP P (.cond x a b) Q st := by
  have := h _ _ id id
  unfold condVC at this
  split at this
  · rename_i t ht
    exact awp_cond ht this.1 this.2
  · exact this.elim

/-- One operation of a region, what follows behind a variable. -/
theorem vcL_step {c : Cfg} {all r : List Oper} {d : Option Tmp} {op : Op} {ty : TypeId} {pos : String} {after : Array Edge} {st : St} {K : St → Prop} (h : ∀ K' : St → Prop, (∀ s, vcL P c all r s K → K' s) → dOk d st ∧ vcOp' P c d op st K') : vcL P c all (⟨d, op, ty, pos, after, none⟩ :: r) st K :=
  h _ fun _ h => h

/-- Some operations of a region, what follows behind a variable. -/
theorem vcL_split {c : Cfg} {all : List Oper} (n : Nat) {r : List Oper} {st : St} {K : St → Prop} (h : ∀ K' : St → Prop, (∀ s, vcL P c all (r.drop n) s K → K' s) → vcL P c all (r.take n) st K') : vcL P c all r st K := by
  have go : ∀ (n : Nat) (r : List Oper) (st : St), vcL P c all (r.take n) st (fun s => vcL P c all (r.drop n) s K) → vcL P c all r st K := by
    intro n
    induction n with
    | zero => intro r st h; exact h
    | succ n ih =>
      intro r st h
      cases r with
      | nil => exact h
      | cons o r =>
        simp only [List.take_succ_cons, List.drop_succ_cons] at h
        unfold vcL at h ⊢
        split at h
        · rename_i hg
          have hd := h.1
          refine ⟨hd, ?_⟩
          exact vcOp'_mono (fun s hs => ih r s hs) h.2
        · rename_i j want hg
          split at h
          · split at h
            · exact ⟨fun hb => ⟨(h.1 hb).1, vcOp'_mono (fun s hs => ih r s hs) (h.1 hb).2⟩, fun hb => ⟨(h.2 hb).1, ih r _ (h.2 hb).2⟩⟩
            · exact h.elim
          · exact h.elim
  exact go n r st (h _ fun _ h => h)

theorem vcL_g {c : Cfg} {all r : List Oper} {d : Option Tmp} {op : Op} {ty : TypeId} {pos : String} {after : Array Edge} {j t : Nat} {b want : Bool} {st : St} {K : St → Prop} (hg : guardOf all j = some t) (hs : st.env t = .d (.v (.bool b)))
    (h1 : b = want → ∀ K' : St → Prop, (∀ s, vcL P c all r s K → K' s) → dOk d st ∧ vcOp' P c d op st K') (h2 : b = !want → dOk d st ∧ vcL P c all r (st.put d .any) K) : vcL P c all (⟨d, op, ty, pos, after, some (j, want)⟩ :: r) st K := by
  rw [vcL_guard]
  simp only [hg, hs]
  exact ⟨fun hb => h1 hb _ fun _ h => h, h2⟩

theorem vcL_gt {c : Cfg} {all r : List Oper} {d : Option Tmp} {op : Op} {ty : TypeId} {pos : String} {after : Array Edge} {j t : Nat} {b want : Bool} {st : St} {K : St → Prop} (hg : guardOf all j = some t) (hs : st.env t = .d (.v (.bool b))) (hb : b = want)
    (h1 : ∀ K' : St → Prop, (∀ s, vcL P c all r s K → K' s) → dOk d st ∧ vcOp' P c d op st K') : vcL P c all (⟨d, op, ty, pos, after, some (j, want)⟩ :: r) st K :=
  vcL_g hg hs (fun _ => h1) fun h => (by rw [hb] at h; cases want <;> cases h)

theorem vcL_gf {c : Cfg} {all r : List Oper} {d : Option Tmp} {op : Op} {ty : TypeId} {pos : String} {after : Array Edge} {j t : Nat} {b want : Bool} {st : St} {K : St → Prop} (hg : guardOf all j = some t) (hs : st.env t = .d (.v (.bool b))) (hb : b = !want)
    (h1 : ∀ K' : St → Prop, (∀ s, vcL P c all r s K → K' s) → dOk d st ∧ K' (st.put d .any)) : vcL P c all (⟨d, op, ty, pos, after, some (j, want)⟩ :: r) st K :=
  vcL_g hg hs (fun h => (by rw [hb] at h; cases want <;> cases h)) fun _ => h1 _ fun _ h => h

theorem bool_env {n t : Nat} {l : List (Nat × Slot)} {loc obj : List (List D)} {b : Bool} (hs : envOf l t = .d (.v (.bool b))) : St.mk' n l loc obj = St.mk' n ((t, .d (.bool b)) :: l) loc obj := by
  unfold St.mk'
  congr 1
  funext u
  simp only [envOf]
  split
  · rename_i e; rw [e, hs]
  · rfl

/-- A truth value's two ways, each with its slot laid bare. -/
theorem vcL_bool {c : Cfg} {all r : List Oper} {n : Nat} {l : List (Nat × Slot)} {loc obj : List (List D)} {K : St → Prop} (t : Nat) {s : Slot} (hs : envOf l t = s) 
    (h : condVC s.toD (vcL P c all r (St.mk' n ((t, .d (.bool true)) :: l) loc obj) K) (vcL P c all r (St.mk' n ((t, .d (.bool false)) :: l) loc obj) K)) : vcL P c all r (St.mk' n l loc obj) K := by
  unfold condVC at h
  split at h
  · rename_i b hb
    have hs' : envOf l t = .d (.v (.bool b)) := by
      rw [hs]
      cases s with
      | d d => simp only [Slot.toD] at hb; rw [hb]
      | lref n o => simp [Slot.toD] at hb
    rw [bool_env hs']
    cases b
    · exact h.2 rfl
    · exact h.1 rfl
  · exact h.elim

theorem Ct.of_eq {f : FuncId} {a a' : List D} {σ σ' : List (List D)} {Q : D → List (List D) → Prop} (h : Ct P f a σ Q) (e : a' = a) (e2 : σ' = σ) : Ct P f a' σ' Q := by
  rw [e, e2]; exact h

/-! what follows is reckoned only where it is reached -/

def vcLk (P : Program) (c : Cfg) (all r : List Oper) (K : St → Prop) : St → Prop := fun st => vcL P c all r st K
theorem vcLk_app {c : Cfg} {all r : List Oper} {K : St → Prop} {st : St} : vcLk P c all r K st = vcL P c all r st K := rfl
theorem vcL_one {c : Cfg} {all r : List Oper} {d : Option Tmp} {op : Op} {ty : TypeId} {pos : String} {after : Array Edge} {st : St} {K : St → Prop} : vcL P c all (⟨d, op, ty, pos, after, none⟩ :: r) st K = (dOk d st ∧ vcOp' P c d op st (vcLk P c all r K)) := rfl
def vcDLk (P : Program) (c : Cfg) (all r : List Oper) (ks : List DK) (K : St → Prop) : St → Prop := fun st => vcDL P c all r ks st K
theorem vcDLk_app {c : Cfg} {all r : List Oper} {ks : List DK} {K : St → Prop} {st : St} : vcDLk P c all r ks K st = vcDL P c all r ks st K := rfl
theorem vcDL_one {c : Cfg} {all r : List Oper} {d : Option Tmp} {op : Op} {ty : TypeId} {pos : String} {after : Array Edge} {k : DK} {ks : List DK} {st : St} {K : St → Prop} : vcDL P c all (⟨d, op, ty, pos, after, none⟩ :: r) (k :: ks) st K = (dOk d st ∧ vcD P c d op k st (vcDLk P c all r ks K)) := rfl
@[congr] theorem vcBin_cg {op : BinOp} {t : TypeId} {x y x' y' : Slot} {K : D → Prop} (hx : x = x') (hy : y = y') : vcBin P op t x y K = vcBin P op t x' y' K := by rw [hx, hy]
@[congr] theorem vcInt_cg {op : BinOp} {k : IntKind} {a b a' b' : Int} {K : D → Prop} (hx : a = a') (hy : b = b') : vcInt op k a b K = vcInt op k a' b' K := by rw [hx, hy]
@[congr] theorem vcStr_cg {op : BinOp} {a b a' b' : ByteArray} {K : D → Prop} (hx : a = a') (hy : b = b') : vcStr op a b K = vcStr op a' b' K := by rw [hx, hy]
@[congr] theorem vcAgg_cg {t : TypeId} {a b a' b' : List D} {K : Bool → Prop} (hx : a = a') (hy : b = b') : vcAgg P t a b K = vcAgg P t a' b' K := by rw [hx, hy]
@[congr] theorem vcUn_cg {op : UnOp} {x x' : D} {K : D → Prop} (hx : x = x') : vcUn op x K = vcUn op x' K := by rw [hx]

/-! guards, and what picks, by their values -/

def sel (b : Bool) (s r : Slot) : Slot := if b = true then s else r
@[congr] theorem sel_cg {b b' : Bool} {s r : Slot} (h : b = b') : sel b s r = sel b' s r := by rw [h]
theorem sel_t {s r : Slot} : sel true s r = s := rfl
theorem sel_f {s r : Slot} : sel false s r = r := rfl
theorem envOf_sel (a : Nat) (s : Slot) (r : List (Nat × Slot)) (t : Nat) : envOf ((a, s) :: r) t = sel (t == a) s (envOf r t) := by
  simp only [envOf, sel, beq_iff_eq]

def gv3 (s : Slot) : Option Bool := match s with
  | .d (.v (.bool b)) => some b
  | _ => none
def gv2 (o : Option Tmp) (st : St) : Option Bool := match o with
  | some t => gv3 (st.env t)
  | none => none
@[congr] theorem gv2_cg {o o' : Option Tmp} {st : St} (h : o = o') : gv2 o st = gv2 o' st := by rw [h]
theorem gv2_some (t : Tmp) (st : St) : gv2 (some t) st = gv3 (st.env t) := rfl
theorem gv3_bool (b : Bool) : gv3 (.d (.v (.bool b))) = some b := rfl
def gval (all : List Oper) (j : Nat) (st : St) : Option Bool := match guardOf all j with
  | some t => match st.env t with
    | .d (.v (.bool b)) => some b
    | _ => none
  | none => none

theorem gval_eq (all : List Oper) (j : Nat) (st : St) : gval all j st = gv2 (guardOf all j) st := rfl

def vcG (g : Option Bool) (want : Bool) (A B : Prop) : Prop := match g with
  | some b => (b = want → A) ∧ (b = !want → B)
  | none => False

@[congr] theorem vcG_congr {g g' : Option Bool} {want : Bool} {A B : Prop} (h : g = g') : vcG g want A B = vcG g' want A B := by rw [h]
theorem vcG_tt {A B : Prop} : vcG (some true) true A B = A := by simp [vcG]
theorem vcG_tf {A B : Prop} : vcG (some true) false A B = B := by simp [vcG]
theorem vcG_ft {A B : Prop} : vcG (some false) true A B = B := by simp [vcG]
theorem vcG_ff {A B : Prop} : vcG (some false) false A B = A := by simp [vcG]

theorem vcL_gd {c : Cfg} {all r : List Oper} {d : Option Tmp} {op : Op} {ty : TypeId} {pos : String} {after : Array Edge} {j : Nat} {want : Bool} {st : St} {K : St → Prop} : vcL P c all (⟨d, op, ty, pos, after, some (j, want)⟩ :: r) st K =
    vcG (gval all j st) want (dOk d st ∧ vcOp' P c d op st (vcLk P c all r K)) (dOk d st ∧ vcL P c all r (st.put d .any) K) := by
  rw [vcL_guard]
  unfold gval vcG
  split
  · rename_i t ht
    simp only [ht]
    split
    · rename_i h; simp [h]; exact fun _ => Iff.rfl
    · rename_i h; simp [h]
  · rename_i h; simp [h]

def vcPB (d : D) (A B : Prop) : Prop := match d with
  | .v (.bool t) => (t = true → A) ∧ (t = false → B)
  | _ => False
@[congr] theorem vcPB_congr {d d' : D} {A B : Prop} (h : d = d') : vcPB d A B = vcPB d' A B := by rw [h]
theorem vcPB_t {A B : Prop} : vcPB (.v (.bool true)) A B = A := by simp [vcPB]
theorem vcPB_f {A B : Prop} : vcPB (.v (.bool false)) A B = B := by simp [vcPB]
theorem vcPick_eq {dst : Option Tmp} {c a b : Operand} {st : St} {K : St → Prop} : vcPick dst c a b st K = vcPB (st.rd c) ((st.rd a).plain = true ∧ K (st.put dst (.d (st.rd a).strip))) ((st.rd b).plain = true ∧ K (st.put dst (.d (st.rd b).strip))) := rfl

theorem awp_if {x : Operand} {a b : Code} {d : D} {Q : Exit → St → Prop} {st : St} (hd : st.rd x = d) (h : condVC d (AWP P a Q st) (AWP P b Q st)) : AWP P (.cond x a b) Q st := by
  unfold condVC at h
  split at h
  · exact awp_cond hd h.1 h.2
  · exact h.elim

/-! the same for regions whose order is open -/

theorem vcD_mono {c : Cfg} {dst : Option Tmp} {op : Op} {k : DK} {st : St} {K K' : St → Prop} (hk : ∀ s, K s → K' s) (h : vcD P c dst op k st K) : vcD P c dst op k st K' := by
  unfold vcD at *
  cases k with
  | op f => exact ⟨h.1, h.2.1, vcOp'_mono hk h.2.2⟩
  | pure =>
    simp only at *
    split at h
    · obtain ⟨h1, r, h2, h3⟩ := h; exact ⟨h1, r, h2, hk _ h3⟩
    · exact h
  | det =>
    simp only at *
    split at h
    · obtain ⟨h1, r, σ0, h2, h3⟩ := h; exact ⟨h1, r, σ0, h2, hk _ h3⟩
    · exact h

theorem vcDL_nil {c : Cfg} {all : List Oper} {ks : List DK} {st : St} {K : St → Prop} : vcDL P c all [] ks st K = K st := by unfold vcDL; rfl
theorem vcDL_cons {c : Cfg} {all r : List Oper} {d : Option Tmp} {op : Op} {ty : TypeId} {pos : String} {after : Array Edge} {k : DK} {ks : List DK} {st : St} {K : St → Prop} : vcDL P c all (⟨d, op, ty, pos, after, none⟩ :: r) (k :: ks) st K = (dOk d st ∧ vcD P c d op k st fun s => vcDL P c all r ks s K) := rfl

theorem vcDL_gd {c : Cfg} {all r : List Oper} {d : Option Tmp} {op : Op} {ty : TypeId} {pos : String} {after : Array Edge} {j : Nat} {want : Bool} {k : DK} {ks : List DK} {st : St} {K : St → Prop} : vcDL P c all (⟨d, op, ty, pos, after, some (j, want)⟩ :: r) (k :: ks) st K =
    (dOk d st ∧ vcG (gval all j st) want (vcD P c d op k st (vcDLk P c all r ks K)) (vcDL P c all r ks (st.put d .any) K)) := by
  conv => lhs; unfold vcDL
  show (_ ∧ _) = _
  congr 1
  simp only
  unfold gval vcG
  split
  · rename_i t ht
    simp only [ht]
    split
    · rename_i h; simp [h]; exact fun _ => Iff.rfl
    · rename_i h; simp [h]
  · rename_i h; simp [h]

theorem vcDL_step {c : Cfg} {all r : List Oper} {d : Option Tmp} {op : Op} {ty : TypeId} {pos : String} {after : Array Edge} {k : DK} {ks : List DK} {st : St} {K : St → Prop} (h : ∀ K' : St → Prop, (∀ s, vcDL P c all r ks s K → K' s) → dOk d st ∧ vcD P c d op k st K') : vcDL P c all (⟨d, op, ty, pos, after, none⟩ :: r) (k :: ks) st K :=
  h _ fun _ h => h

theorem vcDL_split {c : Cfg} {all : List Oper} (n : Nat) {r : List Oper} {ks : List DK} {st : St} {K : St → Prop} (hks : n ≤ ks.length) (h : ∀ K' : St → Prop, (∀ s, vcDL P c all (r.drop n) (ks.drop n) s K → K' s) → vcDL P c all (r.take n) (ks.take n) st K') : vcDL P c all r ks st K := by
  have go : ∀ (n : Nat) (r : List Oper) (ks : List DK) (st : St), n ≤ ks.length → vcDL P c all (r.take n) (ks.take n) st (fun s => vcDL P c all (r.drop n) (ks.drop n) s K) → vcDL P c all r ks st K := by
    intro n
    induction n with
    | zero => intro r ks st _ h; simp only [List.take_zero, List.drop_zero, vcDL_nil] at h; exact h
    | succ n ih =>
      intro r ks st hks h
      cases ks with
      | nil => simp at hks
      | cons k ks =>
        cases r with
        | nil => simp only [List.take_nil, List.drop_nil, vcDL_nil] at h ⊢; exact h
        | cons o r =>
          simp only [List.take_succ_cons, List.drop_succ_cons] at h
          simp only [List.length_cons] at hks
          unfold vcDL at h ⊢
          refine ⟨h.1, ?_⟩
          have h2 := h.2
          split at h2
          · exact vcD_mono (fun s hs => ih r ks s (by omega) hs) h2
          · split at h2
            · split at h2
              · exact ⟨fun hb => vcD_mono (fun s hs => ih r ks s (by omega) hs) (h2.1 hb), fun hb => ih r ks _ (by omega) (h2.2 hb)⟩
              · exact h2.elim
            · exact h2.elim
  exact go n r ks st hks (h _ fun _ h => h)

theorem vcDL_g {c : Cfg} {all r : List Oper} {d : Option Tmp} {op : Op} {ty : TypeId} {pos : String} {after : Array Edge} {j t : Nat} {b want : Bool} {k : DK} {ks : List DK} {st : St} {K : St → Prop} (hg : guardOf all j = some t) (hs : st.env t = .d (.v (.bool b)))
    (h0 : dOk d st) (h1 : b = want → ∀ K' : St → Prop, (∀ s, vcDL P c all r ks s K → K' s) → dOk d st ∧ vcD P c d op k st K') (h2 : b = !want → dOk d st ∧ vcDL P c all r ks (st.put d .any) K) : vcDL P c all (⟨d, op, ty, pos, after, some (j, want)⟩ :: r) (k :: ks) st K := by
  unfold vcDL
  refine ⟨h0, ?_⟩
  simp only [hg, hs]
  exact ⟨fun hb => (h1 hb _ fun _ h => h).2, fun hb => (h2 hb).2⟩

theorem vcDL_gt {c : Cfg} {all r : List Oper} {d : Option Tmp} {op : Op} {ty : TypeId} {pos : String} {after : Array Edge} {j t : Nat} {b want : Bool} {k : DK} {ks : List DK} {st : St} {K : St → Prop} (hg : guardOf all j = some t) (hs : st.env t = .d (.v (.bool b))) (hb : b = want)
    (h1 : ∀ K' : St → Prop, (∀ s, vcDL P c all r ks s K → K' s) → dOk d st ∧ vcD P c d op k st K') : vcDL P c all (⟨d, op, ty, pos, after, some (j, want)⟩ :: r) (k :: ks) st K := by
  unfold vcDL
  refine ⟨(h1 _ fun _ h => h).1, ?_⟩
  simp only [hg, hs]
  exact ⟨fun _ => (h1 _ fun _ h => h).2, fun h => (by rw [hb] at h; cases want <;> cases h)⟩

theorem vcDL_gf {c : Cfg} {all r : List Oper} {d : Option Tmp} {op : Op} {ty : TypeId} {pos : String} {after : Array Edge} {j t : Nat} {b want : Bool} {k : DK} {ks : List DK} {st : St} {K : St → Prop} (hg : guardOf all j = some t) (hs : st.env t = .d (.v (.bool b))) (hb : b = !want)
    (h1 : ∀ K' : St → Prop, (∀ s, vcDL P c all r ks s K → K' s) → dOk d st ∧ K' (st.put d .any)) : vcDL P c all (⟨d, op, ty, pos, after, some (j, want)⟩ :: r) (k :: ks) st K := by
  unfold vcDL
  refine ⟨(h1 _ fun _ h => h).1, ?_⟩
  simp only [hg, hs]
  exact ⟨fun h => (by rw [hb] at h; cases want <;> cases h), fun _ => (h1 _ fun _ h => h).2⟩

theorem vcDL_bool {c : Cfg} {all r : List Oper} {ks : List DK} {n : Nat} {l : List (Nat × Slot)} {loc obj : List (List D)} {K : St → Prop} (t : Nat) {s : Slot} (hs : envOf l t = s) 
    (h : condVC s.toD (vcDL P c all r ks (St.mk' n ((t, .d (.bool true)) :: l) loc obj) K) (vcDL P c all r ks (St.mk' n ((t, .d (.bool false)) :: l) loc obj) K)) : vcDL P c all r ks (St.mk' n l loc obj) K := by
  unfold condVC at h
  split at h
  · rename_i b hb
    have hs' : envOf l t = .d (.v (.bool b)) := by
      rw [hs]
      cases s with
      | d d => simp only [Slot.toD] at hb; rw [hb]
      | lref n o => simp [Slot.toD] at hb
    rw [bool_env hs']
    cases b
    · exact h.2 rfl
    · exact h.1 rfl
  · exact h.elim

/-! loops over sparse frames -/

def tidy : List Nat → List (Nat × Slot) → List (Nat × Slot)
  | _, [] => []
  | W, (t, s) :: r => if W.contains t then tidy W r else (t, s) :: tidy (t :: W) r

theorem leS_any (n : Nat) (s : Slot) : leS n s (.d .any) = True := by
  unfold leS; split <;> simp_all
theorem leS_d (n : Nat) (x : D) : leS n (.d x) (.d x) = True := by
  cases x with
  | sl o es => cases o <;> simp [leS]
  | _ => simp [leS]
theorem leS_own (n : Nat) (es : List D) : leS n (.d (.sl true es)) (.d (.sl false es)) = True := by
  unfold leS; simp
theorem leS_lref (n m o : Nat) : leS n (.lref m o) (.lref m o) = (m < n) := by
  unfold leS; simp

def leAll (n : Nat) (env : Nat → Slot) : List (Nat × Slot) → Prop
  | [] => True
  | (a, s) :: r => leS n (env a) s ∧ leAll n env r
theorem leAll_nil (n : Nat) (env : Nat → Slot) : leAll n env [] = True := rfl
theorem leAll_cons (n : Nat) (env : Nat → Slot) (a : Nat) (s : Slot) (r : List (Nat × Slot)) : leAll n env ((a, s) :: r) = (leS n (env a) s ∧ leAll n env r) := rfl
theorem leAll_spec {n : Nat} {env : Nat → Slot} : ∀ {l : List (Nat × Slot)}, leAll n env l → ∀ p ∈ l, leS n (env p.1) p.2
  | [], _, p, hp => by simp at hp
  | (a, s) :: r, h, p, hp => by
    rcases List.mem_cons.1 hp with rfl | hp
    · exact h.1
    · exact leAll_spec h.2 p hp

theorem weak_mkA {st : St} {n : Nat} {l : List (Nat × Slot)} {loc obj : List (List D)} (hn : st.n = n) (hl : leAll loc.length st.env l) (hloc : loc <+: st.loc) (hobj : st.obj = obj) : Weak st (St.mk' n l loc obj) :=
  weak_mk hn (leAll_spec hl) hloc hobj

theorem awp_loopE {α : Type} {n : Nat} {l l2 : List (Nat × Slot)} {loc obj : List (List D)} (F : α → List (Nat × Slot)) (W : List Nat) (p : α → Prop) (m : α → Nat) (x0 : α) {body : Code} {Q : Exit → St → Prop}
    (hl : tidy W l = l2) (hF : leAll loc.length (envOf l) (F x0 ++ l2)) (hp : p x0)
    (h : ∀ x, p x → AWP P body (loopQ (fun x => St.mk' n (F x ++ l2) loc obj) p m x Q) (St.mk' n (F x ++ l2) loc obj)) : AWP P (.loop body) Q (St.mk' n l loc obj) :=
  awp_loop (fun x => St.mk' n (F x ++ l2) loc obj) p m x0 (weak_mk rfl (leAll_spec hF) (List.prefix_refl _) rfl) hp h

theorem awp_loopL {α : Type} {n : Nat} {l l2 : List (Nat × Slot)} {loc obj : List (List D)} (F : α → List (Nat × Slot)) (G : α → List (List D)) (W : List Nat) (p : α → Prop) (m : α → Nat) (x0 : α) {body : Code} {Q : Exit → St → Prop}
    (hl : tidy W l = l2) (hF : leAll (G x0).length (envOf l) (F x0 ++ l2)) (hG : G x0 = loc) (hp : p x0)
    (h : ∀ x, p x → AWP P body (loopQ (fun x => St.mk' n (F x ++ l2) (G x) obj) p m x Q) (St.mk' n (F x ++ l2) (G x) obj)) : AWP P (.loop body) Q (St.mk' n l loc obj) :=
  awp_loop (fun x => St.mk' n (F x ++ l2) (G x) obj) p m x0 (weak_mk rfl (leAll_spec hF) (by rw [hG]; exact List.prefix_refl _) rfl) hp h

theorem awp_loopO {α : Type} {n : Nat} {l l2 : List (Nat × Slot)} {loc obj : List (List D)} (F : α → List (Nat × Slot)) (G H : α → List (List D)) (W : List Nat) (p : α → Prop) (m : α → Nat) (x0 : α) {body : Code} {Q : Exit → St → Prop}
    (hl : tidy W l = l2) (hF : leAll (G x0).length (envOf l) (F x0 ++ l2)) (hG : G x0 = loc) (hH : H x0 = obj) (hp : p x0)
    (h : ∀ x, p x → AWP P body (loopQ (fun x => St.mk' n (F x ++ l2) (G x) (H x)) p m x Q) (St.mk' n (F x ++ l2) (G x) (H x))) : AWP P (.loop body) Q (St.mk' n l loc obj) :=
  awp_loop (fun x => St.mk' n (F x ++ l2) (G x) (H x)) p m x0 (weak_mk rfl (leAll_spec hF) (by rw [hG]; exact List.prefix_refl _) hH.symm) hp h

/-- The end of a round. -/
theorem q_round {α : Type} {S : α → St} {p : α → Prop} {m : α → Nat} {x : α} {Q : Exit → St → Prop} {s : St} (y : α) (hp : p y) (hm : m y < m x) (hw : Weak s (S y)) : loopQ S p m x Q .normal s := ⟨y, hp, hm, hw⟩

/-- Where ways meet again. -/
def joinQ {α : Type} (S : α → St) (p : α → Prop) (Q : Exit → St → Prop) : Exit → St → Prop
  | .normal, s => ∃ y, p y ∧ Weak s (S y)
  | e, s => Q e s

theorem awp_join {α : Type} (S : α → St) (p : α → Prop) {a b : Code} {Q : Exit → St → Prop} {st : St} (h1 : AWP P a (joinQ S p Q) st) (h2 : ∀ x, p x → AWP P b Q (S x)) : AWP P (.seq a b) Q st := by
  refine awp_seq (awp_mono h1 fun e s h => ?_)
  cases e with
  | normal => obtain ⟨y, hy, hw⟩ := h; exact awp_weak hw (h2 y hy)
  | _ => exact h

theorem q_join {α : Type} {S : α → St} {p : α → Prop} {Q : Exit → St → Prop} {s : St} (y : α) (hp : p y) (hw : Weak s (S y)) : joinQ S p Q .normal s := ⟨y, hp, hw⟩
theorem q_join_e {α : Type} {S : α → St} {p : α → Prop} {Q : Exit → St → Prop} {s : St} {i : Nat} (h : Q (.exit i) s) : joinQ S p Q (.exit i) s := h
theorem q_join_r {α : Type} {S : α → St} {p : α → Prop} {Q : Exit → St → Prop} {s : St} (h : Q .ret s) : joinQ S p Q .ret s := h

/-! lists of typed values -/

theorem getD_map {α : Type} (f : α → D) (l : List α) (k : Nat) (h : k < l.length) : (l.map f).getD k .any = f l[k] := by
  simp [List.getD, h]
theorem getElem?_map' {α : Type} (f : α → D) (l : List α) (k : Nat) (h : k < l.length) : (l.map f)[k]? = some (f l[k]) := by
  simp [h]

theorem inR_i64 (n : Int) : inR .i64 n = (-9223372036854775808 ≤ n ∧ n ≤ 9223372036854775807) := by
  unfold inR
  rfl
theorem inR_u8 (n : Int) : inR .u8 n = (0 ≤ n ∧ n ≤ 255) := by
  unfold inR
  rfl

theorem arr_toList {α : Type} (l : List α) : l.toArray.toList = l := rfl

end

theorem hsOk_nil : hsOk [] = true := rfl
theorem hsOk_none (r : List (Option Holder)) : hsOk (none :: r) = hsOk r := by simp [hsOk]
theorem hsOk_some (h : Holder) (r : List (Option Holder)) : hsOk (some h :: r) = (!r.contains (some h) && hsOk r) := by
  simp only [hsOk, List.filterMap_cons, id, List.nodup_cons, Bool.decide_and, List.contains_eq_mem]
  congr 1
  rw [← decide_not]
  congr 1
  simp [List.mem_filterMap]
theorem maxLen_eq : maxLen = 9223372036854775807 := rfl

theorem mk_fold (n : Nat) (l : List (Nat × Slot)) (loc obj : List (List D)) : ({ n := n, env := envOf l, loc := loc, obj := obj } : St) = St.mk' n l loc obj := rfl

attribute [simp] mk_fold List.getElem?_cons_zero Option.bind_some mk'_n mk'_env mk'_loc mk'_obj envOf_sel envOf_nil set_mk' put_some put_none with_loc with_obj rdS_tmp rdS_const rdS_func rd_tmp rd_const rd_func toD_d toD_lref
  ofV_int ofV_bool ofV_string ofV_nil ofV_ptr strip_v strip_sl strip_agg strip_adr strip_ref strip_any strip_clo s2_v s2_sl s2_agg s2_adr s2_ref s2_any s1_v s1_sl s1_adr s1_ref s1_any
  plain_v plain_sl plain_agg plain_adr plain_ref plain_clo plain_any solid_v solid_sl solid_agg solid_adr solid_ref solid_clo ncells_v ncells_sl ncells_agg ncells_ref cells_v cells_sl cells_agg cells_ref
  vcL_nil vcL_one vcLk_app vcDL_one vcDLk_app vcL_gd gval_eq gv2_some gv3_bool sel_t sel_f vcG_tt vcG_tf vcG_ft vcG_ff vcPick_eq vcPB_t vcPB_f vcDL_gd dOk_some dOk_none argEnv vcOp' isNilSl vcNil vcMove vcBin vcInt vcStr vcUn vcLoadTake vcLoad vcFieldAddr vcField vcIndexAddr vcIndex vcSlice boundD vcExtract vcFunc vcNilCheck vcConvert
  vcAlloc vcBox vcStore vcBuild vcBuildSlice vcCallAny vcBuiltin vcLen vcAppend vcMin vcCall vcCallT vcArgs argsD argT opSlot stripIn noTup splice fillD ldD St.cellsAt St.park Slot.plus Slot.isAddr isPtr guardOf D.ofList
  leAll_nil leAll_cons leS_any leS_d leS_own leS_lref tidy getD_map getElem?_map' inR_i64 inR_u8 minD isCallOp flOf addrFl vcDL_nil vcD resOne resAll hsOk_nil hsOk_none hsOk_some maxLen_eq

end Go.Vm
