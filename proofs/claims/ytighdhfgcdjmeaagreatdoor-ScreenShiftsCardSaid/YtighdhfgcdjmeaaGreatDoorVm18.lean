import Derived.Test.YtighdhfgcdjmeaaGreatDoorVm17
namespace Go.Vm
open Go
set_option linter.all false
section
variable {P : Program}
def moves (c : Cfg) (dst : Option Tmp) : Op → Bool
 | .move _ | .assign _ | .extract _ _ => dst.any c.take.contains
 | .store _ _ _ | .box _ _ => true
 | .call { callee := .builtin .append, .. } => true
 | .call _ => dst.any c.take.contains
 | _ => false
def fW (c : Cfg) (dst : Option Tmp) (op : Op) : List Nat := dst.toList ++ (if qC c dst op || moves c dst op then dP op else [])
def dR (w : Bool) : Slot → Fl
 | .lref _ _ => ⟨true, w, false, false⟩
 | .d (.ref _ _) => ⟨false, false, true, w⟩
 | _ => ⟨false, false, false, false⟩
def cX (c : Cfg) (dst : Option Tmp) (st : St) : Op → Fl
 | .load _ a => dR (dst.any c.take.contains) (st.rdS a)
 | .store _ a _ => dR true (st.rdS a)
 | .alloc _ => if dst.any c.esc.contains then ⟨false, false, true, true⟩ else ⟨true, true, false, false⟩
 | .box _ _ => if dst.any c.imm.contains then ⟨false, false, false, false⟩ else if dst.any c.esc.contains then ⟨false, false, true, true⟩ else ⟨true, true, false, false⟩
 | .call { callee := .value _, .. } => ⟨false, false, true, true⟩
 | .call { callee := .invoke _ _, .. } => ⟨false, false, true, true⟩
 | _ => ⟨false, false, false, false⟩
def Uy : Op → Fl
 | .call ⟨.builtin .clear, _, _⟩ => ⟨false, false, true, true⟩
 | .call ⟨.builtin .append, _, _⟩ => ⟨false, false, true, true⟩
 | _ => ⟨false, false, false, false⟩
def gE (c : Cfg) (dst : Option Tmp) (st : St) (op : Op) : Fl := if qC c dst op = true then Lf (xS c dst op) op else if xP c dst op = true then Uy op else cX c dst st op
structure Delta.ok (δ : Delta) (ws : List Nat) (f : Fl) : Prop where
 sets : ∀ p ∈ δ.sets, p.1 ∈ ws
 loc : δ.loc.isSome = true → f.wL = true
 obj : δ.obj.isSome = true → f.wO = true
structure Agree (rs : List Nat) (f : Fl) (st st' : St) : Prop where
 n : st'.n = st.n
 env : ∀ t, t ∈ rs → st'.env t = st.env t
 loc : f.rL = true → st'.loc = st.loc
 obj : f.rO = true → st'.obj = st.obj
theorem hY {rs : List Nat} {f : Fl} {st st' : St} (h : Agree rs f st st') {x : Operand} (hx : ∀ t, aZ x = some t → t ∈ rs) : st'.rdS x = st.rdS x := by
 cases x with
 | tmp t => exact h.env t (hx t rfl)
 | _ => rfl
theorem dX {rs : List Nat} {f : Fl} {st st' : St} (h : Agree rs f st st') {x : Operand} (hx : ∀ t, aZ x = some t → t ∈ rs) : st'.rd x = st.rd x := by
 unfold St.rd;rw [hY h hx]
def Tr (ws : List Nat) (f : Fl) (st st' : St) (K : St → Prop) : St → Prop := fun s' => ∃ δ : Delta, δ.ok ws f ∧ K (st.upd δ) ∧ s' = st'.upd δ
theorem Bu {ws : List Nat} {f : Fl} {dst : Option Tmp} {st st' : St} {K : St → Prop} {x : Slot} (hw : ∀ d, dst = some d → d ∈ ws) (h : K (st.put dst x)) : Tr ws f st st' K (st'.put dst x) := by
 cases dst with
 | none => exact ⟨⟨[], none, none⟩, ⟨fun p hp => by simp at hp, by simp, by simp⟩, h, rfl⟩
 | some d => exact ⟨⟨[(d, x)], none, none⟩, ⟨fun p hp => by simp at hp; subst hp; exact hw d rfl, by simp, by simp⟩, h, rfl⟩
theorem pK {ws : List Nat} {f : Fl} {d : Nat} {st st' : St} {K : St → Prop} {x : Slot} (hw : d ∈ ws) (h : K (st.set d x)) : Tr ws f st st' K (st'.set d x) :=
 ⟨⟨[(d, x)], none, none⟩, ⟨fun p hp => by simp at hp; subst hp; exact hw, by simp, by simp⟩, h, rfl⟩
theorem oQ {ws : List Nat} {f : Fl} {d e : Nat} {st st' : St} {K : St → Prop} {x y : Slot} (hw : d ∈ ws) (he : e ∈ ws) (h : K ((st.set d x).set e y)) : Tr ws f st st' K ((st'.set d x).set e y) :=
 ⟨⟨[(d, x), (e, y)], none, none⟩, ⟨fun p hp => by simp at hp; rcases hp with rfl | rfl <;> assumption, by simp, by simp⟩, h, rfl⟩
theorem bQ {x : Operand} {op : Op} (hx : x ∈ op.operands.toList) : ∀ t, aZ x = some t → t ∈ dP op := fun t ht => List.mem_filterMap.2 ⟨x, hx, ht⟩
theorem dI {c : Cfg} {dst : Option Tmp} {op : Op} : ∀ d, dst = some d → d ∈ fW c dst op := by
 rintro d rfl; simp [fW]
theorem oM {c : Cfg} {dst : Option Tmp} {op : Op} (hm : moves c dst op = true) {t : Nat} (ht : t ∈ dP op) : t ∈ fW c dst op := by
 simp [fW, hm, ht]
theorem hC {rs : List Nat} {f : Fl} {st st' : St} (h : Agree rs f st st') {d : Int} {x : Option Operand} (hx : ∀ y, x = some y → ∀ t, aZ y = some t → t ∈ rs) : cK st' d x = cK st d x := by
 cases x with
 | none => rfl
 | some y => simp only [cK]; rw [dX h (hx y rfl)]
theorem uJ (a b : List (Nat × Slot)) (e : Nat → Slot) : cD (a ++ b) e = cD b (cD a e) := by
 induction a generalizing e with
 | nil => rfl
 | cons p a ih => obtain ⟨x, y⟩ := p; exact ih _
theorem Ck {l : List (Nat × Slot)} {e : Nat → Slot} {u : Nat} (h : ∀ p ∈ l, p.1 ≠ u) : cD l e u = e u := by
 induction l generalizing e with
 | nil => rfl
 | cons p l ih =>
  obtain ⟨x, y⟩ := p;simp only [cD];rw [ih (fun q hq => h q (by simp [hq]))];rw [if_neg (fun e => h (x, y) (by simp) e.symm)]
theorem mR (l : List Nat) (f : Nat → Slot) (e : Nat → Slot) (u : Nat) : cD (l.map fun t => (t, f t)) e u = if u ∈ l then f u else e u := by
 induction l generalizing e with
 | nil => simp [cD]
 | cons a l ih =>
  simp only [List.map_cons, cD];rw [ih];by_cases h1 : u ∈ l
  ·simp [h1]
  ·by_cases h2 : u = a
   ·subst h2; simp [h1]
   ·simp [h1, h2]
theorem gL (st : St) (ps qs : List (Nat × Slot)) (l o : Option (List (List D))) : st.upd ⟨ps ++ qs, l, o⟩ = { n := st.n, env := cD qs (cD ps st.env), loc := l.getD st.loc, obj := o.getD st.obj } := by
 simp only [St.upd, uJ]
theorem Co {t : TypeId} {cs ds : List D} {K K' : Bool → Prop} (hk : ∀ b, K b → K' b) (h : qN P t cs ds K) : qN P t cs ds K' := by
 obtain ⟨b, h1, h2⟩ := h;exact ⟨b, h1, hk b h2⟩
theorem mM {op : BinOp} {t : TypeId} {x y : Slot} {K K' : D → Prop} (hk : ∀ d, K d → K' d) (h : kF P op t x y K) : kF P op t x y K' := by
 unfold kF at *;split at h
 ·refine ⟨h.1, ?_⟩;have h2 := h.2;unfold qU at *;cases op <;> simp only at h2 ⊢ <;> first | exact hk _ h2 | exact ⟨h2.1, hk _ h2.2⟩ | exact ⟨h2.1, h2.2.1, hk _ h2.2.2⟩ | exact h2
 ·unfold qK at *;cases op <;> simp only at h ⊢ <;> first | exact hk _ h | exact ⟨h.1, hk _ h.2⟩ | exact h
 ·refine ⟨h.1, ?_⟩;have h2 := h.2;cases op <;> simp only at h2 ⊢ <;> first | exact hk _ h2 | exact h2
 ·refine ⟨h.1, ?_⟩;have h2 := h.2;cases op <;> simp only at h2 ⊢ <;> first | exact Co (fun b hb => hk _ hb) h2 | exact h2
 ·refine ⟨h.1, ?_⟩;have h2 := h.2;cases op <;> simp only at h2 ⊢ <;> first | exact hk _ h2 | exact h2
 ·refine ⟨h.1, ?_⟩;have h2 := h.2;cases op <;> simp only at h2 ⊢ <;> first | exact hk _ h2 | exact h2
 ·exact h
theorem pM {op : UnOp} {x : D} {K K' : D → Prop} (hk : ∀ d, K d → K' d) (h : qX op x K) : qX op x K' := by
 unfold qX at *;split at h
 ·exact hk _ h
 ·exact ⟨h.1, hk _ h.2⟩
 ·exact h
theorem Jc {c : Cfg} {dst : Option Tmp} {op : Op} {st st' : St} {K : St → Prop} {rs : List Nat} (hit : pX op = false) (hrs : ∀ t, t ∈ dP op → t ∈ rs) (ha : Agree rs (cX c dst st op) st st') (h : bN P c dst op st K) : bN P c dst op st' (Tr (fW c dst op) (cX c dst st op) st st' K) := by
 have rdS : ∀ x, x ∈ op.operands.toList → st'.rdS x = st.rdS x := fun x hx => hY ha fun t ht => hrs t (bQ hx t ht);have rd : ∀ x, x ∈ op.operands.toList → st'.rd x = st.rd x := fun x hx => dX ha fun t ht => hrs t (bQ hx t ht);have env : ∀ t, Operand.tmp t ∈ op.operands.toList → st'.env t = st.env t := fun t ht => rdS (.tmp t) ht;have put : ∀ {x : Slot}, K (st.put dst x) → Tr (fW c dst op) (cX c dst st op) st st' K (st'.put dst x) := fun h => Bu dI h;have mv : ∀ x, op = .move x ∨ op = .assign x → dV c dst x st K → dV c dst x st' (Tr (fW c dst op) (cX c dst st op) st st' K) := by
  intro x ho h;have hx : x ∈ op.operands.toList := by rcases ho with rfl | rfl <;> simp [Op.operands]
  cases x with
  | tmp s =>
   cases hd : dst with
   | none => rw [hd] at h; exact h.elim
   | some d =>
    rw [hd] at h;simp only [dV] at h ⊢;rw [env s hx];cases he : st.env s with
    | lref n off => rw [he] at h; exact pK (by simp [fW]) h
    | d y =>
     rw [he] at h;simp only at h ⊢;split at h
     ·rename_i ht;rw [if_pos ht];have hm : moves c (some d) op = true := by rcases ho with rfl | rfl <;> simpa [moves] using ht
      exact ⟨h.1, h.2.1, oQ (oM hm (bQ hx s rfl)) (dI d rfl) h.2.2⟩
     ·rename_i ht;rw [if_neg ht];exact ⟨h.1, pK (dI d rfl) h.2⟩
  | const v =>
   have h' : K (st.put dst (st.rdS (.const v))) := by unfold dV at h; split at h <;> simp_all
   have := put h';cases dst <;> exact this
  | func v =>
   have h' : K (st.put dst (st.rdS (.func v))) := by unfold dV at h; split at h <;> simp_all
   have := put h';cases dst <;> exact this
  | global v =>
   have h' : K (st.put dst (st.rdS (.global v))) := by unfold dV at h; split at h <;> simp_all
   have := put h';cases dst <;> exact this
 have cells : ∀ a, a ∈ op.operands.toList → (dR false (st.rdS a)).rL = (cX c dst st op).rL → (dR false (st.rdS a)).rO = (cX c dst st op).rO → st'.cellsAt (st.rdS a) = st.cellsAt (st.rdS a) := by
  intro a ha' h1 h2;cases hs : st.rdS a with
  | lref n off =>
   rw [hs] at h1;simp only [St.cellsAt];rw [ha.loc (by rw [← h1]; rfl)]
  | d d =>
   rw [hs] at h2;cases d <;> simp only [St.cellsAt];rw [ha.obj (by rw [← h2]; rfl)]
 have flr : ∀ (w : Bool) (s : Slot), (dR w s).rL = (dR false s).rL ∧ (dR w s).rO = (dR false s).rO := by
  intro w s;cases s with
  | lref n o => exact ⟨rfl, rfl⟩
  | d d => cases d <;> exact ⟨rfl, rfl⟩
 cases op with
 | move x => exact mv x (.inl rfl) h
 | assign x => exact mv x (.inr rfl) h
 | binOp b t x y yt =>
  simp only [bN] at h ⊢;split at h
  ·rename_i hy;rw [if_pos hy];unfold rR at h ⊢;rw [rd x (by simp [Op.operands])];refine ⟨h.1, ?_⟩;have h := h.2;split at h
   ·split at h
    ·exact ⟨put h.1, fun e => put (h.2 e)⟩
    ·exact ⟨put h.1, fun e => put (h.2 e)⟩
    ·exact h.elim
   ·exact h.elim
  ·rename_i hy;rw [if_neg hy];rw [rdS x (by simp [Op.operands]), rdS y (by simp [Op.operands])];exact mM (fun d hd => put hd) h
 | unOp u t x =>
  simp only [bN] at h ⊢;rw [rd x (by simp [Op.operands])];exact pM (fun d hd => put hd) h
 | load t x =>
  have hx : x ∈ (Op.load t x).operands.toList := by simp [Op.operands]
  simp only [bN] at h ⊢;have hc : st'.cellsAt (st.rdS x) = st.cellsAt (st.rdS x) := cells x hx (by simp only [cX]; exact (flr _ _).1.symm) (by simp only [cX]; exact (flr _ _).2.symm);have pl : dL P dst t x st K → dL P dst t x st' (Tr (fW c dst (.load t x)) (cX c dst st (.load t x)) st st' K) := by
   intro h;unfold dL at h ⊢;rw [rdS x hx, hc];split at h
   ·split at h
    ·exact put h
    ·exact h.elim
   ·exact h.elim
  unfold eH at h ⊢;rw [rdS x hx];split at h
  ·rename_i a n d ht;split at h
   ·rename_i htk;have ht' : (some d).any c.take.contains = true := by simpa using htk
    rw [if_pos htk];split at h
    ·rename_i m off hs;have hloc : st'.loc = st.loc := ha.loc (by simp [cX, hs, dR]);rw [hloc];split at h
     ·rename_i cs hcs;split at h
      ·rename_i y hy;refine ⟨h.1, h.2.1, ⟨[(d, .d y)], some (st.loc.set m (bO cs off y.s2.cells)), none⟩, ⟨fun p hp => by simp at hp; subst hp; exact dI d rfl, fun _ => by simp [cX, hs, dR]; simpa using htk, by simp⟩, h.2.2, rfl⟩
      ·exact h.elim
     ·exact h.elim
    ·rename_i m off hs;have hobj : st'.obj = st.obj := ha.obj (by simp [cX, hs, dR]);rw [hobj];split at h
     ·rename_i cs hcs;split at h
      ·rename_i y hy;refine ⟨h.1, h.2.1, ⟨[(d, .d y)], none, some (st.obj.set m (bO cs off y.s2.cells))⟩, ⟨fun p hp => by simp at hp; subst hp; exact dI d rfl, by simp, fun _ => by simp [cX, hs, dR]; simpa using htk⟩, h.2.2, rfl⟩
      ·exact h.elim
     ·exact h.elim
    ·exact pl h
   ·rename_i htk;rw [if_neg htk];exact pl h
  ·exact pl h
 | fieldAddr s x f =>
  simp only [bN, eW] at h ⊢;rw [rdS x (by simp [Op.operands])];split at h
  ·exact ⟨h.1, put h.2⟩
  ·exact h.elim
 | field s x f =>
  simp only [bN, jZ] at h ⊢;rw [rd x (by simp [Op.operands])];split at h
  ·split at h
   ·exact put h
   ·exact h.elim
  ·exact h.elim
 | indexAddr t x i =>
  simp only [bN, eS] at h ⊢;rw [rd x (by simp [Op.operands]), rd i (by simp [Op.operands]), rdS x (by simp [Op.operands])];split at h
  ·split at h
   ·split at h
    ·exact ⟨h.1, h.2.1, h.2.2.1, put h.2.2.2⟩
    ·exact h.elim
   ·split at h
    ·exact ⟨h.1, h.2.1, put h.2.2⟩
    ·exact h.elim
  ·exact h.elim
 | index t x i =>
  simp only [bN, kB] at h ⊢;rw [rd x (by simp [Op.operands]), rd i (by simp [Op.operands])];split at h
  ·exact ⟨h.1, h.2.1, put h.2.2⟩
  ·split at h
   ·split at h
    ·split at h
     ·exact ⟨h.1, put h.2⟩
     ·exact h.elim
    ·exact h.elim
   ·exact h.elim
  ·exact h.elim
 | slice t x lo hi mx =>
  simp only [bN, jT] at h ⊢;have bl : ∀ d, cK st' d lo = cK st d lo := fun d => hC ha (by rintro y rfl t ht; exact hrs t (bQ (by simp [Op.operands]) t ht));have bh : ∀ d, cK st' d hi = cK st d hi := fun d => hC ha (by rintro y rfl t ht; exact hrs t (bQ (by simp [Op.operands]) t ht));have bm : ∀ m, mx = some m → ∀ d, cK st' d (some m) = cK st d (some m) := fun m hm d => hC ha (by subst hm; rintro y hy t ht; cases hy; exact hrs t (bQ (by simp [Op.operands]) t ht));rw [rd x (by simp [Op.operands])];split at h
  ·obtain ⟨h1, h2, h3⟩ := h;refine ⟨h1, h2, ?_⟩;rw [bl, bh];split at h3
   ·exact ⟨h3.1, put h3.2⟩
   ·exact h3.elim
  ·split at h
   ·split at h
    ·rw [bl, bh];split at h
     ·exact ⟨h.1, h.2.1, put h.2.2⟩
     ·exact h.elim
    ·rename_i m;rw [bl, bh, bm m rfl];split at h
     ·exact ⟨h.1, h.2.1, put h.2.2⟩
     ·exact h.elim
   ·exact h.elim
  ·exact h.elim
 | pick a x y =>
  simp only [bN, mI] at h ⊢;rw [rd a (by simp [Op.operands]), rd x (by simp [Op.operands]), rd y (by simp [Op.operands])];split at h
  ·exact ⟨fun ht => ⟨(h.1 ht).1, put (h.1 ht).2⟩, fun ht => ⟨(h.2 ht).1, put (h.2 ht).2⟩⟩
  ·exact h.elim
 | extract x i =>
  simp only [bN, gM] at h ⊢;split at h
  ·rename_i s d;have hx : Operand.tmp s ∈ (Op.extract (.tmp s) i).operands.toList := by simp [Op.operands]
   rw [env s hx];split at h
   ·split at h
    ·refine ⟨h.1, ?_⟩;have h2 := h.2;split at h2
     ·rename_i ht;rw [if_pos ht];have hm : moves c (some d) (.extract (.tmp s) i) = true := by simpa [moves] using ht
      exact ⟨h2.1, h2.2.1, oQ (oM hm (bQ hx s rfl)) (dI d rfl) h2.2.2⟩
     ·rename_i ht;rw [if_neg ht];exact pK (dI d rfl) h2
    ·exact h.elim
   ·exact h.elim
  ·exact h.elim
 | makeFunc f first caps =>
  simp only [bN, wH] at h ⊢;have e1 : ∀ x ∈ first.toList ++ caps.toList, st'.rd x = st.rd x := fun x hx => rd x (by simpa [Op.operands] using hx)
  refine ⟨fun x hx => by rw [e1 x hx]; exact h.1 x hx, ?_⟩;have e2 : (first.toList.map fun x => (st'.rd x).strip) = first.toList.map fun x => (st.rd x).strip := List.map_congr_left fun x hx => by rw [e1 x (List.mem_append_left _ hx)]
  have e3 : (caps.toList.map fun x => (st'.rd x).strip) = caps.toList.map fun x => (st.rd x).strip := List.map_congr_left fun x hx => by rw [e1 x (List.mem_append_right _ hx)]
  rw [e2, e3];exact put h.2
 | nilCheck x =>
  simp only [bN, jW] at h ⊢;rw [rdS x (by simp [Op.operands])];exact ⟨h.1, put h.2⟩
 | convert s d x =>
  simp only [bN, gN] at h ⊢;rw [rd x (by simp [Op.operands])];split at h
  ·obtain ⟨a, b, h1, h2, h3, h4⟩ := h; exact ⟨a, b, h1, h2, h3, put h4⟩
  ·exact ⟨h.1, h.2.1, put h.2.2⟩
  ·exact h.elim
 | alloc e =>
  simp only [bN, iS] at h ⊢;split at h
  ·rename_i cs d hz;split at h
   ·rename_i he;rw [if_pos he];have hf : cX c (some d) st (.alloc e) = ⟨false, false, true, true⟩ := by simp only [cX]; rw [if_pos (by simpa using he)]
    have hobj : st'.obj = st.obj := ha.obj (by rw [hf]);rw [hobj];exact ⟨⟨[(d, .d (.ref st.obj.length 0))], none, some (st.obj ++ [cs])⟩, ⟨fun p hp => by simp at hp; subst hp; exact dI d rfl, by simp, fun _ => by rw [hf]⟩, h, rfl⟩
   ·rename_i he;rw [if_neg he];have hf : cX c (some d) st (.alloc e) = ⟨true, true, false, false⟩ := by simp only [cX]; rw [if_neg (by simpa using he)]
    have hloc : st'.loc = st.loc := ha.loc (by rw [hf]);rw [hloc];exact ⟨⟨[(d, .lref st.loc.length 0)], some (st.loc ++ [cs]), none⟩, ⟨fun p hp => by simp at hp; subst hp; exact dI d rfl, fun _ => by rw [hf], by simp⟩, h, rfl⟩
  ·exact h.elim
 | box e x =>
  have hx : x ∈ (Op.box e x).operands.toList := by simp [Op.operands]
  simp only [bN, qQ] at h ⊢;split at h
  ·rename_i d;rw [rd x hx];refine ⟨h.1, ?_⟩;have h2 := h.2
   -- what is laid aside
   have pk : ∃ ps : List (Nat × Slot), (∀ p ∈ ps, p.1 ∈ fW c (some d) (.box e x)) ∧ (∀ s : St, (∀ t, aZ x = some t → s.env t = st.env t) → s.park x = s.upd ⟨ps, none, none⟩) := by
    cases x with
    | tmp u =>
     cases he : st.env u with
     | lref n o => exact ⟨[], fun p hp => by simp at hp, fun s hs => by simp only [St.park]; rw [hs u rfl, he]; rfl⟩
     | d y => exact ⟨[(u, .d y.s2)], fun p hp => by simp at hp; subst hp; exact oM (by simp [moves]) (bQ hx u rfl), fun s hs => by simp only [St.park]; rw [hs u rfl, he]; rfl⟩
    | _ => exact ⟨[], fun p hp => by simp at hp, fun s hs => rfl⟩
   obtain ⟨ps, p1, p2⟩ := pk;have q1 := p2 st fun t _ => rfl;have q2 := p2 st' fun t ht => ha.env t (hrs t (bQ hx t ht));split at h2
   ·rename_i hi;rw [if_pos hi];exact pK (dI d rfl) h2
   ·rename_i hi;rw [if_neg hi];split at h2
    ·rename_i he;rw [if_pos he];have hf : cX c (some d) st (.box e x) = ⟨false, false, true, true⟩ := by
      simp only [cX]; rw [if_neg (by simpa using hi), if_pos (by simpa using he)]
     have hobj : st'.obj = st.obj := ha.obj (by rw [hf]);rw [hobj, q2];rw [q1] at h2;refine ⟨⟨ps ++ [(d, .d (.ref st.obj.length 0))], none, some (st.obj ++ [(st.rd x).cells])⟩, ⟨fun p hp => ?_, by simp, fun _ => by rw [hf]⟩, ?_, ?_⟩
     ·rcases List.mem_append.1 hp with hp | hp
      ·exact p1 p hp
      ·simp at hp; subst hp; exact dI d rfl
     ·rw [gL]; exact h2
     ·rw [gL]; rfl
    ·rename_i he;rw [if_neg he];have hf : cX c (some d) st (.box e x) = ⟨true, true, false, false⟩ := by
      simp only [cX]; rw [if_neg (by simpa using hi), if_neg (by simpa using he)]
     have hloc : st'.loc = st.loc := ha.loc (by rw [hf]);rw [hloc, q2];rw [q1] at h2;refine ⟨⟨ps ++ [(d, .lref st.loc.length 0)], some (st.loc ++ [(st.rd x).cells]), none⟩, ⟨fun p hp => ?_, fun _ => by rw [hf], by simp⟩, ?_, ?_⟩
     ·rcases List.mem_append.1 hp with hp | hp
      ·exact p1 p hp
      ·simp at hp; subst hp; exact dI d rfl
     ·rw [gL]; exact h2
     ·rw [gL]; rfl
  ·exact h.elim
 | store t a v =>
  have hv : v ∈ (Op.store t a v).operands.toList := by simp [Op.operands]
  have haa : a ∈ (Op.store t a v).operands.toList := by simp [Op.operands]
  simp only [bN, lI] at h ⊢;rw [rd v hv, rdS a haa];refine ⟨h.1, h.2.1, h.2.2.1, ?_⟩;have h2 := h.2.2.2;have pk : ∃ ps : List (Nat × Slot), (∀ p ∈ ps, p.1 ∈ fW c dst (.store t a v)) ∧ (∀ s : St, (∀ t, aZ v = some t → s.env t = st.env t) → s.park v = s.upd ⟨ps, none, none⟩) := by
   cases v with
   | tmp u =>
    cases he : st.env u with
    | lref n o => exact ⟨[], fun p hp => by simp at hp, fun s hs => by simp only [St.park]; rw [hs u rfl, he]; rfl⟩
    | d y => exact ⟨[(u, .d y.s2)], fun p hp => by simp at hp; subst hp; exact oM (by simp [moves]) (bQ hv u rfl), fun s hs => by simp only [St.park]; rw [hs u rfl, he]; rfl⟩
   | _ => exact ⟨[], fun p hp => by simp at hp, fun s hs => rfl⟩
  obtain ⟨ps, p1, p2⟩ := pk;have q1 := p2 st fun t _ => rfl;have q2 := p2 st' fun t ht => ha.env t (hrs t (bQ hv t ht));split at h2
  ·rename_i m off hs;have hf : cX c dst st (.store t a v) = ⟨true, true, false, false⟩ := by simp only [cX, hs, dR]
   have hloc : st'.loc = st.loc := ha.loc (by rw [hf]);rw [hloc];split at h2
   ·rename_i cs hcs;refine ⟨h2.1, ?_⟩;have h3 := h2.2;rw [q1] at h3;rw [q2];exact ⟨⟨ps, some (st.loc.set m (bO cs off (st.rd v).cells)), none⟩, ⟨p1, fun _ => by rw [hf], by simp⟩, h3, rfl⟩
   ·exact h2.elim
  ·rename_i m off hs;have hf : cX c dst st (.store t a v) = ⟨false, false, true, true⟩ := by simp only [cX, hs, dR]
   have hobj : st'.obj = st.obj := ha.obj (by rw [hf]);rw [hobj];split at h2
   ·rename_i cs hcs;refine ⟨h2.1, ?_⟩;have h3 := h2.2;rw [q1] at h3;rw [q2];exact ⟨⟨ps, none, some (st.obj.set m (bO cs off (st.rd v).cells))⟩, ⟨p1, by simp, fun _ => by rw [hf]⟩, h3, rfl⟩
   ·exact h2.elim
  ·exact h2.elim
 | build t parts =>
  simp only [bN, jP] at h ⊢;have e1 : (parts.toList.map fun p => (p.1, st'.rd p.2)) = parts.toList.map fun p => (p.1, st.rd p.2) := List.map_congr_left fun p hp => by rw [rd p.2 (by simp [Op.operands]; exact ⟨p.1, by simpa using hp⟩)]
  rw [e1];split at h
  ·split at h
   ·exact put h
   ·exact h.elim
  ·exact h.elim
 | buildSlice t len parts =>
  simp only [bN, eB] at h ⊢;have e0 : ∀ p ∈ parts.toList, st'.rd p.2 = st.rd p.2 := fun p hp => rd p.2 (by simp [Op.operands]; exact ⟨p.1, by simpa using hp⟩);have e1 : (parts.toList.map fun p => (st'.rd p.2).s2) = parts.toList.map fun p => (st.rd p.2).s2 := List.map_congr_left fun p hp => by rw [e0 p hp]
  split at h
  ·exact ⟨h.1, fun p hp => by rw [e0 p hp]; exact h.2.1 p hp, by rw [e1]; exact pK (dI _ rfl) h.2.2⟩
  ·exact h.elim
 | call call =>
  obtain ⟨callee, args, ts⟩ := call;simp only [bN, fQ] at h ⊢;have hargs : ∀ x ∈ args.toList, x ∈ (Op.call ⟨callee, args, ts⟩).operands.toList := fun x hx => by simp [Op.operands, Call.operands]; right; simpa using hx
  cases callee with
  | builtin b =>
   simp only [hP] at h ⊢;split at h
   ·rename_i x t h1 h2;have hx := hargs x (by rw [h1]; simp);simp only [sR] at h ⊢;rw [rd x hx];split at h
    ·exact ⟨h.1, put h.2⟩
    ·exact ⟨h.1, put h.2⟩
    ·exact h.elim
   ·rename_i s x t t2 h1 h2;have hsop := hargs s (by rw [h1]; simp);have hx := hargs x (by rw [h1]; simp);simp only [iR] at h ⊢;rw [rd x hx, rd s hsop];split at h
    ·refine ⟨h.1, h.2.1, h.2.2.1, h.2.2.2.1, ?_⟩;have h5 := h.2.2.2.2;split at h5
     ·rename_i u _;exact ⟨h5.1, oQ (oM (by simp [moves]) (bQ hsop u rfl)) (dI _ rfl) h5.2⟩
     ·exact pK (dI _ rfl) h5
     ·exact h5.elim
    ·exact h.elim
   ·rename_i x y h1;simp only [kT] at h ⊢;rw [rd x (hargs x (by rw [h1]; simp)), rd y (hargs y (by rw [h1]; simp))];split at h
    ·exact ⟨h.1, put h.2⟩
    ·exact h.elim
   ·rename_i x y h1;simp only [kT] at h ⊢;rw [rd x (hargs x (by rw [h1]; simp)), rd y (hargs y (by rw [h1]; simp))];split at h
    ·exact ⟨h.1, put h.2⟩
    ·exact h.elim
   ·exact h.elim
  | value f =>
   have hff : f ∈ (Op.call ⟨.value f, args, ts⟩).operands.toList := by simp [Op.operands, Call.operands]
   have hf : cX c dst st (.call ⟨.value f, args, ts⟩) = ⟨false, false, true, true⟩ := rfl;have hobj : st'.obj = st.obj := ha.obj (by rw [hf]);have pc : eC P dst f args.toList st K → eC P dst f args.toList st' (Tr (fW c dst (.call ⟨.value f, args, ts⟩)) (cX c dst st (.call ⟨.value f, args, ts⟩)) st st' K) := by
    intro h;unfold eC at h ⊢;rw [rd f hff];split at h
    ·refine ⟨h.1, fun x hx => by rw [rd x (hargs x hx)]; exact h.2.1 x hx, ?_⟩;have e1 : cG args.toList st' = cG args.toList st := List.map_congr_left fun x hx => dS (rd x (hargs x hx));rw [e1, hobj];refine h.2.2.mono fun r σ' hK => ?_;cases hd : dst with
     | none => rw [hd] at hK; exact ⟨⟨[], none, some σ'⟩, ⟨fun p hp => by simp at hp, by simp, fun _ => by rw [hd] at hf; rw [hf]⟩, hK, rfl⟩
     | some d => rw [hd] at hK; exact ⟨⟨[(d, .d r)], none, some σ'⟩, ⟨fun p hp => by simp at hp; subst hp; exact dI d rfl, by simp, fun _ => by rw [hd] at hf; rw [hf]⟩, hK, rfl⟩
    ·exact h.elim
   have pt : ∀ fid, f = .func fid → (∃ d, dst = some d ∧ c.take.contains d = true) → fX P dst fid args.toList st K → fX P dst fid args.toList st' (Tr (fW c dst (.call ⟨.value f, args, ts⟩)) (cX c dst st (.call ⟨.value f, args, ts⟩)) st st' K) := by
    rintro fid rfl ⟨d, rfl, htk⟩ h;unfold fX at h ⊢;refine ⟨h.1, fun x hx => by rw [rd x (hargs x hx), rdS x (hargs x hx)]; exact h.2.1 x hx, ?_⟩;have e1 : args.toList.map (kK st') = args.toList.map (kK st) :=
     List.map_congr_left fun x hx => nB (rd x (hargs x hx))
    rw [e1, hobj];refine h.2.2.mono fun r σ' hK => ?_
    -- the slots that gave their rights
    have hst : ∀ s : St, (∀ t, some t ∈ args.toList.map aZ → s.env t = st.env t) → ∃ ps : List (Nat × Slot), (∀ p ∈ ps, p.1 ∈ fW c (some d) (.call ⟨.value (.func fid), args, ts⟩)) ∧ ps = ((args.toList.filterMap aZ).map fun t => (t, cN (args.toList.map aZ) st.env t)) ∧ cN (args.toList.map aZ) s.env = cD ps s.env := by
     intro s hs;refine ⟨_, fun p hp => ?_, rfl, ?_⟩
     ·obtain ⟨t, ht, rfl⟩ := List.mem_map.1 hp;obtain ⟨x, hx, hx'⟩ := List.mem_filterMap.1 ht;exact oM (by simpa [moves] using htk) (bQ (hargs x hx) t hx')
     ·funext u;rw [mR];by_cases hu : (args.toList.map aZ).contains (some u) = true
      ·have hm : u ∈ args.toList.filterMap aZ := by
        have : some u ∈ args.toList.map aZ := by simpa using hu
        obtain ⟨x, hx, hx'⟩ := List.mem_map.1 this;exact List.mem_filterMap.2 ⟨x, hx, hx'⟩
       rw [if_pos hm];have he : s.env u = st.env u := hs u (by simpa using hu);simp only [cN, hu, if_true, he]
      ·have hm : u ∉ args.toList.filterMap aZ := by
        intro hm;obtain ⟨x, hx, hx'⟩ := List.mem_filterMap.1 hm;exact hu (by simpa using List.mem_map.2 ⟨x, hx, hx'⟩)
       rw [if_neg hm];simp only [cN, hu];rfl
    obtain ⟨ps, p1, p2, p3⟩ := hst st fun _ _ => rfl;obtain ⟨ps', _, p2', p3'⟩ := hst st' fun t ht => by
     obtain ⟨x, hx, hx'⟩ := List.mem_map.1 ht;exact ha.env t (hrs t (bQ (hargs x hx) t hx'))
    rw [p2', ← p2] at p3';rw [p3] at hK;rw [p3'];refine ⟨⟨ps ++ [(d, .d r)], none, some σ'⟩, ⟨fun p hp => ?_, by simp, fun _ => by rw [hf]⟩, ?_, ?_⟩
    ·rcases List.mem_append.1 hp with hp | hp
     ·exact p1 p hp
     ·simp at hp; subst hp; exact dI d rfl
    ·rw [gL]; exact hK
    ·rw [gL]; rfl
   cases f with
   | func fid =>
    simp only at h ⊢;cases hd : dst with
    | none => rw [hd] at h; simp only at h ⊢; have := pc (by rw [hd]; exact h); rwa [hd] at this
    | some d =>
     rw [hd] at h;simp only at h ⊢;split at h
     ·rename_i htk;rw [if_pos htk];have := pt fid rfl ⟨d, hd, htk⟩ (by rw [hd]; exact h)
      rwa [hd] at this
     ·rename_i htk;rw [if_neg htk];have := pc (by rw [hd]; exact h)
      rwa [hd] at this
   | _ => exact pc h
  | invoke f m =>
   have hff : f ∈ (Op.call ⟨.invoke f m, args, ts⟩).operands.toList := by simp [Op.operands, Call.operands]
   have hf : cX c dst st (.call ⟨.invoke f m, args, ts⟩) = ⟨false, false, true, true⟩ := rfl;have hobj : st'.obj = st.obj := ha.obj (by rw [hf]);simp only [iZ] at h ⊢;rw [rd f hff];split at h
   ·obtain ⟨h1, h2, fn, h3, h4⟩ := h;refine ⟨h1, fun x hx => by rw [rd x (hargs x hx)]; exact h2 x hx, fn, h3, ?_⟩;have e1 : cG args.toList st' = cG args.toList st := List.map_congr_left fun x hx => dS (rd x (hargs x hx));rw [e1, hobj];refine h4.mono fun r σ' hK => ?_;cases hd : dst with
    | none => rw [hd] at hK; exact ⟨⟨[], none, some σ'⟩, ⟨fun p hp => by simp at hp, by simp, fun _ => by rw [hd] at hf; rw [hf]⟩, hK, rfl⟩
    | some d => rw [hd] at hK; exact ⟨⟨[(d, .d r)], none, some σ'⟩, ⟨fun p hp => by simp at hp; subst hp; exact dI d rfl, by simp, fun _ => by rw [hd] at hf; rw [hf]⟩, hK, rfl⟩
   ·exact h.elim
 | range t x => simp [pX] at hit
 | next x s => simp [pX] at hit
 | entry x => simp [pX] at hit
 | _ => exact h.elim
theorem Qe {c : Cfg} {dst : Option Tmp} {op : Op} {st st' : St} {K : St → Prop} {rs : List Nat} (hrs : ∀ t, t ∈ dP op → t ∈ rs) (ha : Agree rs (Uy op) st st') (h : Ff P dst op st K) : Ff P dst op st' (Tr (fW c dst op) (Uy op) st st' K) := by
 have rdS : ∀ x, x ∈ op.operands.toList → st'.rdS x = st.rdS x := fun x hx => hY ha fun t ht => hrs t (bQ hx t ht);have rd : ∀ x, x ∈ op.operands.toList → st'.rd x = st.rd x := fun x hx => dX ha fun t ht => hrs t (bQ hx t ht);have env : ∀ t, Operand.tmp t ∈ op.operands.toList → st'.env t = st.env t := fun t ht => rdS (.tmp t) ht;have put : ∀ {x : Slot}, K (st.put dst x) → Tr (fW c dst op) (Uy op) st st' K (st'.put dst x) := fun h => Bu dI h;unfold Ff at h ⊢;split at h
 ·rename_i args ts;have hargs : ∀ x ∈ args.toList, x ∈ (Op.call ⟨.builtin .len, args, ts⟩).operands.toList := fun x hx => by simp [Op.operands, Call.operands]; simpa using hx
  split at h
  ·rename_i x t h1 h2;simp only [qB] at h ⊢;rw [rd x (hargs x (by rw [h1]; simp))];refine ⟨h.1, ?_⟩;have h' := h.2;split at h' <;> first | exact put h' | exact h'.elim
  ·exact h.elim
 ·rename_i args ts;have hargs : ∀ x ∈ args.toList, x ∈ (Op.call ⟨.builtin .append, args, ts⟩).operands.toList := fun x hx => by simp [Op.operands, Call.operands]; simpa using hx
  split at h
  ·rename_i s x t t2 h1 h2;have hsop := hargs s (by rw [h1]; simp);simp only [gK] at h ⊢;rw [rd x (hargs x (by rw [h1]; simp))];split at h
   ·rename_i e k by_ z d u ow xs he hx;refine ⟨h.1, h.2.1, h.2.2.1, ?_⟩;have h5 := h.2.2.2;rw [env u hsop];split at h5
    ·exact ⟨h5.1, oQ (oM (by simp [moves]) (bQ hsop u rfl)) (dI _ rfl) h5.2⟩
    ·exact ⟨h5.1, oQ (oM (by simp [moves]) (bQ hsop u rfl)) (dI _ rfl) h5.2⟩
    ·rename_i N a len cap hs5;obtain ⟨ds, es, h6, h7⟩ := h5;have hobj : st'.obj = st.obj := ha.obj rfl;rw [hobj];refine ⟨ds, es, h6, ⟨[(u, .any), (d, .d (.xs k (es ++ xs)))], none, some (st.obj.set N [])⟩, ⟨fun p hp => ?_, by simp, fun _ => rfl⟩, h7, rfl⟩;simp only [List.mem_cons, List.not_mem_nil, or_false] at hp;rcases hp with rfl | rfl
     ·exact oM (by simp [moves]) (bQ hsop u rfl)
     ·exact dI _ rfl
    ·exact h5.elim
   ·exact h.elim
  ·exact h.elim
 ·rename_i args ts;have hargs : ∀ x ∈ args.toList, x ∈ (Op.call ⟨.builtin .clear, args, ts⟩).operands.toList := fun x hx => by simp [Op.operands, Call.operands]; simpa using hx
  split at h
  ·rename_i x t h1 h2;simp only [jJ] at h ⊢;rw [rd x (hargs x (by rw [h1]; simp))];refine ⟨h.1, ?_⟩;have h' := h.2;have hobj : st'.obj = st.obj := ha.obj rfl;split at h'
   ·rename_i e k by_ z m a len cap he hx;rw [hobj];split at h'
    ·rename_i cs hcs;exact ⟨h'.1, ⟨[], none, some (st.obj.set m (bO cs a (fJ z len)))⟩, ⟨fun p hp => by simp at hp, by simp, fun _ => rfl⟩, h'.2, rfl⟩
    ·exact h'.elim
   ·exact h'.elim
  ·exact h.elim
 ·rename_i t x i;simp only [eE] at h ⊢;rw [rd x (by simp [Op.operands]), rd i (by simp [Op.operands])];split at h
  ·exact ⟨h.1, put h.2⟩
  ·exact h.elim
 ·rename_i t x lo hi;simp only [iK] at h ⊢;have hb : ∀ (d : Int) (y : Option Operand), (y = lo ∨ y = hi) → cK st' d y = cK st d y := fun d y hy => hC ha fun z hz t ht => hrs t (bQ (by rcases hy with rfl | rfl <;> simp [Op.operands, hz]) t ht);rw [rd x (by simp [Op.operands]), hb 0 lo (.inl rfl)];split at h
  ·rename_i e k by_ z m a len cap he hx;rw [hb len hi (.inr rfl)];split at h
   ·exact ⟨h.1, put h.2⟩
   ·exact h.elim
  ·exact h.elim
 ·exact h.elim
theorem Nv {c : Cfg} {dst : Option Tmp} {op : Op} {st st' : St} {K : St → Prop} {rs : List Nat} (hit : pX op = false) (hrs : ∀ t, t ∈ dP op → t ∈ rs) (ha : Agree rs (gE c dst st op) st st') (h : cZ P c dst op st K) : cZ P c dst op st' (Tr (fW c dst op) (gE c dst st op) st st' K) := by
 unfold cZ gE at *;by_cases hy : qC c dst op = true
 ·have hw : fW c dst op = dst.toList ++ dP op := by simp [fW, hy]
  simp only [hy, if_true] at *;have rdS : ∀ x, x ∈ op.operands.toList → st'.rdS x = st.rdS x := fun x hx => hY ha fun t ht => hrs t (bQ hx t ht);obtain ⟨sets, ob, h1, hK⟩ := h;obtain ⟨s1, s2⟩ := Ei h1;refine ⟨sets, ob, ?_, ⟨sets, none, ob⟩, ⟨fun p hp => by rw [hw]; exact s1 p hp, by simp, s2⟩, hK, rfl⟩;rw [zA rdS];have : (if (Lf (xS c dst op) op).rO = true then st'.obj else []) = (if (Lf (xS c dst op) op).rO = true then st.obj else []) := by
   split
   ·rename_i h; exact ha.obj h
   ·rfl
  rw [this];exact h1
 simp only [hy] at *;by_cases hu : xP c dst op = true
 ·simp only [hu, if_true] at *;exact Qe hrs ha h
 ·simp only [hu] at *;exact Jc hit hrs ha h
end
end Go.Vm

