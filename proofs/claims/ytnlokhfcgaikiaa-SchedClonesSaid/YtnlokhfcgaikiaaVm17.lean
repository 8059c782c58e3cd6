import Derived.Test.YtnlokhfcgaikiaaVm16
namespace Go.Vm
open Go
section
variable {P : Program} {c : Cfg} {st : St} {K : St → Prop}
def argEnv : Nat → List D → List (Nat × Slot)
 | _, [] => []
 | i, d :: l => (i, .d d) :: argEnv (i + 1) l
theorem slotsOf_argEnv (l : List D) : slotsOf l = envOf (argEnv 0 l) := by
 funext t
 have : ∀ (l : List D) (i : Nat), (∀ u, envOf (argEnv i l) (i + u) = slotsOf l u) ∧ ∀ u, u < i → envOf (argEnv i l) u = .any := by
  intro l
  induction l with
  | nil => intro i; exact ⟨fun u => by simp [argEnv, envOf, slotsOf], fun u _ => rfl⟩
  | cons d l ih =>
   intro i
   refine ⟨fun u => ?_, fun u hu => ?_⟩
   ·simp only [argEnv, envOf]
    match u with
    | 0 => simp [slotsOf]
    | u + 1 =>
     rw [if_neg (by omega)]
     have := (ih (i + 1)).1 u
     rw [show i + (u + 1) = i + 1 + u by omega, this]
     simp [slotsOf]
   ·simp only [argEnv, envOf]
    rw [if_neg (by omega)]
    exact (ih (i + 1)).2 u (by omega)
 have := (this l 0).1 t
 rw [Nat.zero_add] at this
 exact this.symm
theorem fn_start {f : FuncId} {fn : Func} {cd : Code} {args : List D} {σ : List (List D)} {Q : D → List (List D) → Prop} {n : Nat} {rs : List ResultVar} (hf : P.funcs[f]? = some fn) (hb : fn.body = some cd) (hname : (fn.name != "runtime.NumGoroutine") = true)
  (hn : fn.ntmps = n) (hrs : fn.results = rs.toArray) (hle : args.length ≤ n)
  (h : AWP P cd (endQ P rs Q) (St.mk' n (argEnv 0 args) [] σ)) : Ct P f args σ Q := by
 refine fn_of hf hb hname ?_
 rw [hn, hrs, slotsOf_argEnv, show args.length + (n - args.length) = n by omega]
 exact h
theorem mk'_n (n : Nat) (l : List (Nat × Slot)) (loc obj : List (List D)) : (St.mk' n l loc obj).n = n := rfl
theorem mk'_env (n : Nat) (l : List (Nat × Slot)) (loc obj : List (List D)) : (St.mk' n l loc obj).env = envOf l := rfl
theorem mk'_loc (n : Nat) (l : List (Nat × Slot)) (loc obj : List (List D)) : (St.mk' n l loc obj).loc = loc := rfl
theorem mk'_obj (n : Nat) (l : List (Nat × Slot)) (loc obj : List (List D)) : (St.mk' n l loc obj).obj = obj := rfl
theorem envOf_cons (a : Nat) (s : Slot) (r : List (Nat × Slot)) (t : Nat) : envOf ((a, s) :: r) t = if t = a then s else envOf r t := rfl
theorem envOf_nil (t : Nat) : envOf [] t = .any := rfl
theorem set_mk' (n : Nat) (l : List (Nat × Slot)) (loc obj : List (List D)) (t : Nat) (s : Slot) : (St.mk' n l loc obj).set t s = St.mk' n ((t, s) :: l) loc obj := rfl
theorem put_some (t : Nat) (s : Slot) : st.put (some t) s = st.set t s := rfl
theorem put_none (s : Slot) : st.put none s = st := rfl
theorem with_loc (n : Nat) (l : List (Nat × Slot)) (loc obj loc' : List (List D)) : ({ St.mk' n l loc obj with loc := loc' } : St) = St.mk' n l loc' obj := rfl
theorem with_obj (n : Nat) (l : List (Nat × Slot)) (loc obj obj' : List (List D)) : ({ St.mk' n l loc obj with obj := obj' } : St) = St.mk' n l loc obj' := rfl
theorem rdS_tmp (t : Nat) : st.rdS (.tmp t) = st.env t := rfl
theorem rdS_const (v : Value) : st.rdS (.const v) = .d (D.ofV v) := rfl
theorem rdS_func (f : FuncId) : st.rdS (.func f) = .d (.clo (.func f) [] []) := rfl
def Slot.toD : Slot → D
 | .d x => x
 | .lref _ _ => .any
theorem rd_tmp (t : Nat) : st.rd (.tmp t) = (st.env t).toD := by
 unfold St.rd
 rw [rdS_tmp]
 cases st.env t <;> rfl
theorem rd_const (v : Value) : st.rd (.const v) = D.ofV v := rfl
theorem rd_func (f : FuncId) : st.rd (.func f) = .clo (.func f) [] [] := rfl
theorem toD_d (d : D) : (Slot.d d).toD = d := rfl
theorem toD_lref (n o : Nat) : (Slot.lref n o).toD = .any := rfl
theorem ofV_int (k : IntKind) (n : Int) : D.ofV (.int k n) = .v (.int k n) := rfl
theorem ofV_bool (b : Bool) : D.ofV (.bool b) = .v (.bool b) := rfl
theorem ofV_string (s : ByteArray) : D.ofV (.string s) = .v (.string s) := rfl
theorem ofV_nil : D.ofV (.slice none 0 0) = .sl true [] := rfl
theorem ofV_ptr : D.ofV (.pointer none) = .v (.pointer none) := rfl
theorem strip_v (x : Value) : D.strip (.v x) = .v x := rfl
theorem strip_sl (o : Bool) (es : List D) : D.strip (.sl o es) = .sl false es := rfl
theorem strip_agg (cs : List D) : D.strip (.agg cs) = .agg (cs.map D.s1) := rfl
theorem strip_adr (cs : List D) : D.strip (.adr cs) = .adr cs := rfl
theorem strip_ref (n o : Nat) : D.strip (.ref n o) = .ref n o := rfl
theorem strip_any : D.strip .any = .any := rfl
theorem strip_clo (f : Go.Fn) (a b : List D) : D.strip (.clo f a b) = .clo f a b := rfl
theorem s2_v (x : Value) : D.s2 (.v x) = .v x := rfl
theorem s2_sl (o : Bool) (es : List D) : D.s2 (.sl o es) = .sl false es := rfl
theorem s2_agg (cs : List D) : D.s2 (.agg cs) = .agg (cs.map D.s1) := rfl
theorem s2_adr (cs : List D) : D.s2 (.adr cs) = .adr cs := rfl
theorem s2_ref (n o : Nat) : D.s2 (.ref n o) = .ref n o := rfl
theorem s2_any : D.s2 .any = .any := rfl
theorem s1_v (x : Value) : D.s1 (.v x) = .v x := rfl
theorem s1_sl (o : Bool) (es : List D) : D.s1 (.sl o es) = .sl false es := rfl
theorem s1_adr (cs : List D) : D.s1 (.adr cs) = .adr cs := rfl
theorem s1_ref (n o : Nat) : D.s1 (.ref n o) = .ref n o := rfl
theorem s1_any : D.s1 .any = .any := rfl
theorem plain_v (x : Value) : D.plain (.v x) = true := rfl
theorem plain_sl (o : Bool) (es : List D) : D.plain (.sl o es) = true := rfl
theorem plain_agg (cs : List D) : D.plain (.agg cs) = true := rfl
theorem plain_adr (cs : List D) : D.plain (.adr cs) = true := rfl
theorem plain_ref (n o : Nat) : D.plain (.ref n o) = true := rfl
theorem plain_clo (f : Go.Fn) (a b : List D) : D.plain (.clo f a b) = true := rfl
theorem plain_any : D.plain .any = true := rfl
theorem solid_v (x : Value) : D.solid (.v x) = true := rfl
theorem solid_sl (o : Bool) (es : List D) : D.solid (.sl o es) = true := rfl
theorem solid_agg (cs : List D) : D.solid (.agg cs) = true := rfl
theorem solid_adr (cs : List D) : D.solid (.adr cs) = true := rfl
theorem solid_ref (n o : Nat) : D.solid (.ref n o) = true := rfl
theorem solid_clo (f : Go.Fn) (a b : List D) : D.solid (.clo f a b) = true := rfl
theorem ncells_v (x : Value) : D.ncells (.v x) = 1 := rfl
theorem ncells_sl (o : Bool) (es : List D) : D.ncells (.sl o es) = 1 := rfl
theorem ncells_agg (cs : List D) : D.ncells (.agg cs) = cs.length := rfl
theorem ncells_ref (n o : Nat) : D.ncells (.ref n o) = 1 := rfl
theorem cells_v (x : Value) : D.cells (.v x) = [.v x] := rfl
theorem cells_sl (o : Bool) (es : List D) : D.cells (.sl o es) = [.sl o es] := rfl
theorem cells_agg (cs : List D) : D.cells (.agg cs) = cs := rfl
theorem cells_ref (n o : Nat) : D.cells (.ref n o) = [.ref n o] := rfl
def dOk (d : Option Tmp) (st : St) : Prop := match d with | some d => d < st.n | none => True
theorem vcL_nil (all : List Oper) : vcL P c all [] st K = K st := rfl
theorem vcL_cons (all r : List Oper) (d : Option Tmp) (op : Op) (ty : TypeId) (pos : String) (after : Array Edge) : vcL P c all (⟨d, op, ty, pos, after, none⟩ :: r) st K = (dOk d st ∧ vcOp' P c d op st fun st' => vcL P c all r st' K) := rfl
theorem vcL_guard (all r : List Oper) (d : Option Tmp) (op : Op) (ty : TypeId) (pos : String) (after : Array Edge) (j : Nat) (want : Bool) : vcL P c all (⟨d, op, ty, pos, after, some (j, want)⟩ :: r) st K =
  match guardOf all j with
   | some t => match gRead (st.env t) want with
    | some b => (b = want → dOk d st ∧ vcOp' P c d op st fun st' => vcL P c all r st' K) ∧ (b = !want → dOk d st ∧ vcL P c all r (st.put d .und) K)
    | none => False
   | none => False := rfl
theorem dOk_some (d : Nat) (n : Nat) (l : List (Nat × Slot)) (loc obj : List (List D)) : dOk (some d) (St.mk' n l loc obj) = (d < n) := rfl
theorem dOk_none : dOk none st = True := rfl
end
end Go.Vm
