import Derived.Lib.Overlaps
import Derived.Laws.IdiomStrings
import Derived.Laws.Externs
import Derived.Test.YtighdhfgcdjmeaaGreatDoorVmX9
import Derived.Test.YtighdhfgcdjmeaaGreatDoorVmX12
namespace Go.Vm
open Go
set_option linter.all false
section
variable {P : Program}
def Vi : TypeDesc → Bool
 | .interface _ => true
 | _ => false
def Wj (P : Program) (t : TypeId) : Option Bool := (P.underlying t).map Vi
def pY (P : Program) (dst : Option Tmp) (t : TypeId) (sx : Slot) : fE := fun sets ob =>
 match dst, sx, Wj P t with
 | some d, .d d0, some false => d0.solid = true ∧ sets = [(d, .d (.ifc t d0.s2))] ∧ ob = none
 | _, _, _ => False
def lJ (P : Program) (dst : Option Tmp) (a : TypeId) (sx : Slot) (ok : Bool) : fE := fun sets ob =>
 match dst, sx, Wj P a with
 | some d, .d (.ifc t d0), some false => (t = a ∧ d0.solid = true) ∧ sets = [(d, .d (if ok = true then .tup [d0.s2, .bool true] else d0.s2))] ∧ ob = none
 | _, _, _ => False
theorem zO {t : TypeId} (h : Wj P t = some false) : ∃ td, P.underlying t = some td ∧ ∀ m, td ≠ .interface m := by
 unfold Wj at h;rw [Option.map_eq_some_iff] at h;obtain ⟨td, h1, h2⟩ := h;exact ⟨td, h1, by rintro m rfl; cases h2⟩
theorem Aj {o : Oper} {st : St} (t : TypeId) (x : Operand) (hd : bL o st) (ho : o.op = .makeInterface t x) {sets : List (Nat × Slot)} {ob : Option (List (List D))}
  (h : pY P o.dst t (st.rdS x) sets ob) : Does P o st (· = st.upd ⟨sets, none, ob⟩) := by
 unfold pY at h;split at h
 ·rename_i d d0 hdst hx hi;obtain ⟨hs, rfl, rfl⟩ := h;obtain ⟨td, u1, u2⟩ := zO hi;refine aT hd (.d (.ifc t d0.s2)) (fun w g tmps hok => ?_) (by rw [hdst]; rfl);have hr := hok.rd x;rw [bB hx] at hr;refine ⟨.iface t (ev tmps x), ?_, aM (.ifc _ _ _ hr.s2) rfl⟩;cases td with
  | interface m => exact absurd rfl (u2 m)
  | _ => simp [execOp, ho, Instr.makeInterface, run_underlying u1]
 ·exact h.elim
theorem xH {o : Oper} {st : St} (x : Operand) (xt a : TypeId) (ok : Bool) (hd : bL o st) (ho : o.op = .typeAssert x xt a ok) {sets : List (Nat × Slot)} {ob : Option (List (List D))}
  (h : lJ P o.dst a (st.rdS x) ok sets ob) : Does P o st (· = st.upd ⟨sets, none, ob⟩) := by
 unfold lJ at h;split at h
 ·rename_i d t d0 hdst hx hi;obtain ⟨⟨rfl, hs⟩, rfl, rfl⟩ := h;obtain ⟨td, u1, u2⟩ := zO hi;obtain ⟨hs1, hs2⟩ := dK hs;refine aT hd (.d (if ok = true then .tup [d0.s2, .bool true] else d0.s2)) (fun w g tmps hok => ?_) (by rw [hdst]; rfl);have hr := hok.rd x;rw [bB hx] at hr;generalize hv : ev tmps x = v at hr;cases hr with
  | ifc _ _ y hy =>
   refine ⟨if ok = true then .tuple #[y, .bool true] else y, ?_, fun u => ?_⟩
   ·cases td with
    | interface m => exact absurd rfl (u2 m)
    | _ => cases ok <;> simp [execOp, ho, Instr.typeAssert, run_underlying u1, hv]
   ·cases ok with
    | false => exact ⟨hy.s2, jM hy hs2⟩
    | true =>
     have hall : ∀ (i : Nat) (d : D) (x : Value), [d0.s2, D.bool true][i]? = some d → (#[y, Value.bool true] : Array Value)[i]? = some x → R g.M g.bs d x ∧ ∀ X h p, Own w g.M g.bs X h p d x := by
      intro i d x a1 a2
      match i with
      | 0 => simp at a1 a2; subst a1; subst a2; exact ⟨hy.s2, fun X h p => jM hy hs2⟩
      | 1 => simp at a1 a2; subst a1; subst a2; exact ⟨.v _ rfl, fun X h p => .flat _ _ _ rfl⟩
      | i + 2 => simp at a1
     exact ⟨.tup _ _ (by simp) fun i d x a1 a2 => (hall i d x a1 a2).1, .tup _ _ _ fun i d x a1 a2 => (hall i d x a1 a2).2 _ _ _⟩
 ·exact h.elim
theorem qJ (b off j : Nat) : (⟨b, off, none⟩ : Addr).add j = ⟨b, off + j, none⟩ := by unfold Addr.add; split <;> simp_all
def xV (P : Program) (s d : TypeId) : Prop := ∃ e, P.underlying s = some (.slice e) ∧ P.underlying e = some (.int .u8) ∧ P.underlying d = some .string
def dA (P : Program) (dst : Option Tmp) (s d : TypeId) (sx : Slot) (obj : List (List D)) : fE := fun sets ob =>
 match dst, sx with
 | some t, .d (.slo m a len _) => ∃ l : List UInt8, (xV P s d ∧ l.length = len ∧ ∃ cs, obj[m]? = some cs ∧ ∀ (i : Nat) (x : UInt8), l[i]? = some x → cs[a + i]? = some (.v (.int .u8 (x.toNat : Int)))) ∧ sets = [(t, .d (.str ⟨l.toArray⟩))] ∧ ob = none
 | some t, .d (.sl _ es) => ∃ l : List UInt8, (xV P s d ∧ es = l.map fun x => D.v (.int .u8 (x.toNat : Int))) ∧ sets = [(t, .d (.str ⟨l.toArray⟩))] ∧ ob = none
 | _, _ => False
theorem Ce {dst : Option Tmp} {s d : TypeId} {sx : Slot} {obj : List (List D)} {sets : List (Nat × Slot)} {ob : Option (List (List D))} (h : dA P dst s d sx obj sets ob) : (∀ p ∈ sets, p.1 ∈ dst.toList) ∧ ob = none := by
 unfold dA at h;split at h
 ·obtain ⟨_, _, rfl, rfl⟩ := h; exact ⟨by simp, rfl⟩
 ·obtain ⟨_, _, rfl, rfl⟩ := h; exact ⟨by simp, rfl⟩
 ·exact h.elim
theorem Bs {o : Oper} {st : St} (s d : TypeId) (x : Operand) (hd : bL o st) (ho : o.op = .convert s d x) {sets : List (Nat × Slot)} {ob : Option (List (List D))}
  (h : dA P o.dst s d (st.rdS x) st.obj sets ob) : Does P o st (· = st.upd ⟨sets, none, ob⟩) := by
 unfold dA at h;split at h
 ·rename_i t m a len cap hdst hx;obtain ⟨l, ⟨⟨e, u1, u2, u3⟩, hl, cs, hcs, hb⟩, rfl, rfl⟩ := h;refine aT hd (.d (.str ⟨l.toArray⟩)) (fun w g tmps hok => ?_) (by rw [hdst]; rfl);have hr := hok.rd x;rw [bB hx] at hr;refine ⟨.string ⟨l.toArray⟩, ?_, aM (.v _ rfl) rfl⟩;suffices hgo : (convert s d (ev tmps x)).run P w = .ok (.string ⟨l.toArray⟩) w by
   simp only [execOp, ho];simp [hgo]
  generalize ev tmps x = v at hr;cases hr with
  | slo _ _ _ _ xa hxa hc hm =>
  subst hl;rcases Nat.eq_zero_or_pos l.length with h0 | h0
  ·obtain rfl : l = [] := List.eq_nil_of_length_eq_zero h0;cases xa with
   | none =>
    rw [run_convert_bytes_string w s d e none ([] : List UInt8).length cap u1 u2 u3];rfl
   | some ad => exact run_convert_bytes_back w s d e ad cap [] u1 u2 u3 (fun j hj => absurd hj (Nat.not_lt_zero _))
  ·obtain ⟨b, hbs, rfl⟩ := hxa (by omega);have hne : cs ≠ [] := by
    rintro rfl;have := hb 0 l[0] (List.getElem?_eq_getElem h0);simp at this
   obtain ⟨cur, E, o1, o2, o3, o4, o5⟩ := (hok.obj m b cs hbs hcs).resolve_left hne;refine run_convert_bytes_back w s d e _ cap l u1 u2 u3 fun j hj => ?_;have hd1 := hb j l[j] (List.getElem?_eq_getElem hj);have hlt := (List.getElem?_eq_some_iff.1 hd1).1;have hx1 : cur[a + j]? = some (cur[a + j]'(by omega)) := Array.getElem?_eq_getElem (by omega);obtain ⟨r1, -, -⟩ := o5 (a + j) _ _ hd1 hx1;have hv := r1.vEq;rw [qJ];simp only [World.cell?, o1];rw [← hv]; exact hx1
 ·rename_i t o es hdst hx;obtain ⟨l, ⟨⟨e, u1, u2, u3⟩, hes⟩, rfl, rfl⟩ := h;refine aT hd (.d (.str ⟨l.toArray⟩)) (fun w g tmps hok => ?_) (by rw [hdst]; rfl);have hr := hok.rd x;rw [bB hx] at hr;refine ⟨.string ⟨l.toArray⟩, ?_, aM (.v _ rfl) rfl⟩;suffices hgo : (convert s d (ev tmps x)).run P w = .ok (.string ⟨l.toArray⟩) w by
   simp only [execOp, ho];simp [hgo]
  have hlen : es.length = l.length := by rw [hes]; simp
  generalize ev tmps x = v at hr;cases hr with
  | nil =>
   obtain rfl : l = [] := List.eq_nil_of_length_eq_zero (by rw [← hlen]; rfl);rw [run_convert_bytes_string w s d e none 0 0 u1 u2 u3];rfl
  | emp _ a cap hm =>
   obtain rfl : l = [] := List.eq_nil_of_length_eq_zero (by rw [← hlen]; rfl);exact run_convert_bytes_back w s d e a cap [] u1 u2 u3 (fun j hj => absurd hj (Nat.not_lt_zero _))
  | sl _ _ b off n cap k vs hl hn hk hc hm hr hs hx2 =>
   have hn2 : n = l.length := by rw [hn, hlen]
   subst hn2;refine run_convert_bytes_back w s d e _ cap l u1 u2 u3 fun j hj => ?_;have hd1 : es[j]? = some (.v (.int .u8 (l[j].toNat : Int))) := by rw [hes, List.getElem?_map, List.getElem?_eq_getElem hj]; rfl
   obtain rfl : k = 1 := (hs j _ hd1).symm;have hv1 : vs[j]? = some (vs[j]'(by omega)) := List.getElem?_eq_getElem (by omega);have hv2 := (hr j _ _ hd1 hv1).vEq;have hm2 := (hx2 j _ hv1).2 0 (.int .u8 (l[j].toNat : Int)) (by rw [hv2]; rfl);rw [qJ];have := hok.mem _ _ _ hm2.2;simpa using this
 ·exact h.elim
theorem Ab {dst : Option Tmp} {t : TypeId} {sx : Slot} {sets : List (Nat × Slot)} {ob : Option (List (List D))} (h : pY P dst t sx sets ob) : (∀ p ∈ sets, p.1 ∈ dst.toList) ∧ ob = none := by
 unfold pY at h;split at h
 ·obtain ⟨_, rfl, rfl⟩ := h; exact ⟨by simp, rfl⟩
 ·exact h.elim
theorem wN {dst : Option Tmp} {t : TypeId} {sx : Slot} {ok : Bool} {sets : List (Nat × Slot)} {ob : Option (List (List D))} (h : lJ P dst t sx ok sets ob) : (∀ p ∈ sets, p.1 ∈ dst.toList) ∧ ob = none := by
 unfold lJ at h;split at h
 ·obtain ⟨_, rfl, rfl⟩ := h; exact ⟨by simp, rfl⟩
 ·exact h.elim
theorem wZ {dst : Option Tmp} {t : TypeId} {sx sk : Slot} {ok : Bool} {obj : List (List D)} {sets : List (Nat × Slot)} {ob : Option (List (List D))} (h : jY P dst t sx sk ok obj sets ob) : (∀ p ∈ sets, p.1 ∈ dst.toList) ∧ ob = none := by
 unfold jY at h;split at h
 ·obtain ⟨_, _, _, _, _, _, _, rfl, rfl⟩ := h; exact ⟨by simp, rfl⟩
 ·exact h.elim
theorem nK {dst : Option Tmp} {t : TypeId} {sx sk sv : Slot} {obj : List (List D)} {sets : List (Nat × Slot)} {ob : Option (List (List D))} (h : jO P dst t sx sk sv obj sets ob) : ∀ p ∈ sets, p.1 ∈ dst.toList := by
 unfold jO at h;split at h
 ·obtain ⟨_, _, _, _, _, _, _, rfl, rfl⟩ := h; simp
 ·exact h.elim
theorem xI {dst : Option Tmp} {t : TypeId} {sx sk sv : Slot} {obj : List (List D)} {sets : List (Nat × Slot)} {ob : Option (List (List D))} (h : lU P dst t sx sk sv obj sets ob) : ∀ p ∈ sets, p.1 ∈ dst.toList := by
 unfold lU at h;split at h
 ·obtain ⟨_, _, _, _, _, _, rfl, rfl⟩ := h; simp
 ·exact h.elim
theorem xR {dst : Option Tmp} {t : TypeId} {sx sk : Slot} {obj : List (List D)} {sets : List (Nat × Slot)} {ob : Option (List (List D))} (h : lQ P dst t sx sk obj sets ob) : ∀ p ∈ sets, p.1 ∈ dst.toList := by
 unfold lQ at h;split at h
 ·obtain ⟨_, _, _, _, _, _, rfl, rfl⟩ := h; simp
 ·exact h.elim
theorem zU {dst : Option Tmp} {t : TypeId} {sx sk : Slot} {obj : List (List D)} {sets : List (Nat × Slot)} {ob : Option (List (List D))} (h : pV P dst t sx sk obj sets ob) : ∀ p ∈ sets, p.1 ∈ dst.toList := by
 unfold pV at h;split at h
 ·obtain ⟨_, _, _, _, _, _, _, _, _, rfl, rfl⟩ := h; simp
 ·exact h.elim
theorem uG {dst : Option Tmp} {t : TypeId} {r : Option Slot} {obj : List (List D)} {sets : List (Nat × Slot)} {ob : Option (List (List D))} (h : iH P dst t r obj sets ob) : ∀ p ∈ sets, p.1 ∈ dst.toList := by
 unfold iH at h;split at h
 ·obtain ⟨_, rfl, rfl⟩ := h; simp
 ·exact h.elim
theorem Bg {dst : Option Tmp} {t : TypeId} {sx : Slot} {obj : List (List D)} {sets : List (Nat × Slot)} {ob : Option (List (List D))} (h : rS P dst t sx obj sets ob) : (∀ p ∈ sets, p.1 ∈ dst.toList) ∧ ob = none := by
 unfold rS at h;split at h
 ·obtain ⟨_, _, _, _, _, rfl, rfl⟩ := h; exact ⟨by simp, rfl⟩
 ·exact h.elim
def wE (P : Program) (f : FuncId) : Prop := ∃ fn tS tR e ti, P.funcs[f]? = some fn ∧ (fn.name == "runtime.NumGoroutine") = false ∧ fn.body.isNone = true ∧ Extern.findNext fn = none ∧ Extern.find fn = some (Extern.SlicesOverlaps.overlaps #[tS, tS] #[tR]) ∧ P.underlying tS = some (.slice e) ∧ P.info? e = some ti
def uX (P : Program) (dst : Option Tmp) (f : FuncId) (sx sy : Slot) (obj : List (List D)) : fE := fun sets ob =>
 match sx, sy with
 | .d (.sl true (_ :: _)), .d (.slo m _ _ cap) => (wE P f ∧ 0 < cap ∧ ∃ cs, obj[m]? = some cs ∧ cs ≠ []) ∧ sets = dst.toList.map (fun d => (d, .d (.bool false))) ∧ ob = none
 | _, _ => False
theorem Dh {o : Oper} {st : St} (f : FuncId) (t t2 : TypeId) (y x : Operand) (hd : bL o st) (ho : o.op = .call { callee := .value (.func f), args := #[y, x], argTypes := #[t, t2] }) {sets : List (Nat × Slot)} {ob : Option (List (List D))}
  (h : uX P o.dst f (st.rdS y) (st.rdS x) st.obj sets ob) : Does P o st (· = st.upd ⟨sets, none, ob⟩) := by
 unfold uX at h;split at h
 ·rename_i e0 es m a len cap hy hx;obtain ⟨⟨⟨fn, tS, tR, e, ti, f1, f2, f3, f4, f5, f7, f8⟩, hcap, cs, hcs, hne⟩, rfl, rfl⟩ := h;have hst : st.upd ⟨o.dst.toList.map (fun d => (d, .d (.bool false))), none, none⟩ = st.put o.dst (.d (.bool false)) := by
   cases o.dst <;> rfl
  rw [hst];refine aT hd (.d (.bool false)) (fun w g tmps hok => ?_) rfl;cases y with
  | const u => simp only [St.rdS, Slot.d.injEq] at hy; cases u <;> simp [D.ofV, D.ofV1] at hy <;> (repeat' split at hy) <;> cases hy
  | func u => simp [St.rdS] at hy
  | global u => simp [St.rdS, Slot.any] at hy
  | tmp s =>
  have hy : st.env s = .d (.sl true (e0 :: es)) := hy;have hsl := hok.slot s;rw [hy] at hsl;obtain ⟨hr, ho2⟩ := hsl;have hr' := hok.rd x;rw [bB hx] at hr';have hvy : ev tmps (.tmp s) = aU tmps s := rfl;generalize aU tmps s = vy at hr ho2 hvy;generalize hvx : ev tmps x = vx at hr';refine ⟨.bool false, ?_, aM (.v _ rfl) rfl⟩;have run : ∀ v1 v2 : Value, (Extern.SlicesOverlaps.overlaps #[tS, tS] #[tR] #[v1, v2]).run P w = .ok (.bool false) w → ev tmps (.tmp s) = v1 → ev tmps x = v2 → (execOp (ev tmps) o).run P w = .ok (.value (.bool false)) w := by
   intro v1 v2 hrun e1 e2;have hfe : ∀ (t : Array Value), (⟨t, []⟩ : Act).eval (.func f) = .func (.func f) #[] #[] := fun _ => rfl;have hc := run_callFunc_extern (P := P) f1 f2 f3 f4 f5 #[v1, v2] w;rw [hrun] at hc;simp [execOp, ho, resolve, hfe, Deferred.ofValue, invoke, e1, e2, hc, Result.andThen]
  cases hr' with
  | slo _ _ _ _ xa hb hc hm =>
   obtain ⟨b, hb2, rfl⟩ := hb hcap;obtain ⟨cur, E, o1, o2, o3, o4, o5⟩ := (hok.obj m b cs hb2 hcs).resolve_left hne;cases ho2 with
   | flat p d v hf => simp [D.flat] at hf
   | sl p es' v hO =>
   cases hr with
   | sl _ _ b' off n cap' k vs hl hn hk hc' hm' hr hs hx' =>
    have hv : 0 < vs.length := by rw [hl]; simp
    rcases hO with ⟨a0, n0, e1⟩ | ⟨b0, n0, c0, k0, cur0, E0, e1, _, _, hh, hk0, hcs0, hn0, hle, _⟩
    ·simp only [Value.slice.injEq] at e1;obtain ⟨_, _, rfl⟩ := e1;subst hn;simp at hc'
    ·simp only [Value.slice.injEq, Option.some.injEq, Addr.mk.injEq] at e1;obtain ⟨⟨rfl, rfl, _⟩, rfl, rfl⟩ := e1;refine run _ _ (Lib.run_overlaps_apart (P := P) w tS tR e f7 ti.size (aR f8) _ _ _ _ _ _ ?_ E0 E cur0.size cur.size ?_ ?_ ?_ ?_ ?_) hvy hvx
     ·show b' ≠ b
      rintro rfl;obtain ⟨x1, x2⟩ := hx' 0 vs[0] (List.getElem?_eq_getElem hv);have hz : 0 < vs[0].cells.size := by rw [x1]; exact hk
      have := (x2 0 _ (Array.getElem?_eq_getElem hz)).2;rw [o4] at this;cases this
     ·simp [World.shape?, hh]
     ·simp [World.shape?, o1]
     ·rw [o2];intro e;exact hne (List.eq_nil_of_length_eq_zero e)
     ·simp [World.frozen?, hh]
     ·simp [World.frozen?, hh]
 ·exact h.elim
theorem Cq {dst : Option Tmp} {f : FuncId} {sx sy : Slot} {obj : List (List D)} {sets : List (Nat × Slot)} {ob : Option (List (List D))} (h : uX P dst f sx sy obj sets ob) : (∀ p ∈ sets, p.1 ∈ dst.toList) ∧ ob = none := by
 unfold uX at h;split at h
 ·obtain ⟨_, rfl, rfl⟩ := h;refine ⟨fun p hp => ?_, rfl⟩;obtain ⟨d, hd, rfl⟩ := List.mem_map.1 hp;exact hd
 ·exact h.elim
def Og (args : List Operand) (ts : List TypeId) (f : Operand → TypeId → fE) : fE := match args, ts with
 | [x], [t] => f x t
 | _, _ => fun _ _ => False
def Oh (args : List Operand) (ts : List TypeId) (f : Operand → Operand → TypeId → TypeId → fE) : fE := match args, ts with
 | [s, x], [t, t2] => f s x t t2
 | _, _ => fun _ _ => False
theorem nT {args : Array Operand} {ts : Array TypeId} {f : Operand → TypeId → fE} {sets : List (Nat × Slot)} {ob : Option (List (List D))} (h : Og args.toList ts.toList f sets ob) : ∃ x t, args = #[x] ∧ ts = #[t] ∧ f x t sets ob := by
 unfold Og at h;rcases args with ⟨_ | ⟨a, _ | ⟨b, l⟩⟩⟩ <;> rcases ts with ⟨_ | ⟨t, _ | ⟨u, m⟩⟩⟩ <;> first | exact absurd h not_false | exact ⟨a, t, rfl, rfl, h⟩
theorem gU {args : Array Operand} {ts : Array TypeId} {f : Operand → Operand → TypeId → TypeId → fE} {sets : List (Nat × Slot)} {ob : Option (List (List D))} (h : Oh args.toList ts.toList f sets ob) : ∃ s x t u, args = #[s, x] ∧ ts = #[t, u] ∧ f s x t u sets ob := by
 unfold Oh at h;rcases args with ⟨_ | ⟨a, _ | ⟨b, _ | ⟨c, l⟩⟩⟩⟩ <;> rcases ts with ⟨_ | ⟨t, _ | ⟨u, _ | ⟨v, m⟩⟩⟩⟩ <;> first | exact absurd h not_false | exact ⟨a, b, t, u, rfl, rfl, h⟩
theorem vM {args : List Operand} {ts : List TypeId} {f f' : Operand → TypeId → fE} (h : ∀ x t, x ∈ args → f' x t = f x t) : Og args ts f' = Og args ts f := by
 unfold Og;split
 ·exact h _ _ (by simp)
 ·rfl
theorem lV {args : List Operand} {ts : List TypeId} {f f' : Operand → Operand → TypeId → TypeId → fE} (h : ∀ s x t u, s ∈ args → x ∈ args → f' s x t u = f s x t u) : Oh args ts f' = Oh args ts f := by
 unfold Oh;split
 ·exact h _ _ _ _ (by simp) (by simp)
 ·rfl
def yR (P : Program) (alt : Bool) (dst : Option Tmp) (op : Op) (rd : Operand → Slot) (obj : List (List D)) : fE := match op with
 | .slice t x lo hi none => oR P dst t x (rd x) (lo.map rd) (hi.map rd)
 | .makeSlice t l c => vS P alt dst t (rd l) (rd c) obj
 | .call ⟨.builtin .cap, args, ts⟩ => Og args.toList ts.toList fun x t => Ge P dst t (rd x)
 | .call ⟨.builtin .len, args, ts⟩ => Og args.toList ts.toList fun x t => if alt = true then rS P dst t (rd x) obj else Gf P dst t (rd x)
 | .call ⟨.builtin .append, args, ts⟩ => Oh args.toList ts.toList fun s x t t2 => lK P dst t t2 s (rd s) (rd x) obj
 | .call ⟨.builtin .copy, args, ts⟩ => Oh args.toList ts.toList fun s x t t2 => uU P alt dst t t2 (rd s) (rd x) obj
 | .call ⟨.builtin .delete, args, ts⟩ => Oh args.toList ts.toList fun s x t _ => lQ P dst t (rd s) (rd x) obj
 | .call ⟨.value (.func f), args, ts⟩ => Oh args.toList ts.toList fun s x _ _ => uX P dst f (rd s) (rd x) obj
 | .lookup t x i ok => jY P dst t (rd x) (rd i) ok obj
 | .mapUpdate t x i v => jO P dst t (rd x) (rd i) (rd v) obj
 | .insert t x i v => jO P dst t (rd x) (rd i) (rd v) obj
 | .makeMap t r => iH P dst t (r.map rd) obj
 | .mapEntry t x i => pV P dst t (rd x) (rd i) obj
 | .entryStore t x i v => lU P dst t (rd x) (rd i) (rd v) obj
 | .makeInterface t x => pY P dst t (rd x)
 | .typeAssert x _ a ok => lJ P dst a (rd x) ok
 | .convert s d x => dA P dst s d (rd x) obj
 | _ => fun _ _ => False
def Lf (alt : Bool) (op : Op) : Fl := match op with
 | .slice _ _ _ _ _ => ⟨false, false, false, false⟩
 | .makeSlice _ _ _ => if alt = true then ⟨false, false, false, false⟩ else ⟨false, false, true, true⟩
 | .call ⟨.builtin .cap, _, _⟩ => ⟨false, false, false, false⟩
 | .call ⟨.builtin .len, _, _⟩ => if alt = true then ⟨false, false, true, false⟩ else ⟨false, false, false, false⟩
 | .lookup _ _ _ _ => ⟨false, false, true, false⟩
 | .makeInterface _ _ => ⟨false, false, false, false⟩
 | .typeAssert _ _ _ _ => ⟨false, false, false, false⟩
 | .call ⟨.builtin .append, _, _⟩ => ⟨false, false, true, false⟩
 | .convert _ _ _ => ⟨false, false, true, false⟩
 | _ => ⟨false, false, true, true⟩
theorem zA {alt : Bool} {dst : Option Tmp} {op : Op} {rd rd' : Operand → Slot} {obj : List (List D)} (h : ∀ x ∈ op.operands.toList, rd' x = rd x) : yR P alt dst op rd' obj = yR P alt dst op rd obj := by
 unfold yR;split
 ·rename_i t x lo hi;have e1 : lo.map rd' = lo.map rd := by
   cases lo with
   | none => rfl
   | some y => simp only [Option.map_some]; rw [h y (by simp [Op.operands])]
  have e2 : hi.map rd' = hi.map rd := by
   cases hi with
   | none => rfl
   | some y => simp only [Option.map_some]; rw [h y (by simp [Op.operands])]
  rw [e1, e2, h x (by simp [Op.operands])]
 ·rename_i t l c;rw [h l (by simp [Op.operands]), h c (by simp [Op.operands])]
 ·rename_i args ts; exact vM fun x t hx => by rw [h x (by simpa [Op.operands, Call.operands] using hx)]
 ·rename_i args ts; exact vM fun x t hx => by rw [h x (by simpa [Op.operands, Call.operands] using hx)]
 ·rename_i args ts; exact lV fun s x t u hs hx => by rw [h x (by simpa [Op.operands, Call.operands] using hx), h s (by simpa [Op.operands, Call.operands] using hs)]
 ·rename_i args ts; exact lV fun s x t u hs hx => by rw [h x (by simpa [Op.operands, Call.operands] using hx), h s (by simpa [Op.operands, Call.operands] using hs)]
 ·rename_i args ts; exact lV fun s x t u hs hx => by rw [h x (by simpa [Op.operands, Call.operands] using hx), h s (by simpa [Op.operands, Call.operands] using hs)]
 ·rename_i f args ts; exact lV fun s x t u hs hx => by rw [h x (by simp [Op.operands, Call.operands, hx]), h s (by simp [Op.operands, Call.operands, hs])]
 ·rename_i t x i ok; rw [h x (by simp [Op.operands]), h i (by simp [Op.operands])]
 ·rename_i t x i v; rw [h x (by simp [Op.operands]), h i (by simp [Op.operands]), h v (by simp [Op.operands])]
 ·rename_i t x i v; rw [h x (by simp [Op.operands]), h i (by simp [Op.operands]), h v (by simp [Op.operands])]
 ·rename_i t r;have e1 : r.map rd' = r.map rd := by
   cases r with
   | none => rfl
   | some y => simp only [Option.map_some]; rw [h y (by simp [Op.operands])]
  rw [e1]
 ·rename_i t x i; rw [h x (by simp [Op.operands]), h i (by simp [Op.operands])]
 ·rename_i t x i v; rw [h x (by simp [Op.operands]), h i (by simp [Op.operands]), h v (by simp [Op.operands])]
 ·rename_i t x; rw [h x (by simp [Op.operands])]
 ·rename_i x xt a ok; rw [h x (by simp [Op.operands])]
 ·rename_i s d x; rw [h x (by simp [Op.operands])]
 ·rfl
theorem zD {op : Op} {x : Operand} {dst : Option Tmp} (hx : x ∈ op.operands.toList) {t : Nat} (h : t ∈ dst.toList ++ (aZ x).toList) : t ∈ dst.toList ++ dP op := by
 rcases List.mem_append.1 h with h | h
 ·exact List.mem_append_left _ h
 ·refine List.mem_append_right _ (List.mem_filterMap.2 ⟨x, hx, ?_⟩);cases hs : aZ x with
  | none => rw [hs] at h; simp at h
  | some u => rw [hs] at h; simp at h; rw [h]
theorem Ei {alt : Bool} {dst : Option Tmp} {op : Op} {rd : Operand → Slot} {obj : List (List D)} {sets : List (Nat × Slot)} {ob : Option (List (List D))} (h : yR P alt dst op rd obj sets ob) : (∀ p ∈ sets, p.1 ∈ dst.toList ++ dP op) ∧ (ob.isSome = true → (Lf alt op).wO = true) := by
 unfold yR at h;split at h
 ·obtain ⟨h1, rfl⟩ := zV h; exact ⟨fun p hp => zD (by simp [Op.operands]) (h1 p hp), by simp⟩
 ·obtain ⟨h1, h2⟩ := Ch h; exact ⟨fun p hp => List.mem_append_left _ (h1 p hp), fun h3 => by rw [h2 h3]; rfl⟩
 ·obtain ⟨x, t, rfl, rfl, h⟩ := nT h; obtain ⟨h1, rfl⟩ := Ic h; exact ⟨fun p hp => List.mem_append_left _ (h1 p hp), by simp⟩
 ·obtain ⟨x, t, rfl, rfl, h⟩ := nT h;split at h
  ·obtain ⟨h1, rfl⟩ := Bg h; exact ⟨fun p hp => List.mem_append_left _ (h1 p hp), by simp⟩
  ·obtain ⟨h1, rfl⟩ := Iq h; exact ⟨fun p hp => List.mem_append_left _ (h1 p hp), by simp⟩
 ·obtain ⟨s, x, t, u, rfl, rfl, h⟩ := gU h; obtain ⟨h1, rfl⟩ := wV h; exact ⟨fun p hp => zD (by simp [Op.operands, Call.operands]) (h1 p hp), by simp⟩
 ·obtain ⟨s, x, t, u, rfl, rfl, h⟩ := gU h; have h1 := Cv h; exact ⟨fun p hp => List.mem_append_left _ (h1 p hp), fun _ => rfl⟩
 ·obtain ⟨s, x, t, u, rfl, rfl, h⟩ := gU h; have h1 := xR h; exact ⟨fun p hp => List.mem_append_left _ (h1 p hp), fun _ => rfl⟩
 ·obtain ⟨s, x, t, u, rfl, rfl, h⟩ := gU h; obtain ⟨h1, rfl⟩ := Cq h; exact ⟨fun p hp => List.mem_append_left _ (h1 p hp), by simp⟩
 ·obtain ⟨h1, rfl⟩ := wZ h; exact ⟨fun p hp => List.mem_append_left _ (h1 p hp), by simp⟩
 ·have h1 := nK h; exact ⟨fun p hp => List.mem_append_left _ (h1 p hp), fun _ => rfl⟩
 ·have h1 := nK h; exact ⟨fun p hp => List.mem_append_left _ (h1 p hp), fun _ => rfl⟩
 ·have h1 := uG h; exact ⟨fun p hp => List.mem_append_left _ (h1 p hp), fun _ => rfl⟩
 ·have h1 := zU h; exact ⟨fun p hp => List.mem_append_left _ (h1 p hp), fun _ => rfl⟩
 ·have h1 := xI h; exact ⟨fun p hp => List.mem_append_left _ (h1 p hp), fun _ => rfl⟩
 ·obtain ⟨h1, rfl⟩ := Ab h; exact ⟨fun p hp => List.mem_append_left _ (h1 p hp), by simp⟩
 ·obtain ⟨h1, rfl⟩ := wN h; exact ⟨fun p hp => List.mem_append_left _ (h1 p hp), by simp⟩
 ·obtain ⟨h1, rfl⟩ := Ce h; exact ⟨fun p hp => List.mem_append_left _ (h1 p hp), by simp⟩
 ·exact h.elim
def Xy (P : Program) (alt : Bool) (dst : Option Tmp) (op : Op) (st : St) (K : St → Prop) : Prop :=
 ∃ sets ob, yR P alt dst op st.rdS (if (Lf alt op).rO = true then st.obj else []) sets ob ∧ K (st.upd ⟨sets, none, ob⟩)
theorem Ut {o : Oper} {st : St} {alt : Bool} (hd : bL o st) {sets : List (Nat × Slot)} {ob : Option (List (List D))} (h : yR P alt o.dst o.op st.rdS (if (Lf alt o.op).rO = true then st.obj else []) sets ob) : Does P o st (· = st.upd ⟨sets, none, ob⟩) := by
 generalize hop : o.op = op at h;unfold yR at h;split at h
 ·rename_i t x lo hi; exact Ar t x lo hi hd hop h
 ·rename_i t l c;refine Dn (alt := alt) t l c hd hop (fun ha => ?_) h;subst ha; rfl
 ·obtain ⟨x, t, rfl, rfl, h⟩ := nT h; exact Fp t x hd hop h
 ·obtain ⟨x, t, rfl, rfl, h⟩ := nT h;split at h
  ·rename_i ha; subst ha; exact Cr t x hd hop h
  ·exact Gd t x hd hop h
 ·obtain ⟨s, x, t, u, rfl, rfl, h⟩ := gU h; exact wK t u s x hd hop h
 ·obtain ⟨s, x, t, u, rfl, rfl, h⟩ := gU h; exact Bp t u s x hd hop h
 ·obtain ⟨s, x, t, u, rfl, rfl, h⟩ := gU h; exact xB t u s x hd hop h
 ·obtain ⟨s, x, t, u, rfl, rfl, h⟩ := gU h; exact Dh _ t u s x hd hop h
 ·rename_i t x i ok; exact xK t x i ok hd hop h
 ·rename_i t x i v; exact oE t x i v hd (.inl hop) h
 ·rename_i t x i v; exact oE t x i v hd (.inr hop) h
 ·rename_i t r; exact uO t r hd hop h
 ·rename_i t x i; exact zI t x i hd hop h
 ·rename_i t x i v; exact wT t x i v hd hop h
 ·rename_i t x; exact Aj t x hd hop h
 ·rename_i x xt a ok; exact xH x xt a ok hd hop h
 ·rename_i s d x; exact Bs s d x hd hop h
 ·exact h.elim
theorem Ly {o : Oper} {st : St} {alt : Bool} {K : St → Prop} (hd : bL o st) (h : Xy P alt o.dst o.op st K) : Does P o st K := by
 obtain ⟨sets, ob, h1, hK⟩ := h;exact (Ut hd h1).mono (by rintro _ rfl; exact hK)
end
end Go.Vm

