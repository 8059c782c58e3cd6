import Derived.Lib.Overlaps
import Derived.Laws.IdiomStrings
import Derived.Laws.Externs
import Derived.Test.YtighdhfgcdjmeaaDoorVmX9
import Derived.Test.YtighdhfgcdjmeaaDoorVmX12
namespace Go.Vm
open Go
set_option linter.all false
section
variable {P : Program}
def Se : TypeDesc → Bool
 | .interface _ => true
 | _ => false
def Sj (P : Program) (t : TypeId) : Option Bool := (P.underlying t).map Se
def oI (P : Program) (dst : Option Tmp) (t : TypeId) (sx : Slot) : fA := fun sets ob =>
 match dst, sx, Sj P t with
 | some d, .d d0, some false => d0.solid = true ∧ sets = [(d, .d (.ifc t d0.s2))] ∧ ob = none
 | _, _, _ => False
def lC (P : Program) (dst : Option Tmp) (a : TypeId) (sx : Slot) (ok : Bool) : fA := fun sets ob =>
 match dst, sx, Sj P a with
 | some d, .d (.ifc t d0), some false => (t = a ∧ d0.solid = true) ∧ sets = [(d, .d (if ok = true then .tup [d0.s2, .bool true] else d0.s2))] ∧ ob = none
 | _, _, _ => False
theorem wP {t : TypeId} (h : Sj P t = some false) : ∃ td, P.underlying t = some td ∧ ∀ m, td ≠ .interface m := by
 unfold Sj at h;rw [Option.map_eq_some_iff] at h;obtain ⟨td, h1, h2⟩ := h;exact ⟨td, h1, by rintro m rfl; cases h2⟩
theorem xO {o : Oper} {st : St} (t : TypeId) (x : Operand) (hd : bA o st) (ho : o.op = .makeInterface t x) {sets : List (Nat × Slot)} {ob : Option (List (List D))}
  (h : oI P o.dst t (st.rdS x) sets ob) : Does P o st (· = st.upd ⟨sets, none, ob⟩) := by
 unfold oI at h;split at h
 ·rename_i d d0 hdst hx hi;obtain ⟨hs, rfl, rfl⟩ := h;obtain ⟨td, u1, u2⟩ := wP hi;refine aP hd (.d (.ifc t d0.s2)) (fun w g tmps hok => ?_) (by rw [hdst]; rfl);have hr := hok.rd x;rw [aV hx] at hr;refine ⟨.iface t (ev tmps x), ?_, aK (.ifc _ _ _ hr.s2) rfl⟩;cases td with
  | interface m => exact absurd rfl (u2 m)
  | _ => simp [execOp, ho, Instr.makeInterface, run_underlying u1]
 ·exact h.elim
theorem vU {o : Oper} {st : St} (x : Operand) (xt a : TypeId) (ok : Bool) (hd : bA o st) (ho : o.op = .typeAssert x xt a ok) {sets : List (Nat × Slot)} {ob : Option (List (List D))}
  (h : lC P o.dst a (st.rdS x) ok sets ob) : Does P o st (· = st.upd ⟨sets, none, ob⟩) := by
 unfold lC at h;split at h
 ·rename_i d t d0 hdst hx hi;obtain ⟨⟨rfl, hs⟩, rfl, rfl⟩ := h;obtain ⟨td, u1, u2⟩ := wP hi;obtain ⟨hs1, hs2⟩ := dC hs;refine aP hd (.d (if ok = true then .tup [d0.s2, .bool true] else d0.s2)) (fun w g tmps hok => ?_) (by rw [hdst]; rfl);have hr := hok.rd x;rw [aV hx] at hr;generalize hv : ev tmps x = v at hr;cases hr with
  | ifc _ _ y hy =>
   refine ⟨if ok = true then .tuple #[y, .bool true] else y, ?_, fun u => ?_⟩
   ·cases td with
    | interface m => exact absurd rfl (u2 m)
    | _ => cases ok <;> simp [execOp, ho, Instr.typeAssert, run_underlying u1, hv]
   ·cases ok with
    | false => exact ⟨hy.s2, jA hy hs2⟩
    | true =>
     have hall : ∀ (i : Nat) (d : D) (x : Value), [d0.s2, D.bool true][i]? = some d → (#[y, Value.bool true] : Array Value)[i]? = some x → R g.M g.bs d x ∧ ∀ X h p, Own w g.M g.bs X h p d x := by
      intro i d x a1 a2
      match i with
      | 0 => simp at a1 a2; subst a1; subst a2; exact ⟨hy.s2, fun X h p => jA hy hs2⟩
      | 1 => simp at a1 a2; subst a1; subst a2; exact ⟨.v _ rfl, fun X h p => .flat _ _ _ rfl⟩
      | i + 2 => simp at a1
     exact ⟨.tup _ _ (by simp) fun i d x a1 a2 => (hall i d x a1 a2).1, .tup _ _ _ fun i d x a1 a2 => (hall i d x a1 a2).2 _ _ _⟩
 ·exact h.elim
def Cc (P : Program) (s d : TypeId) : Prop := ∃ e, P.underlying s = some (.slice e) ∧ P.underlying e = some (.int .u8) ∧ P.underlying d = some .string
def cX (P : Program) (dst : Option Tmp) (s d : TypeId) (sx : Slot) (obj : List (List D)) : fA := fun sets ob =>
 match dst, sx with
 | some t, .d (.slo m a len _) => ∃ l : List UInt8, (Cc P s d ∧ l.length = len ∧ ∃ cs, obj[m]? = some cs ∧ ∀ (i : Nat) (x : UInt8), l[i]? = some x → cs[a + i]? = some (.v (.int .u8 (x.toNat : Int)))) ∧ sets = [(t, .d (.str ⟨l.toArray⟩))] ∧ ob = none
 | _, _ => False
theorem Av {dst : Option Tmp} {s d : TypeId} {sx : Slot} {obj : List (List D)} {sets : List (Nat × Slot)} {ob : Option (List (List D))} (h : cX P dst s d sx obj sets ob) : (∀ p ∈ sets, p.1 ∈ dst.toList) ∧ ob = none := by
 unfold cX at h;split at h
 ·obtain ⟨_, _, rfl, rfl⟩ := h; exact ⟨by simp, rfl⟩
 ·exact h.elim
theorem Ad {o : Oper} {st : St} (s d : TypeId) (x : Operand) (hd : bA o st) (ho : o.op = .convert s d x) {sets : List (Nat × Slot)} {ob : Option (List (List D))}
  (h : cX P o.dst s d (st.rdS x) st.obj sets ob) : Does P o st (· = st.upd ⟨sets, none, ob⟩) := by
 unfold cX at h;split at h
 ·rename_i t m a len cap hdst hx;obtain ⟨l, ⟨⟨e, u1, u2, u3⟩, hl, cs, hcs, hb⟩, rfl, rfl⟩ := h;refine aP hd (.d (.str ⟨l.toArray⟩)) (fun w g tmps hok => ?_) (by rw [hdst]; rfl);have hr := hok.rd x;rw [aV hx] at hr;refine ⟨.string ⟨l.toArray⟩, ?_, aK (.v _ rfl) rfl⟩;suffices hgo : (convert s d (ev tmps x)).run P w = .ok (.string ⟨l.toArray⟩) w by
   simp only [execOp, ho];simp [hgo]
  generalize ev tmps x = v at hr;cases hr with
  | slo _ _ _ _ xa hxa hc hm =>
  subst hl;rcases Nat.eq_zero_or_pos l.length with h0 | h0
  ·obtain rfl : l = [] := List.eq_nil_of_length_eq_zero h0;cases xa with
   | none =>
    rw [run_convert_bytes_string w s d e none ([] : List UInt8).length cap u1 u2 u3];rfl
   | some ad => exact run_convert_bytes_back w s d e ad cap [] u1 u2 u3 (fun j hj => absurd hj (Nat.not_lt_zero _))
  ·obtain ⟨b, hbs, rfl⟩ := hxa (by omega);have hne : cs ≠ [] := by
    rintro rfl;have := hb 0 l[0] (List.getElem?_eq_getElem h0);simp at this
   obtain ⟨cur, E, o1, o2, o3, o4, o5⟩ := (hok.obj m b cs hbs hcs).resolve_left hne;refine run_convert_bytes_back w s d e _ cap l u1 u2 u3 fun j hj => ?_;have hd1 := hb j l[j] (List.getElem?_eq_getElem hj);have hlt := (List.getElem?_eq_some_iff.1 hd1).1;have hx1 : cur[a + j]? = some (cur[a + j]'(by omega)) := Array.getElem?_eq_getElem (by omega);obtain ⟨r1, -, -⟩ := o5 (a + j) _ _ hd1 hx1;have hv := r1.vEq;have hadd : (⟨b, a, none⟩ : Addr).add j = ⟨b, a + j, none⟩ := by unfold Addr.add; split <;> simp_all
   rw [hadd];simp only [World.cell?, o1];rw [← hv]; exact hx1
 ·exact h.elim
theorem xP {dst : Option Tmp} {t : TypeId} {sx : Slot} {sets : List (Nat × Slot)} {ob : Option (List (List D))} (h : oI P dst t sx sets ob) : (∀ p ∈ sets, p.1 ∈ dst.toList) ∧ ob = none := by
 unfold oI at h;split at h
 ·obtain ⟨_, rfl, rfl⟩ := h; exact ⟨by simp, rfl⟩
 ·exact h.elim
theorem uX {dst : Option Tmp} {t : TypeId} {sx : Slot} {ok : Bool} {sets : List (Nat × Slot)} {ob : Option (List (List D))} (h : lC P dst t sx ok sets ob) : (∀ p ∈ sets, p.1 ∈ dst.toList) ∧ ob = none := by
 unfold lC at h;split at h
 ·obtain ⟨_, rfl, rfl⟩ := h; exact ⟨by simp, rfl⟩
 ·exact h.elim
theorem uO {dst : Option Tmp} {t : TypeId} {sx sk : Slot} {ok : Bool} {obj : List (List D)} {sets : List (Nat × Slot)} {ob : Option (List (List D))} (h : jB P dst t sx sk ok obj sets ob) : (∀ p ∈ sets, p.1 ∈ dst.toList) ∧ ob = none := by
 unfold jB at h;split at h
 ·obtain ⟨_, _, _, _, _, _, _, rfl, rfl⟩ := h; exact ⟨by simp, rfl⟩
 ·exact h.elim
theorem mZ {dst : Option Tmp} {t : TypeId} {sx sk sv : Slot} {obj : List (List D)} {sets : List (Nat × Slot)} {ob : Option (List (List D))} (h : jJ P dst t sx sk sv obj sets ob) : ∀ p ∈ sets, p.1 ∈ dst.toList := by
 unfold jJ at h;split at h
 ·obtain ⟨_, _, _, _, _, _, _, rfl, rfl⟩ := h; simp
 ·exact h.elim
theorem vS {dst : Option Tmp} {t : TypeId} {sx sk sv : Slot} {obj : List (List D)} {sets : List (Nat × Slot)} {ob : Option (List (List D))} (h : lA P dst t sx sk sv obj sets ob) : ∀ p ∈ sets, p.1 ∈ dst.toList := by
 unfold lA at h;split at h
 ·obtain ⟨_, _, _, _, _, _, rfl, rfl⟩ := h; simp
 ·exact h.elim
theorem uQ {dst : Option Tmp} {t : TypeId} {sx sk : Slot} {obj : List (List D)} {sets : List (Nat × Slot)} {ob : Option (List (List D))} (h : kX P dst t sx sk obj sets ob) : ∀ p ∈ sets, p.1 ∈ dst.toList := by
 unfold kX at h;split at h
 ·obtain ⟨_, _, _, _, _, _, rfl, rfl⟩ := h; simp
 ·exact h.elim
theorem xW {dst : Option Tmp} {t : TypeId} {sx sk : Slot} {obj : List (List D)} {sets : List (Nat × Slot)} {ob : Option (List (List D))} (h : oN P dst t sx sk obj sets ob) : ∀ p ∈ sets, p.1 ∈ dst.toList := by
 unfold oN at h;split at h
 ·obtain ⟨_, _, _, _, _, _, _, _, _, rfl, rfl⟩ := h; simp
 ·exact h.elim
theorem sT {dst : Option Tmp} {t : TypeId} {r : Option Slot} {obj : List (List D)} {sets : List (Nat × Slot)} {ob : Option (List (List D))} (h : gU P dst t r obj sets ob) : ∀ p ∈ sets, p.1 ∈ dst.toList := by
 unfold gU at h;split at h
 ·obtain ⟨_, rfl, rfl⟩ := h; simp
 ·exact h.elim
theorem Ai {dst : Option Tmp} {t : TypeId} {sx : Slot} {obj : List (List D)} {sets : List (Nat × Slot)} {ob : Option (List (List D))} (h : rA P dst t sx obj sets ob) : (∀ p ∈ sets, p.1 ∈ dst.toList) ∧ ob = none := by
 unfold rA at h;split at h
 ·obtain ⟨_, _, _, _, _, rfl, rfl⟩ := h; exact ⟨by simp, rfl⟩
 ·exact h.elim
def wB (P : Program) (f : FuncId) : Prop := ∃ fn tS tR e ti, P.funcs[f]? = some fn ∧ (fn.name == "runtime.NumGoroutine") = false ∧ fn.body.isNone = true ∧ Extern.findNext fn = none ∧ Extern.find fn = some (Extern.SlicesOverlaps.overlaps #[tS, tS] #[tR]) ∧ P.underlying tS = some (.slice e) ∧ P.info? e = some ti
def tB (P : Program) (dst : Option Tmp) (f : FuncId) (sx sy : Slot) (obj : List (List D)) : fA := fun sets ob =>
 match sx, sy with
 | .d (.sl true (_ :: _)), .d (.slo m _ _ cap) => (wB P f ∧ 0 < cap ∧ ∃ cs, obj[m]? = some cs ∧ cs ≠ []) ∧ sets = dst.toList.map (fun d => (d, .d (.bool false))) ∧ ob = none
 | _, _ => False
theorem Bj {o : Oper} {st : St} (f : FuncId) (t t2 : TypeId) (y x : Operand) (hd : bA o st) (ho : o.op = .call { callee := .value (.func f), args := #[y, x], argTypes := #[t, t2] }) {sets : List (Nat × Slot)} {ob : Option (List (List D))}
  (h : tB P o.dst f (st.rdS y) (st.rdS x) st.obj sets ob) : Does P o st (· = st.upd ⟨sets, none, ob⟩) := by
 unfold tB at h;split at h
 ·rename_i e0 es m a len cap hy hx;obtain ⟨⟨⟨fn, tS, tR, e, ti, f1, f2, f3, f4, f5, f7, f8⟩, hcap, cs, hcs, hne⟩, rfl, rfl⟩ := h;have hst : st.upd ⟨o.dst.toList.map (fun d => (d, .d (.bool false))), none, none⟩ = st.put o.dst (.d (.bool false)) := by
   cases o.dst <;> rfl
  rw [hst];refine aP hd (.d (.bool false)) (fun w g tmps hok => ?_) rfl;cases y with
  | const u => simp only [St.rdS, Slot.d.injEq] at hy; cases u <;> simp [D.ofV, D.ofV1] at hy <;> (repeat' split at hy) <;> cases hy
  | func u => simp [St.rdS] at hy
  | global u => simp [St.rdS, Slot.any] at hy
  | tmp s =>
  have hy : st.env s = .d (.sl true (e0 :: es)) := hy;have hsl := hok.slot s;rw [hy] at hsl;obtain ⟨hr, ho2⟩ := hsl;have hr' := hok.rd x;rw [aV hx] at hr';have hvy : ev tmps (.tmp s) = aQ tmps s := rfl;generalize aQ tmps s = vy at hr ho2 hvy;generalize hvx : ev tmps x = vx at hr';refine ⟨.bool false, ?_, aK (.v _ rfl) rfl⟩;have run : ∀ v1 v2 : Value, (Extern.SlicesOverlaps.overlaps #[tS, tS] #[tR] #[v1, v2]).run P w = .ok (.bool false) w → ev tmps (.tmp s) = v1 → ev tmps x = v2 → (execOp (ev tmps) o).run P w = .ok (.value (.bool false)) w := by
   intro v1 v2 hrun e1 e2;have hfe : ∀ (t : Array Value), (⟨t, []⟩ : Act).eval (.func f) = .func (.func f) #[] #[] := fun _ => rfl;have hc := run_callFunc_extern (P := P) f1 f2 f3 f4 f5 #[v1, v2] w;rw [hrun] at hc;simp [execOp, ho, resolve, hfe, Deferred.ofValue, invoke, e1, e2, hc, Result.andThen]
  cases hr' with
  | slo _ _ _ _ xa hb hc hm =>
   obtain ⟨b, hb2, rfl⟩ := hb hcap;obtain ⟨cur, E, o1, o2, o3, o4, o5⟩ := (hok.obj m b cs hb2 hcs).resolve_left hne;cases ho2 with
   | flat p d v hf => simp [D.flat] at hf
   | sl p es' v hO =>
   cases hr with
   | sl _ _ b' off n cap' k vs hl hn hk hc' hm' hr hs hx' =>
    have hv : 0 < vs.length := by rw [hl]; simp
    rcases hO with ⟨a0, n0, e1⟩ | ⟨b0, n0, c0, k0, cur0, E0, e1, _, _, hh, hk0, hcs0, hn0, hle, _⟩
    ·simp only [Value.slice.injEq] at e1;obtain ⟨_, _, rfl⟩ := e1;subst hn;simp at hc'
    ·simp only [Value.slice.injEq, Option.some.injEq, Addr.mk.injEq] at e1;obtain ⟨⟨rfl, rfl, _⟩, rfl, rfl⟩ := e1;refine run _ _ (Lib.run_overlaps_apart (P := P) w tS tR e f7 ti.size (aO f8) _ _ _ _ _ _ ?_ E0 E cur0.size cur.size ?_ ?_ ?_ ?_ ?_) hvy hvx
     ·show b' ≠ b
      rintro rfl;obtain ⟨x1, x2⟩ := hx' 0 vs[0] (List.getElem?_eq_getElem hv);have hz : 0 < vs[0].cells.size := by rw [x1]; exact hk
      have := (x2 0 _ (Array.getElem?_eq_getElem hz)).2;rw [o4] at this;cases this
     ·simp [World.shape?, hh]
     ·simp [World.shape?, o1]
     ·rw [o2];intro e;exact hne (List.eq_nil_of_length_eq_zero e)
     ·simp [World.frozen?, hh]
     ·simp [World.frozen?, hh]
 ·exact h.elim
theorem zZ {dst : Option Tmp} {f : FuncId} {sx sy : Slot} {obj : List (List D)} {sets : List (Nat × Slot)} {ob : Option (List (List D))} (h : tB P dst f sx sy obj sets ob) : (∀ p ∈ sets, p.1 ∈ dst.toList) ∧ ob = none := by
 unfold tB at h;split at h
 ·obtain ⟨_, rfl, rfl⟩ := h;refine ⟨fun p hp => ?_, rfl⟩;obtain ⟨d, hd, rfl⟩ := List.mem_map.1 hp;exact hd
 ·exact h.elim
def Lb (args : List Operand) (ts : List TypeId) (f : Operand → TypeId → fA) : fA := match args, ts with
 | [x], [t] => f x t
 | _, _ => fun _ _ => False
def Lc (args : List Operand) (ts : List TypeId) (f : Operand → Operand → TypeId → TypeId → fA) : fA := match args, ts with
 | [s, x], [t, t2] => f s x t t2
 | _, _ => fun _ _ => False
theorem nJ {args : Array Operand} {ts : Array TypeId} {f : Operand → TypeId → fA} {sets : List (Nat × Slot)} {ob : Option (List (List D))} (h : Lb args.toList ts.toList f sets ob) : ∃ x t, args = #[x] ∧ ts = #[t] ∧ f x t sets ob := by
 unfold Lb at h;rcases args with ⟨_ | ⟨a, _ | ⟨b, l⟩⟩⟩ <;> rcases ts with ⟨_ | ⟨t, _ | ⟨u, m⟩⟩⟩ <;> first | exact absurd h not_false | exact ⟨a, t, rfl, rfl, h⟩
theorem gC {args : Array Operand} {ts : Array TypeId} {f : Operand → Operand → TypeId → TypeId → fA} {sets : List (Nat × Slot)} {ob : Option (List (List D))} (h : Lc args.toList ts.toList f sets ob) : ∃ s x t u, args = #[s, x] ∧ ts = #[t, u] ∧ f s x t u sets ob := by
 unfold Lc at h;rcases args with ⟨_ | ⟨a, _ | ⟨b, _ | ⟨c, l⟩⟩⟩⟩ <;> rcases ts with ⟨_ | ⟨t, _ | ⟨u, _ | ⟨v, m⟩⟩⟩⟩ <;> first | exact absurd h not_false | exact ⟨a, b, t, u, rfl, rfl, h⟩
theorem tG {args : List Operand} {ts : List TypeId} {f f' : Operand → TypeId → fA} (h : ∀ x t, x ∈ args → f' x t = f x t) : Lb args ts f' = Lb args ts f := by
 unfold Lb;split
 ·exact h _ _ (by simp)
 ·rfl
theorem kP {args : List Operand} {ts : List TypeId} {f f' : Operand → Operand → TypeId → TypeId → fA} (h : ∀ s x t u, s ∈ args → x ∈ args → f' s x t u = f s x t u) : Lc args ts f' = Lc args ts f := by
 unfold Lc;split
 ·exact h _ _ _ _ (by simp) (by simp)
 ·rfl
def yR (P : Program) (alt : Bool) (dst : Option Tmp) (op : Op) (rd : Operand → Slot) (obj : List (List D)) : fA := match op with
 | .slice t x lo hi none => nV P dst t x (rd x) (lo.map rd) (hi.map rd)
 | .makeSlice t l c => sX P alt dst t (rd l) (rd c) obj
 | .call ⟨.builtin .cap, args, ts⟩ => Lb args.toList ts.toList fun x t => Cn P dst t (rd x)
 | .call ⟨.builtin .len, args, ts⟩ => Lb args.toList ts.toList fun x t => if alt = true then rA P dst t (rd x) obj else Di P dst t (rd x)
 | .call ⟨.builtin .append, args, ts⟩ => Lc args.toList ts.toList fun s x t t2 => kY P dst t t2 s (rd s) (rd x) obj
 | .call ⟨.builtin .copy, args, ts⟩ => Lc args.toList ts.toList fun s x t t2 => tW P alt dst t t2 (rd s) (rd x) obj
 | .call ⟨.builtin .delete, args, ts⟩ => Lc args.toList ts.toList fun s x t _ => kX P dst t (rd s) (rd x) obj
 | .call ⟨.value (.func f), args, ts⟩ => Lc args.toList ts.toList fun s x _ _ => tB P dst f (rd s) (rd x) obj
 | .lookup t x i ok => jB P dst t (rd x) (rd i) ok obj
 | .mapUpdate t x i v => jJ P dst t (rd x) (rd i) (rd v) obj
 | .insert t x i v => jJ P dst t (rd x) (rd i) (rd v) obj
 | .makeMap t r => gU P dst t (r.map rd) obj
 | .mapEntry t x i => oN P dst t (rd x) (rd i) obj
 | .entryStore t x i v => lA P dst t (rd x) (rd i) (rd v) obj
 | .makeInterface t x => oI P dst t (rd x)
 | .typeAssert x _ a ok => lC P dst a (rd x) ok
 | .convert s d x => cX P dst s d (rd x) obj
 | _ => fun _ _ => False
def Hi (alt : Bool) (op : Op) : Fl := match op with
 | .slice _ _ _ _ _ => ⟨false, false, false, false⟩
 | .makeSlice _ _ _ => if alt = true then ⟨false, false, false, false⟩ else ⟨false, false, true, true⟩
 | .call ⟨.builtin .cap, _, _⟩ => ⟨false, false, false, false⟩
 | .call ⟨.builtin .len, _, _⟩ => if alt = true then ⟨false, false, true, false⟩ else ⟨false, false, false, false⟩
 | .lookup _ _ _ _ => ⟨false, false, true, false⟩
 | .makeInterface _ _ => ⟨false, false, false, false⟩
 | .typeAssert _ _ _ _ => ⟨false, false, false, false⟩
 | .call ⟨.builtin .append, _, _⟩ => ⟨false, false, true, false⟩
 | .convert _ _ _ => ⟨false, false, true, false⟩
 | _ => ⟨false, false, true, true⟩
theorem wX {alt : Bool} {dst : Option Tmp} {op : Op} {rd rd' : Operand → Slot} {obj : List (List D)} (h : ∀ x ∈ op.operands.toList, rd' x = rd x) : yR P alt dst op rd' obj = yR P alt dst op rd obj := by
 unfold yR;split
 ·rename_i t x lo hi;have e1 : lo.map rd' = lo.map rd := by
   cases lo with
   | none => rfl
   | some y => simp only [Option.map_some]; rw [h y (by simp [Op.operands])]
  have e2 : hi.map rd' = hi.map rd := by
   cases hi with
   | none => rfl
   | some y => simp only [Option.map_some]; rw [h y (by simp [Op.operands])]
  rw [e1, e2, h x (by simp [Op.operands])]
 ·rename_i t l c;rw [h l (by simp [Op.operands]), h c (by simp [Op.operands])]
 ·rename_i args ts; exact tG fun x t hx => by rw [h x (by simpa [Op.operands, Call.operands] using hx)]
 ·rename_i args ts; exact tG fun x t hx => by rw [h x (by simpa [Op.operands, Call.operands] using hx)]
 ·rename_i args ts; exact kP fun s x t u hs hx => by rw [h x (by simpa [Op.operands, Call.operands] using hx), h s (by simpa [Op.operands, Call.operands] using hs)]
 ·rename_i args ts; exact kP fun s x t u hs hx => by rw [h x (by simpa [Op.operands, Call.operands] using hx), h s (by simpa [Op.operands, Call.operands] using hs)]
 ·rename_i args ts; exact kP fun s x t u hs hx => by rw [h x (by simpa [Op.operands, Call.operands] using hx), h s (by simpa [Op.operands, Call.operands] using hs)]
 ·rename_i f args ts; exact kP fun s x t u hs hx => by rw [h x (by simp [Op.operands, Call.operands, hx]), h s (by simp [Op.operands, Call.operands, hs])]
 ·rename_i t x i ok; rw [h x (by simp [Op.operands]), h i (by simp [Op.operands])]
 ·rename_i t x i v; rw [h x (by simp [Op.operands]), h i (by simp [Op.operands]), h v (by simp [Op.operands])]
 ·rename_i t x i v; rw [h x (by simp [Op.operands]), h i (by simp [Op.operands]), h v (by simp [Op.operands])]
 ·rename_i t r;have e1 : r.map rd' = r.map rd := by
   cases r with
   | none => rfl
   | some y => simp only [Option.map_some]; rw [h y (by simp [Op.operands])]
  rw [e1]
 ·rename_i t x i; rw [h x (by simp [Op.operands]), h i (by simp [Op.operands])]
 ·rename_i t x i v; rw [h x (by simp [Op.operands]), h i (by simp [Op.operands]), h v (by simp [Op.operands])]
 ·rename_i t x; rw [h x (by simp [Op.operands])]
 ·rename_i x xt a ok; rw [h x (by simp [Op.operands])]
 ·rename_i s d x; rw [h x (by simp [Op.operands])]
 ·rfl
theorem yB {op : Op} {x : Operand} {dst : Option Tmp} (hx : x ∈ op.operands.toList) {t : Nat} (h : t ∈ dst.toList ++ (aT x).toList) : t ∈ dst.toList ++ dH op := by
 rcases List.mem_append.1 h with h | h
 ·exact List.mem_append_left _ h
 ·refine List.mem_append_right _ (List.mem_filterMap.2 ⟨x, hx, ?_⟩);cases hs : aT x with
  | none => rw [hs] at h; simp at h
  | some u => rw [hs] at h; simp at h; rw [h]
theorem Bx {alt : Bool} {dst : Option Tmp} {op : Op} {rd : Operand → Slot} {obj : List (List D)} {sets : List (Nat × Slot)} {ob : Option (List (List D))} (h : yR P alt dst op rd obj sets ob) : (∀ p ∈ sets, p.1 ∈ dst.toList ++ dH op) ∧ (ob.isSome = true → (Hi alt op).wO = true) := by
 unfold yR at h;split at h
 ·obtain ⟨h1, rfl⟩ := yK h; exact ⟨fun p hp => yB (by simp [Op.operands]) (h1 p hp), by simp⟩
 ·obtain ⟨h1, h2⟩ := zC h; exact ⟨fun p hp => List.mem_append_left _ (h1 p hp), fun h3 => by rw [h2 h3]; rfl⟩
 ·obtain ⟨x, t, rfl, rfl, h⟩ := nJ h; obtain ⟨h1, rfl⟩ := Dg h; exact ⟨fun p hp => List.mem_append_left _ (h1 p hp), by simp⟩
 ·obtain ⟨x, t, rfl, rfl, h⟩ := nJ h;split at h
  ·obtain ⟨h1, rfl⟩ := Ai h; exact ⟨fun p hp => List.mem_append_left _ (h1 p hp), by simp⟩
  ·obtain ⟨h1, rfl⟩ := Ew h; exact ⟨fun p hp => List.mem_append_left _ (h1 p hp), by simp⟩
 ·obtain ⟨s, x, t, u, rfl, rfl, h⟩ := gC h; obtain ⟨h1, rfl⟩ := vQ h; exact ⟨fun p hp => yB (by simp [Op.operands, Call.operands]) (h1 p hp), by simp⟩
 ·obtain ⟨s, x, t, u, rfl, rfl, h⟩ := gC h; have h1 := zH h; exact ⟨fun p hp => List.mem_append_left _ (h1 p hp), fun _ => rfl⟩
 ·obtain ⟨s, x, t, u, rfl, rfl, h⟩ := gC h; have h1 := uQ h; exact ⟨fun p hp => List.mem_append_left _ (h1 p hp), fun _ => rfl⟩
 ·obtain ⟨s, x, t, u, rfl, rfl, h⟩ := gC h; obtain ⟨h1, rfl⟩ := zZ h; exact ⟨fun p hp => List.mem_append_left _ (h1 p hp), by simp⟩
 ·obtain ⟨h1, rfl⟩ := uO h; exact ⟨fun p hp => List.mem_append_left _ (h1 p hp), by simp⟩
 ·have h1 := mZ h; exact ⟨fun p hp => List.mem_append_left _ (h1 p hp), fun _ => rfl⟩
 ·have h1 := mZ h; exact ⟨fun p hp => List.mem_append_left _ (h1 p hp), fun _ => rfl⟩
 ·have h1 := sT h; exact ⟨fun p hp => List.mem_append_left _ (h1 p hp), fun _ => rfl⟩
 ·have h1 := xW h; exact ⟨fun p hp => List.mem_append_left _ (h1 p hp), fun _ => rfl⟩
 ·have h1 := vS h; exact ⟨fun p hp => List.mem_append_left _ (h1 p hp), fun _ => rfl⟩
 ·obtain ⟨h1, rfl⟩ := xP h; exact ⟨fun p hp => List.mem_append_left _ (h1 p hp), by simp⟩
 ·obtain ⟨h1, rfl⟩ := uX h; exact ⟨fun p hp => List.mem_append_left _ (h1 p hp), by simp⟩
 ·obtain ⟨h1, rfl⟩ := Av h; exact ⟨fun p hp => List.mem_append_left _ (h1 p hp), by simp⟩
 ·exact h.elim
def Sy (P : Program) (alt : Bool) (dst : Option Tmp) (op : Op) (st : St) (K : St → Prop) : Prop :=
 ∃ sets ob, yR P alt dst op st.rdS (if (Hi alt op).rO = true then st.obj else []) sets ob ∧ K (st.upd ⟨sets, none, ob⟩)
theorem Oz {o : Oper} {st : St} {alt : Bool} (hd : bA o st) {sets : List (Nat × Slot)} {ob : Option (List (List D))} (h : yR P alt o.dst o.op st.rdS (if (Hi alt o.op).rO = true then st.obj else []) sets ob) : Does P o st (· = st.upd ⟨sets, none, ob⟩) := by
 generalize hop : o.op = op at h;unfold yR at h;split at h
 ·rename_i t x lo hi; exact yW t x lo hi hd hop h
 ·rename_i t l c;refine An (alt := alt) t l c hd hop (fun ha => ?_) h;subst ha; rfl
 ·obtain ⟨x, t, rfl, rfl, h⟩ := nJ h; exact Fa t x hd hop h
 ·obtain ⟨x, t, rfl, rfl, h⟩ := nJ h;split at h
  ·rename_i ha; subst ha; exact Ah t x hd hop h
  ·exact Dx t x hd hop h
 ·obtain ⟨s, x, t, u, rfl, rfl, h⟩ := gC h; exact vI t u s x hd hop h
 ·obtain ⟨s, x, t, u, rfl, rfl, h⟩ := gC h; exact Aa t u s x hd hop h
 ·obtain ⟨s, x, t, u, rfl, rfl, h⟩ := gC h; exact uY t u s x hd hop h
 ·obtain ⟨s, x, t, u, rfl, rfl, h⟩ := gC h; exact Bj _ t u s x hd hop h
 ·rename_i t x i ok; exact uZ t x i ok hd hop h
 ·rename_i t x i v; exact nL t x i v hd (.inl hop) h
 ·rename_i t x i v; exact nL t x i v hd (.inr hop) h
 ·rename_i t r; exact sN t r hd hop h
 ·rename_i t x i; exact xV t x i hd hop h
 ·rename_i t x i v; exact vM t x i v hd hop h
 ·rename_i t x; exact xO t x hd hop h
 ·rename_i x xt a ok; exact vU x xt a ok hd hop h
 ·rename_i s d x; exact Ad s d x hd hop h
 ·exact h.elim
theorem Hw {o : Oper} {st : St} {alt : Bool} {K : St → Prop} (hd : bA o st) (h : Sy P alt o.dst o.op st K) : Does P o st K := by
 obtain ⟨sets, ob, h1, hK⟩ := h;exact (Oz hd h1).mono (by rintro _ rfl; exact hK)
end
end Go.Vm

