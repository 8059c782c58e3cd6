import Derived.Lib.Overlaps
import Derived.Laws.Externs
import Derived.Test.YtpfmpeaekgdgnaaGreatVmX9
import Derived.Test.YtpfmpeaekgdgnaaGreatVmX12
namespace Go.Vm
open Go
set_option linter.all false
section
variable {P : Program}
def aDn : TypeDesc → Bool
 | .interface _ => true
 | _ => false
def ifI (P : Program) (t : TypeId) : Option Bool := (P.underlying t).map aDn
def tU (P : Program) (dst : Option Tmp) (t : TypeId) (sx : Slot) : iH := fun sets ob =>
 match dst, sx, ifI P t with
 | some d, .d d0, some false => d0.solid = true ∧ sets = [(d, .d (.ifc t d0.s2))] ∧ ob = none
 | _, _, _ => False
def oW (P : Program) (dst : Option Tmp) (a : TypeId) (sx : Slot) (ok : Bool) : iH := fun sets ob =>
 match dst, sx, ifI P a with
 | some d, .d (.ifc t d0), some false => (t = a ∧ d0.solid = true) ∧ sets = [(d, .d (if ok = true then .tup [d0.s2, .bool true] else d0.s2))] ∧ ob = none
 | _, _, _ => False
theorem Eh {t : TypeId} (h : ifI P t = some false) : ∃ td, P.underlying t = some td ∧ ∀ m, td ≠ .interface m := by
 unfold ifI at h;rw [Option.map_eq_some_iff] at h;obtain ⟨td, h1, h2⟩ := h;exact ⟨td, h1, by rintro m rfl; cases h2⟩
theorem Fa {o : Oper} {st : St} (t : TypeId) (x : Operand) (hd : cC o st) (ho : o.op = .makeInterface t x) {sets : List (Nat × Slot)} {ob : Option (List (List D))}
  (h : tU P o.dst t (st.rdS x) sets ob) : Does P o st (· = st.upd ⟨sets, none, ob⟩) := by
 unfold tU at h;split at h
 ·rename_i d d0 hdst hx hi;obtain ⟨hs, rfl, rfl⟩ := h;obtain ⟨td, u1, u2⟩ := Eh hi;refine bQ hd (.d (.ifc t d0.s2)) (fun w g tmps hok => ?_) (by rw [hdst]; rfl);have hr := hok.rd x;rw [bY hx] at hr;refine ⟨.iface t (ev tmps x), ?_, bF (.ifc _ _ _ hr.s2) rfl⟩;cases td with
  | interface m => exact absurd rfl (u2 m)
  | _ => simp [execOp, ho, Instr.makeInterface, run_underlying u1]
 ·exact h.elim
theorem Al {o : Oper} {st : St} (x : Operand) (xt a : TypeId) (ok : Bool) (hd : cC o st) (ho : o.op = .typeAssert x xt a ok) {sets : List (Nat × Slot)} {ob : Option (List (List D))}
  (h : oW P o.dst a (st.rdS x) ok sets ob) : Does P o st (· = st.upd ⟨sets, none, ob⟩) := by
 unfold oW at h;split at h
 ·rename_i d t d0 hdst hx hi;obtain ⟨⟨rfl, hs⟩, rfl, rfl⟩ := h;obtain ⟨td, u1, u2⟩ := Eh hi;obtain ⟨hs1, hs2⟩ := eX hs;refine bQ hd (.d (if ok = true then .tup [d0.s2, .bool true] else d0.s2)) (fun w g tmps hok => ?_) (by rw [hdst]; rfl);have hr := hok.rd x;rw [bY hx] at hr;generalize hv : ev tmps x = v at hr;cases hr with
  | ifc _ _ y hy =>
   refine ⟨if ok = true then .tuple #[y, .bool true] else y, ?_, fun u => ?_⟩
   ·cases td with
    | interface m => exact absurd rfl (u2 m)
    | _ => cases ok <;> simp [execOp, ho, Instr.typeAssert, run_underlying u1, hv]
   ·cases ok with
    | false => exact ⟨hy.s2, mM hy hs2⟩
    | true =>
     have hall : ∀ (i : Nat) (d : D) (x : Value), [d0.s2, D.bool true][i]? = some d → (#[y, Value.bool true] : Array Value)[i]? = some x → R g.M g.bs d x ∧ ∀ X h p, Own w g.M g.bs X h p d x := by
      intro i d x a1 a2
      match i with
      | 0 => simp at a1 a2; subst a1; subst a2; exact ⟨hy.s2, fun X h p => mM hy hs2⟩
      | 1 => simp at a1 a2; subst a1; subst a2; exact ⟨.v _ rfl, fun X h p => .flat _ _ _ rfl⟩
      | i + 2 => simp at a1
     exact ⟨.tup _ _ (by simp) fun i d x a1 a2 => (hall i d x a1 a2).1, .tup _ _ _ fun i d x a1 a2 => (hall i d x a1 a2).2 _ _ _⟩
 ·exact h.elim
theorem Cs {dst : Option Tmp} {t : TypeId} {sx : Slot} {sets : List (Nat × Slot)} {ob : Option (List (List D))} (h : tU P dst t sx sets ob) : (∀ p ∈ sets, p.1 ∈ dst.toList) ∧ ob = none := by
 unfold tU at h;split at h
 ·obtain ⟨_, rfl, rfl⟩ := h; exact ⟨by simp, rfl⟩
 ·exact h.elim
theorem Ar {dst : Option Tmp} {t : TypeId} {sx : Slot} {ok : Bool} {sets : List (Nat × Slot)} {ob : Option (List (List D))} (h : oW P dst t sx ok sets ob) : (∀ p ∈ sets, p.1 ∈ dst.toList) ∧ ob = none := by
 unfold oW at h;split at h
 ·obtain ⟨_, rfl, rfl⟩ := h; exact ⟨by simp, rfl⟩
 ·exact h.elim
theorem Bi {dst : Option Tmp} {t : TypeId} {sx sk : Slot} {ok : Bool} {obj : List (List D)} {sets : List (Nat × Slot)} {ob : Option (List (List D))} (h : mV P dst t sx sk ok obj sets ob) : (∀ p ∈ sets, p.1 ∈ dst.toList) ∧ ob = none := by
 unfold mV at h;split at h
 ·obtain ⟨_, _, _, _, _, _, _, rfl, rfl⟩ := h; exact ⟨by simp, rfl⟩
 ·exact h.elim
theorem rQ {dst : Option Tmp} {t : TypeId} {sx sk sv : Slot} {obj : List (List D)} {sets : List (Nat × Slot)} {ob : Option (List (List D))} (h : mE P dst t sx sk sv obj sets ob) : ∀ p ∈ sets, p.1 ∈ dst.toList := by
 unfold mE at h;split at h
 ·obtain ⟨_, _, _, _, _, _, _, rfl, rfl⟩ := h; simp
 ·exact h.elim
theorem Ap {dst : Option Tmp} {t : TypeId} {sx sk sv : Slot} {obj : List (List D)} {sets : List (Nat × Slot)} {ob : Option (List (List D))} (h : oO P dst t sx sk sv obj sets ob) : ∀ p ∈ sets, p.1 ∈ dst.toList := by
 unfold oO at h;split at h
 ·obtain ⟨_, _, _, _, _, _, rfl, rfl⟩ := h; simp
 ·exact h.elim
theorem Cg {dst : Option Tmp} {t : TypeId} {sx sk : Slot} {obj : List (List D)} {sets : List (Nat × Slot)} {ob : Option (List (List D))} (h : oP P dst t sx sk obj sets ob) : ∀ p ∈ sets, p.1 ∈ dst.toList := by
 unfold oP at h;split at h
 ·obtain ⟨_, _, _, _, _, _, rfl, rfl⟩ := h; simp
 ·exact h.elim
theorem Fi {dst : Option Tmp} {t : TypeId} {sx sk : Slot} {obj : List (List D)} {sets : List (Nat × Slot)} {ob : Option (List (List D))} (h : sW P dst t sx sk obj sets ob) : ∀ p ∈ sets, p.1 ∈ dst.toList := by
 unfold sW at h;split at h
 ·obtain ⟨_, _, _, _, _, _, _, _, _, rfl, rfl⟩ := h; simp
 ·exact h.elim
theorem yJ {dst : Option Tmp} {t : TypeId} {r : Option Slot} {obj : List (List D)} {sets : List (Nat × Slot)} {ob : Option (List (List D))} (h : kR P dst t r obj sets ob) : ∀ p ∈ sets, p.1 ∈ dst.toList := by
 unfold kR at h;split at h
 ·obtain ⟨_, rfl, rfl⟩ := h; simp
 ·exact h.elim
theorem Jf {dst : Option Tmp} {t : TypeId} {sx : Slot} {obj : List (List D)} {sets : List (Nat × Slot)} {ob : Option (List (List D))} (h : xK P dst t sx obj sets ob) : (∀ p ∈ sets, p.1 ∈ dst.toList) ∧ ob = none := by
 unfold xK at h;split at h
 ·obtain ⟨_, _, _, _, _, rfl, rfl⟩ := h; exact ⟨by simp, rfl⟩
 ·exact h.elim
def Ay (P : Program) (f : FuncId) : Prop := ∃ fn tS tR e ti, P.funcs[f]? = some fn ∧ (fn.name == "runtime.NumGoroutine") = false ∧ fn.body.isNone = true ∧ Extern.findNext fn = none ∧ Extern.find fn = some (Extern.SlicesOverlaps.overlaps #[tS, tS] #[tR]) ∧ P.underlying tS = some (.slice e) ∧ P.info? e = some ti
def zO (P : Program) (dst : Option Tmp) (f : FuncId) (sx sy : Slot) (obj : List (List D)) : iH := fun sets ob =>
 match sx, sy with
 | .d (.sl true (_ :: _)), .d (.slo m _ _ cap) => (Ay P f ∧ 0 < cap ∧ ∃ cs, obj[m]? = some cs ∧ cs ≠ []) ∧ sets = dst.toList.map (fun d => (d, .d (.bool false))) ∧ ob = none
 | _, _ => False
theorem Ib {o : Oper} {st : St} (f : FuncId) (t t2 : TypeId) (y x : Operand) (hd : cC o st) (ho : o.op = .call { callee := .value (.func f), args := #[y, x], argTypes := #[t, t2] }) {sets : List (Nat × Slot)} {ob : Option (List (List D))}
  (h : zO P o.dst f (st.rdS y) (st.rdS x) st.obj sets ob) : Does P o st (· = st.upd ⟨sets, none, ob⟩) := by
 unfold zO at h;split at h
 ·rename_i e0 es m a len cap hy hx;obtain ⟨⟨⟨fn, tS, tR, e, ti, f1, f2, f3, f4, f5, f7, f8⟩, hcap, cs, hcs, hne⟩, rfl, rfl⟩ := h;have hst : st.upd ⟨o.dst.toList.map (fun d => (d, .d (.bool false))), none, none⟩ = st.put o.dst (.d (.bool false)) := by
   cases o.dst <;> rfl
  rw [hst];refine bQ hd (.d (.bool false)) (fun w g tmps hok => ?_) rfl;cases y with
  | const u => simp only [St.rdS, Slot.d.injEq] at hy; cases u <;> simp [D.ofV, D.ofV1] at hy <;> (repeat' split at hy) <;> cases hy
  | func u => simp [St.rdS] at hy
  | global u => simp [St.rdS, Slot.any] at hy
  | tmp s =>
  have hy : st.env s = .d (.sl true (e0 :: es)) := hy;have hsl := hok.slot s;rw [hy] at hsl;obtain ⟨hr, ho2⟩ := hsl;have hr' := hok.rd x;rw [bY hx] at hr';have hvy : ev tmps (.tmp s) = bU tmps s := rfl;generalize bU tmps s = vy at hr ho2 hvy;generalize hvx : ev tmps x = vx at hr';refine ⟨.bool false, ?_, bF (.v _ rfl) rfl⟩;have run : ∀ v1 v2 : Value, (Extern.SlicesOverlaps.overlaps #[tS, tS] #[tR] #[v1, v2]).run P w = .ok (.bool false) w → ev tmps (.tmp s) = v1 → ev tmps x = v2 → (execOp (ev tmps) o).run P w = .ok (.value (.bool false)) w := by
   intro v1 v2 hrun e1 e2;have hfe : ∀ (t : Array Value), (⟨t, []⟩ : Act).eval (.func f) = .func (.func f) #[] #[] := fun _ => rfl;have hc := run_callFunc_extern (P := P) f1 f2 f3 f4 f5 #[v1, v2] w;rw [hrun] at hc;simp [execOp, ho, resolve, hfe, Deferred.ofValue, invoke, e1, e2, hc, Result.andThen]
  cases hr' with
  | slo _ _ _ _ xa hb hc hm =>
   obtain ⟨b, hb2, rfl⟩ := hb hcap;obtain ⟨cur, E, o1, o2, o3, o4, o5⟩ := (hok.obj m b cs hb2 hcs).resolve_left hne;cases ho2 with
   | flat p d v hf => simp [D.flat] at hf
   | sl p es' v hO =>
   cases hr with
   | sl _ _ b' off n cap' k vs hl hn hk hc' hm' hr hs hx' =>
    have hv : 0 < vs.length := by rw [hl]; simp
    rcases hO with ⟨a0, n0, e1⟩ | ⟨b0, n0, c0, k0, cur0, E0, e1, _, _, hh, hk0, hcs0, hn0, hle, _⟩
    ·simp only [Value.slice.injEq] at e1;obtain ⟨_, _, rfl⟩ := e1;subst hn;simp at hc'
    ·simp only [Value.slice.injEq, Option.some.injEq, Addr.mk.injEq] at e1;obtain ⟨⟨rfl, rfl, _⟩, rfl, rfl⟩ := e1;refine run _ _ (Lib.run_overlaps_apart (P := P) w tS tR e f7 ti.size (bK f8) _ _ _ _ _ _ ?_ E0 E cur0.size cur.size ?_ ?_ ?_ ?_ ?_) hvy hvx
     ·show b' ≠ b
      rintro rfl;obtain ⟨x1, x2⟩ := hx' 0 vs[0] (List.getElem?_eq_getElem hv);have hz : 0 < vs[0].cells.size := by rw [x1]; exact hk
      have := (x2 0 _ (Array.getElem?_eq_getElem hz)).2;rw [o4] at this;cases this
     ·simp [World.shape?, hh]
     ·simp [World.shape?, o1]
     ·rw [o2];intro e;exact hne (List.eq_nil_of_length_eq_zero e)
     ·simp [World.frozen?, hh]
     ·simp [World.frozen?, hh]
 ·exact h.elim
theorem Je {dst : Option Tmp} {f : FuncId} {sx sy : Slot} {obj : List (List D)} {sets : List (Nat × Slot)} {ob : Option (List (List D))} (h : zO P dst f sx sy obj sets ob) : (∀ p ∈ sets, p.1 ∈ dst.toList) ∧ ob = none := by
 unfold zO at h;split at h
 ·obtain ⟨_, rfl, rfl⟩ := h;refine ⟨fun p hp => ?_, rfl⟩;obtain ⟨d, hd, rfl⟩ := List.mem_map.1 hp;exact hd
 ·exact h.elim
def Wm (args : List Operand) (ts : List TypeId) (f : Operand → TypeId → iH) : iH := match args, ts with
 | [x], [t] => f x t
 | _, _ => fun _ _ => False
def Wn (args : List Operand) (ts : List TypeId) (f : Operand → Operand → TypeId → TypeId → iH) : iH := match args, ts with
 | [s, x], [t, t2] => f s x t t2
 | _, _ => fun _ _ => False
theorem qY {args : Array Operand} {ts : Array TypeId} {f : Operand → TypeId → iH} {sets : List (Nat × Slot)} {ob : Option (List (List D))} (h : Wm args.toList ts.toList f sets ob) : ∃ x t, args = #[x] ∧ ts = #[t] ∧ f x t sets ob := by
 unfold Wm at h;rcases args with ⟨_ | ⟨a, _ | ⟨b, l⟩⟩⟩ <;> rcases ts with ⟨_ | ⟨t, _ | ⟨u, m⟩⟩⟩ <;> first | exact absurd h not_false | exact ⟨a, t, rfl, rfl, h⟩
theorem jO {args : Array Operand} {ts : Array TypeId} {f : Operand → Operand → TypeId → TypeId → iH} {sets : List (Nat × Slot)} {ob : Option (List (List D))} (h : Wn args.toList ts.toList f sets ob) : ∃ s x t u, args = #[s, x] ∧ ts = #[t, u] ∧ f s x t u sets ob := by
 unfold Wn at h;rcases args with ⟨_ | ⟨a, _ | ⟨b, _ | ⟨c, l⟩⟩⟩⟩ <;> rcases ts with ⟨_ | ⟨t, _ | ⟨u, _ | ⟨v, m⟩⟩⟩⟩ <;> first | exact absurd h not_false | exact ⟨a, b, t, u, rfl, rfl, h⟩
theorem yX {args : List Operand} {ts : List TypeId} {f f' : Operand → TypeId → iH} (h : ∀ x t, x ∈ args → f' x t = f x t) : Wm args ts f' = Wm args ts f := by
 unfold Wm;split
 ·exact h _ _ (by simp)
 ·rfl
theorem pC {args : List Operand} {ts : List TypeId} {f f' : Operand → Operand → TypeId → TypeId → iH} (h : ∀ s x t u, s ∈ args → x ∈ args → f' s x t u = f s x t u) : Wn args ts f' = Wn args ts f := by
 unfold Wn;split
 ·exact h _ _ _ _ (by simp) (by simp)
 ·rfl
def yR (P : Program) (alt : Bool) (dst : Option Tmp) (op : Op) (rd : Operand → Slot) (obj : List (List D)) : iH := match op with
 | .slice t x lo hi none => sO P dst t x (rd x) (lo.map rd) (hi.map rd)
 | .makeSlice t l c => zI P alt dst t (rd l) (rd c) obj
 | .call ⟨.builtin .cap, args, ts⟩ => Wm args.toList ts.toList fun x t => Oq P dst t (rd x)
 | .call ⟨.builtin .len, args, ts⟩ => Wm args.toList ts.toList fun x t => if alt = true then xK P dst t (rd x) obj else Ns P dst t (rd x)
 | .call ⟨.builtin .append, args, ts⟩ => Wn args.toList ts.toList fun s x t t2 => oK P dst t t2 s (rd s) (rd x) obj
 | .call ⟨.builtin .copy, args, ts⟩ => Wn args.toList ts.toList fun s x t t2 => Ad P alt dst t t2 (rd s) (rd x) obj
 | .call ⟨.builtin .delete, args, ts⟩ => Wn args.toList ts.toList fun s x t _ => oP P dst t (rd s) (rd x) obj
 | .call ⟨.value (.func f), args, ts⟩ => Wn args.toList ts.toList fun s x _ _ => zO P dst f (rd s) (rd x) obj
 | .lookup t x i ok => mV P dst t (rd x) (rd i) ok obj
 | .mapUpdate t x i v => mE P dst t (rd x) (rd i) (rd v) obj
 | .insert t x i v => mE P dst t (rd x) (rd i) (rd v) obj
 | .makeMap t r => kR P dst t (r.map rd) obj
 | .mapEntry t x i => sW P dst t (rd x) (rd i) obj
 | .entryStore t x i v => oO P dst t (rd x) (rd i) (rd v) obj
 | .makeInterface t x => tU P dst t (rd x)
 | .typeAssert x _ a ok => oW P dst a (rd x) ok
 | _ => fun _ _ => False
def Qh (alt : Bool) (op : Op) : Fl := match op with
 | .slice _ _ _ _ _ => ⟨false, false, false, false⟩
 | .makeSlice _ _ _ => if alt = true then ⟨false, false, false, false⟩ else ⟨false, false, true, true⟩
 | .call ⟨.builtin .cap, _, _⟩ => ⟨false, false, false, false⟩
 | .call ⟨.builtin .len, _, _⟩ => if alt = true then ⟨false, false, true, false⟩ else ⟨false, false, false, false⟩
 | .lookup _ _ _ _ => ⟨false, false, true, false⟩
 | .makeInterface _ _ => ⟨false, false, false, false⟩
 | .typeAssert _ _ _ _ => ⟨false, false, false, false⟩
 | .call ⟨.builtin .append, _, _⟩ => ⟨false, false, true, false⟩
 | _ => ⟨false, false, true, true⟩
theorem Ey {alt : Bool} {dst : Option Tmp} {op : Op} {rd rd' : Operand → Slot} {obj : List (List D)} (h : ∀ x ∈ op.operands.toList, rd' x = rd x) : yR P alt dst op rd' obj = yR P alt dst op rd obj := by
 unfold yR;split
 ·rename_i t x lo hi;have e1 : lo.map rd' = lo.map rd := by
   cases lo with
   | none => rfl
   | some y => simp only [Option.map_some]; rw [h y (by simp [Op.operands])]
  have e2 : hi.map rd' = hi.map rd := by
   cases hi with
   | none => rfl
   | some y => simp only [Option.map_some]; rw [h y (by simp [Op.operands])]
  rw [e1, e2, h x (by simp [Op.operands])]
 ·rename_i t l c;rw [h l (by simp [Op.operands]), h c (by simp [Op.operands])]
 ·rename_i args ts; exact yX fun x t hx => by rw [h x (by simpa [Op.operands, Call.operands] using hx)]
 ·rename_i args ts; exact yX fun x t hx => by rw [h x (by simpa [Op.operands, Call.operands] using hx)]
 ·rename_i args ts; exact pC fun s x t u hs hx => by rw [h x (by simpa [Op.operands, Call.operands] using hx), h s (by simpa [Op.operands, Call.operands] using hs)]
 ·rename_i args ts; exact pC fun s x t u hs hx => by rw [h x (by simpa [Op.operands, Call.operands] using hx), h s (by simpa [Op.operands, Call.operands] using hs)]
 ·rename_i args ts; exact pC fun s x t u hs hx => by rw [h x (by simpa [Op.operands, Call.operands] using hx), h s (by simpa [Op.operands, Call.operands] using hs)]
 ·rename_i f args ts; exact pC fun s x t u hs hx => by rw [h x (by simp [Op.operands, Call.operands, hx]), h s (by simp [Op.operands, Call.operands, hs])]
 ·rename_i t x i ok; rw [h x (by simp [Op.operands]), h i (by simp [Op.operands])]
 ·rename_i t x i v; rw [h x (by simp [Op.operands]), h i (by simp [Op.operands]), h v (by simp [Op.operands])]
 ·rename_i t x i v; rw [h x (by simp [Op.operands]), h i (by simp [Op.operands]), h v (by simp [Op.operands])]
 ·rename_i t r;have e1 : r.map rd' = r.map rd := by
   cases r with
   | none => rfl
   | some y => simp only [Option.map_some]; rw [h y (by simp [Op.operands])]
  rw [e1]
 ·rename_i t x i; rw [h x (by simp [Op.operands]), h i (by simp [Op.operands])]
 ·rename_i t x i v; rw [h x (by simp [Op.operands]), h i (by simp [Op.operands]), h v (by simp [Op.operands])]
 ·rename_i t x; rw [h x (by simp [Op.operands])]
 ·rename_i x xt a ok; rw [h x (by simp [Op.operands])]
 ·rfl
theorem Cv {op : Op} {x : Operand} {dst : Option Tmp} (hx : x ∈ op.operands.toList) {t : Nat} (h : t ∈ dst.toList ++ (bS x).toList) : t ∈ dst.toList ++ eZ op := by
 rcases List.mem_append.1 h with h | h
 ·exact List.mem_append_left _ h
 ·refine List.mem_append_right _ (List.mem_filterMap.2 ⟨x, hx, ?_⟩);cases hs : bS x with
  | none => rw [hs] at h; simp at h
  | some u => rw [hs] at h; simp at h; rw [h]
theorem Jp {alt : Bool} {dst : Option Tmp} {op : Op} {rd : Operand → Slot} {obj : List (List D)} {sets : List (Nat × Slot)} {ob : Option (List (List D))} (h : yR P alt dst op rd obj sets ob) : (∀ p ∈ sets, p.1 ∈ dst.toList ++ eZ op) ∧ (ob.isSome = true → (Qh alt op).wO = true) := by
 unfold yR at h;split at h
 ·obtain ⟨h1, rfl⟩ := Da h; exact ⟨fun p hp => Cv (by simp [Op.operands]) (h1 p hp), by simp⟩
 ·obtain ⟨h1, h2⟩ := Gy h; exact ⟨fun p hp => List.mem_append_left _ (h1 p hp), fun h3 => by rw [h2 h3]; rfl⟩
 ·obtain ⟨x, t, rfl, rfl, h⟩ := qY h; obtain ⟨h1, rfl⟩ := Mu h; exact ⟨fun p hp => List.mem_append_left _ (h1 p hp), by simp⟩
 ·obtain ⟨x, t, rfl, rfl, h⟩ := qY h;split at h
  ·obtain ⟨h1, rfl⟩ := Jf h; exact ⟨fun p hp => List.mem_append_left _ (h1 p hp), by simp⟩
  ·obtain ⟨h1, rfl⟩ := Nh h; exact ⟨fun p hp => List.mem_append_left _ (h1 p hp), by simp⟩
 ·obtain ⟨s, x, t, u, rfl, rfl, h⟩ := jO h; obtain ⟨h1, rfl⟩ := Bx h; exact ⟨fun p hp => Cv (by simp [Op.operands, Call.operands]) (h1 p hp), by simp⟩
 ·obtain ⟨s, x, t, u, rfl, rfl, h⟩ := jO h; have h1 := Hv h; exact ⟨fun p hp => List.mem_append_left _ (h1 p hp), fun _ => rfl⟩
 ·obtain ⟨s, x, t, u, rfl, rfl, h⟩ := jO h; have h1 := Cg h; exact ⟨fun p hp => List.mem_append_left _ (h1 p hp), fun _ => rfl⟩
 ·obtain ⟨s, x, t, u, rfl, rfl, h⟩ := jO h; obtain ⟨h1, rfl⟩ := Je h; exact ⟨fun p hp => List.mem_append_left _ (h1 p hp), by simp⟩
 ·obtain ⟨h1, rfl⟩ := Bi h; exact ⟨fun p hp => List.mem_append_left _ (h1 p hp), by simp⟩
 ·have h1 := rQ h; exact ⟨fun p hp => List.mem_append_left _ (h1 p hp), fun _ => rfl⟩
 ·have h1 := rQ h; exact ⟨fun p hp => List.mem_append_left _ (h1 p hp), fun _ => rfl⟩
 ·have h1 := yJ h; exact ⟨fun p hp => List.mem_append_left _ (h1 p hp), fun _ => rfl⟩
 ·have h1 := Fi h; exact ⟨fun p hp => List.mem_append_left _ (h1 p hp), fun _ => rfl⟩
 ·have h1 := Ap h; exact ⟨fun p hp => List.mem_append_left _ (h1 p hp), fun _ => rfl⟩
 ·obtain ⟨h1, rfl⟩ := Cs h; exact ⟨fun p hp => List.mem_append_left _ (h1 p hp), by simp⟩
 ·obtain ⟨h1, rfl⟩ := Ar h; exact ⟨fun p hp => List.mem_append_left _ (h1 p hp), by simp⟩
 ·exact h.elim
def vcY (P : Program) (alt : Bool) (dst : Option Tmp) (op : Op) (st : St) (K : St → Prop) : Prop :=
 ∃ sets ob, yR P alt dst op st.rdS (if (Qh alt op).rO = true then st.obj else []) sets ob ∧ K (st.upd ⟨sets, none, ob⟩)
theorem aB1 {o : Oper} {st : St} {alt : Bool} (hd : cC o st) {sets : List (Nat × Slot)} {ob : Option (List (List D))} (h : yR P alt o.dst o.op st.rdS (if (Qh alt o.op).rO = true then st.obj else []) sets ob) : Does P o st (· = st.upd ⟨sets, none, ob⟩) := by
 generalize hop : o.op = op at h;unfold yR at h;split at h
 ·rename_i t x lo hi; exact Fb t x lo hi hd hop h
 ·rename_i t l c;refine Gl (alt := alt) t l c hd hop (fun ha => ?_) h;subst ha; rfl
 ·obtain ⟨x, t, rfl, rfl, h⟩ := qY h; exact Mz t x hd hop h
 ·obtain ⟨x, t, rfl, rfl, h⟩ := qY h;split at h
  ·rename_i ha; subst ha; exact Gb t x hd hop h
  ·exact Mm t x hd hop h
 ·obtain ⟨s, x, t, u, rfl, rfl, h⟩ := jO h; exact Bd t u s x hd hop h
 ·obtain ⟨s, x, t, u, rfl, rfl, h⟩ := jO h; exact Gn t u s x hd hop h
 ·obtain ⟨s, x, t, u, rfl, rfl, h⟩ := jO h; exact Az t u s x hd hop h
 ·obtain ⟨s, x, t, u, rfl, rfl, h⟩ := jO h; exact Ib _ t u s x hd hop h
 ·rename_i t x i ok; exact Bn t x i ok hd hop h
 ·rename_i t x i v; exact rZ t x i v hd (.inl hop) h
 ·rename_i t x i v; exact rZ t x i v hd (.inr hop) h
 ·rename_i t r; exact yI t r hd hop h
 ·rename_i t x i; exact Ek t x i hd hop h
 ·rename_i t x i v; exact Bw t x i v hd hop h
 ·rename_i t x; exact Fa t x hd hop h
 ·rename_i x xt a ok; exact Al x xt a ok hd hop h
 ·exact h.elim
theorem Vi {o : Oper} {st : St} {alt : Bool} {K : St → Prop} (hd : cC o st) (h : vcY P alt o.dst o.op st K) : Does P o st K := by
 obtain ⟨sets, ob, h1, hK⟩ := h;exact (aB1 hd h1).mono (by rintro _ rfl; exact hK)
end
end Go.Vm

