import Derived.Lib.Overlaps
import Derived.Laws.Externs
import Derived.Test.YtpfmpeaekgdgnaaGreatVmX9
import Derived.Test.YtpfmpeaekgdgnaaGreatVmX12
namespace Go.Vm
open Go
set_option linter.all false
section
variable {P : Program}
def aD8 : TypeDesc → Bool
 | .interface _ => true
 | _ => false
def ifI (P : Program) (t : TypeId) : Option Bool := (P.underlying t).map aD8
def tP (P : Program) (dst : Option Tmp) (t : TypeId) (sx : Slot) : iK := fun sets ob =>
 match dst, sx, ifI P t with
 | some d, .d d0, some false => d0.solid = true ∧ sets = [(d, .d (.ifc t d0.s2))] ∧ ob = none
 | _, _, _ => False
def oS (P : Program) (dst : Option Tmp) (a : TypeId) (sx : Slot) (ok : Bool) : iK := fun sets ob =>
 match dst, sx, ifI P a with
 | some d, .d (.ifc t d0), some false => (t = a ∧ d0.solid = true) ∧ sets = [(d, .d (if ok = true then .tup [d0.s2, .bool true] else d0.s2))] ∧ ob = none
 | _, _, _ => False
theorem Ci {t : TypeId} (h : ifI P t = some false) : ∃ td, P.underlying t = some td ∧ ∀ m, td ≠ .interface m := by
 unfold ifI at h;rw [Option.map_eq_some_iff] at h;obtain ⟨td, h1, h2⟩ := h;exact ⟨td, h1, by rintro m rfl; cases h2⟩
theorem De {o : Oper} {st : St} (t : TypeId) (x : Operand) (hd : cL o st) (ho : o.op = .makeInterface t x) {sets : List (Nat × Slot)} {ob : Option (List (List D))}
  (h : tP P o.dst t (st.rdS x) sets ob) : Does P o st (· = st.upd ⟨sets, none, ob⟩) := by
 unfold tP at h;split at h
 ·rename_i d d0 hdst hx hi;obtain ⟨hs, rfl, rfl⟩ := h;obtain ⟨td, u1, u2⟩ := Ci hi;refine bP hd (.d (.ifc t d0.s2)) (fun w g tmps hok => ?_) (by rw [hdst]; rfl);have hr := hok.rd x;rw [bZ hx] at hr;refine ⟨.iface t (ev tmps x), ?_, bF (.ifc _ _ _ hr.s2) rfl⟩;cases td with
  | interface m => exact absurd rfl (u2 m)
  | _ => simp [execOp, ho, Instr.makeInterface, run_underlying u1]
 ·exact h.elim
theorem zS {o : Oper} {st : St} (x : Operand) (xt a : TypeId) (ok : Bool) (hd : cL o st) (ho : o.op = .typeAssert x xt a ok) {sets : List (Nat × Slot)} {ob : Option (List (List D))}
  (h : oS P o.dst a (st.rdS x) ok sets ob) : Does P o st (· = st.upd ⟨sets, none, ob⟩) := by
 unfold oS at h;split at h
 ·rename_i d t d0 hdst hx hi;obtain ⟨⟨rfl, hs⟩, rfl, rfl⟩ := h;obtain ⟨td, u1, u2⟩ := Ci hi;obtain ⟨hs1, hs2⟩ := eV hs;refine bP hd (.d (if ok = true then .tup [d0.s2, .bool true] else d0.s2)) (fun w g tmps hok => ?_) (by rw [hdst]; rfl);have hr := hok.rd x;rw [bZ hx] at hr;generalize hv : ev tmps x = v at hr;cases hr with
  | ifc _ _ y hy =>
   refine ⟨if ok = true then .tuple #[y, .bool true] else y, ?_, fun u => ?_⟩
   ·cases td with
    | interface m => exact absurd rfl (u2 m)
    | _ => cases ok <;> simp [execOp, ho, Instr.typeAssert, run_underlying u1, hv]
   ·cases ok with
    | false => exact ⟨hy.s2, mO hy hs2⟩
    | true =>
     have hall : ∀ (i : Nat) (d : D) (x : Value), [d0.s2, D.bool true][i]? = some d → (#[y, Value.bool true] : Array Value)[i]? = some x → R g.M g.bs d x ∧ ∀ X h p, Own w g.M g.bs X h p d x := by
      intro i d x a1 a2
      match i with
      | 0 => simp at a1 a2; subst a1; subst a2; exact ⟨hy.s2, fun X h p => mO hy hs2⟩
      | 1 => simp at a1 a2; subst a1; subst a2; exact ⟨.v _ rfl, fun X h p => .flat _ _ _ rfl⟩
      | i + 2 => simp at a1
     exact ⟨.tup _ _ (by simp) fun i d x a1 a2 => (hall i d x a1 a2).1, .tup _ _ _ fun i d x a1 a2 => (hall i d x a1 a2).2 _ _ _⟩
 ·exact h.elim
theorem Eu {dst : Option Tmp} {t : TypeId} {sx : Slot} {sets : List (Nat × Slot)} {ob : Option (List (List D))} (h : tP P dst t sx sets ob) : (∀ p ∈ sets, p.1 ∈ dst.toList) ∧ ob = none := by
 unfold tP at h;split at h
 ·obtain ⟨_, rfl, rfl⟩ := h; exact ⟨by simp, rfl⟩
 ·exact h.elim
theorem Az {dst : Option Tmp} {t : TypeId} {sx : Slot} {ok : Bool} {sets : List (Nat × Slot)} {ob : Option (List (List D))} (h : oS P dst t sx ok sets ob) : (∀ p ∈ sets, p.1 ∈ dst.toList) ∧ ob = none := by
 unfold oS at h;split at h
 ·obtain ⟨_, rfl, rfl⟩ := h; exact ⟨by simp, rfl⟩
 ·exact h.elim
theorem Bn {dst : Option Tmp} {t : TypeId} {sx sk : Slot} {ok : Bool} {obj : List (List D)} {sets : List (Nat × Slot)} {ob : Option (List (List D))} (h : mF P dst t sx sk ok obj sets ob) : (∀ p ∈ sets, p.1 ∈ dst.toList) ∧ ob = none := by
 unfold mF at h;split at h
 ·obtain ⟨_, _, _, _, _, _, _, rfl, rfl⟩ := h; exact ⟨by simp, rfl⟩
 ·exact h.elim
theorem rI {dst : Option Tmp} {t : TypeId} {sx sk sv : Slot} {obj : List (List D)} {sets : List (Nat × Slot)} {ob : Option (List (List D))} (h : mZ P dst t sx sk sv obj sets ob) : ∀ p ∈ sets, p.1 ∈ dst.toList := by
 unfold mZ at h;split at h
 ·obtain ⟨_, _, _, _, _, _, _, rfl, rfl⟩ := h; simp
 ·exact h.elim
theorem Al {dst : Option Tmp} {t : TypeId} {sx sk sv : Slot} {obj : List (List D)} {sets : List (Nat × Slot)} {ob : Option (List (List D))} (h : oW P dst t sx sk sv obj sets ob) : ∀ p ∈ sets, p.1 ∈ dst.toList := by
 unfold oW at h;split at h
 ·obtain ⟨_, _, _, _, _, _, rfl, rfl⟩ := h; simp
 ·exact h.elim
theorem Bg {dst : Option Tmp} {t : TypeId} {sx sk : Slot} {obj : List (List D)} {sets : List (Nat × Slot)} {ob : Option (List (List D))} (h : pG P dst t sx sk obj sets ob) : ∀ p ∈ sets, p.1 ∈ dst.toList := by
 unfold pG at h;split at h
 ·obtain ⟨_, _, _, _, _, _, rfl, rfl⟩ := h; simp
 ·exact h.elim
theorem Dx {dst : Option Tmp} {t : TypeId} {sx sk : Slot} {obj : List (List D)} {sets : List (Nat × Slot)} {ob : Option (List (List D))} (h : sZ P dst t sx sk obj sets ob) : ∀ p ∈ sets, p.1 ∈ dst.toList := by
 unfold sZ at h;split at h
 ·obtain ⟨_, _, _, _, _, _, _, _, _, rfl, rfl⟩ := h; simp
 ·exact h.elim
theorem xR {dst : Option Tmp} {t : TypeId} {r : Option Slot} {obj : List (List D)} {sets : List (Nat × Slot)} {ob : Option (List (List D))} (h : kS P dst t r obj sets ob) : ∀ p ∈ sets, p.1 ∈ dst.toList := by
 unfold kS at h;split at h
 ·obtain ⟨_, rfl, rfl⟩ := h; simp
 ·exact h.elim
theorem Ic {dst : Option Tmp} {t : TypeId} {sx : Slot} {obj : List (List D)} {sets : List (Nat × Slot)} {ob : Option (List (List D))} (h : xP P dst t sx obj sets ob) : (∀ p ∈ sets, p.1 ∈ dst.toList) ∧ ob = none := by
 unfold xP at h;split at h
 ·obtain ⟨_, _, _, _, _, rfl, rfl⟩ := h; exact ⟨by simp, rfl⟩
 ·exact h.elim
def Bj (P : Program) (f : FuncId) : Prop := ∃ fn tS tR e ti, P.funcs[f]? = some fn ∧ (fn.name == "runtime.NumGoroutine") = false ∧ fn.body.isNone = true ∧ Extern.findNext fn = none ∧ Extern.find fn = some (Extern.SlicesOverlaps.overlaps #[tS, tS] #[tR]) ∧ P.underlying tS = some (.slice e) ∧ P.info? e = some ti
def zB (P : Program) (dst : Option Tmp) (f : FuncId) (sx sy : Slot) (obj : List (List D)) : iK := fun sets ob =>
 match sx, sy with
 | .d (.sl true (_ :: _)), .d (.slo m _ _ cap) => (Bj P f ∧ 0 < cap ∧ ∃ cs, obj[m]? = some cs ∧ cs ≠ []) ∧ sets = dst.toList.map (fun d => (d, .d (.bool false))) ∧ ob = none
 | _, _ => False
theorem Hd {o : Oper} {st : St} (f : FuncId) (t t2 : TypeId) (y x : Operand) (hd : cL o st) (ho : o.op = .call { callee := .value (.func f), args := #[y, x], argTypes := #[t, t2] }) {sets : List (Nat × Slot)} {ob : Option (List (List D))}
  (h : zB P o.dst f (st.rdS y) (st.rdS x) st.obj sets ob) : Does P o st (· = st.upd ⟨sets, none, ob⟩) := by
 unfold zB at h;split at h
 ·rename_i e0 es m a len cap hy hx;obtain ⟨⟨⟨fn, tS, tR, e, ti, f1, f2, f3, f4, f5, f7, f8⟩, hcap, cs, hcs, hne⟩, rfl, rfl⟩ := h;have hst : st.upd ⟨o.dst.toList.map (fun d => (d, .d (.bool false))), none, none⟩ = st.put o.dst (.d (.bool false)) := by
   cases o.dst <;> rfl
  rw [hst];refine bP hd (.d (.bool false)) (fun w g tmps hok => ?_) rfl;cases y with
  | const u => simp only [St.rdS, Slot.d.injEq] at hy; cases u <;> simp [D.ofV, D.ofV1] at hy <;> (repeat' split at hy) <;> cases hy
  | func u => simp [St.rdS] at hy
  | global u => simp [St.rdS, Slot.any] at hy
  | tmp s =>
  have hy : st.env s = .d (.sl true (e0 :: es)) := hy;have hsl := hok.slot s;rw [hy] at hsl;obtain ⟨hr, ho2⟩ := hsl;have hr' := hok.rd x;rw [bZ hx] at hr';have hvy : ev tmps (.tmp s) = bU tmps s := rfl;generalize bU tmps s = vy at hr ho2 hvy;generalize hvx : ev tmps x = vx at hr';refine ⟨.bool false, ?_, bF (.v _ rfl) rfl⟩;have run : ∀ v1 v2 : Value, (Extern.SlicesOverlaps.overlaps #[tS, tS] #[tR] #[v1, v2]).run P w = .ok (.bool false) w → ev tmps (.tmp s) = v1 → ev tmps x = v2 → (execOp (ev tmps) o).run P w = .ok (.value (.bool false)) w := by
   intro v1 v2 hrun e1 e2;have hfe : ∀ (t : Array Value), (⟨t, []⟩ : Act).eval (.func f) = .func (.func f) #[] #[] := fun _ => rfl;have hc := run_callFunc_extern (P := P) f1 f2 f3 f4 f5 #[v1, v2] w;rw [hrun] at hc;simp [execOp, ho, resolve, hfe, Deferred.ofValue, invoke, e1, e2, hc, Result.andThen]
  cases hr' with
  | slo _ _ _ _ xa hb hc hm =>
   obtain ⟨b, hb2, rfl⟩ := hb hcap;obtain ⟨cur, E, o1, o2, o3, o4, o5⟩ := (hok.obj m b cs hb2 hcs).resolve_left hne;cases ho2 with
   | flat p d v hf => simp [D.flat] at hf
   | sl p es' v hO =>
   cases hr with
   | sl _ _ b' off n cap' k vs hl hn hk hc' hm' hr hs hx' =>
    have hv : 0 < vs.length := by rw [hl]; simp
    rcases hO with ⟨a0, n0, e1⟩ | ⟨b0, n0, c0, k0, cur0, E0, e1, _, _, hh, hk0, hcs0, hn0, hle, _⟩
    ·simp only [Value.slice.injEq] at e1;obtain ⟨_, _, rfl⟩ := e1;subst hn;simp at hc'
    ·simp only [Value.slice.injEq, Option.some.injEq, Addr.mk.injEq] at e1;obtain ⟨⟨rfl, rfl, _⟩, rfl, rfl⟩ := e1;refine run _ _ (Lib.run_overlaps_apart (P := P) w tS tR e f7 ti.size (bK f8) _ _ _ _ _ _ ?_ E0 E cur0.size cur.size ?_ ?_ ?_ ?_ ?_) hvy hvx
     ·show b' ≠ b
      rintro rfl;obtain ⟨x1, x2⟩ := hx' 0 vs[0] (List.getElem?_eq_getElem hv);have hz : 0 < vs[0].cells.size := by rw [x1]; exact hk
      have := (x2 0 _ (Array.getElem?_eq_getElem hz)).2;rw [o4] at this;cases this
     ·simp [World.shape?, hh]
     ·simp [World.shape?, o1]
     ·rw [o2];intro e;exact hne (List.eq_nil_of_length_eq_zero e)
     ·simp [World.frozen?, hh]
     ·simp [World.frozen?, hh]
 ·exact h.elim
theorem Fz {dst : Option Tmp} {f : FuncId} {sx sy : Slot} {obj : List (List D)} {sets : List (Nat × Slot)} {ob : Option (List (List D))} (h : zB P dst f sx sy obj sets ob) : (∀ p ∈ sets, p.1 ∈ dst.toList) ∧ ob = none := by
 unfold zB at h;split at h
 ·obtain ⟨_, rfl, rfl⟩ := h;refine ⟨fun p hp => ?_, rfl⟩;obtain ⟨d, hd, rfl⟩ := List.mem_map.1 hp;exact hd
 ·exact h.elim
def Wv (args : List Operand) (ts : List TypeId) (f : Operand → TypeId → iK) : iK := match args, ts with
 | [x], [t] => f x t
 | _, _ => fun _ _ => False
def Ww (args : List Operand) (ts : List TypeId) (f : Operand → Operand → TypeId → TypeId → iK) : iK := match args, ts with
 | [s, x], [t, t2] => f s x t t2
 | _, _ => fun _ _ => False
theorem qX {args : Array Operand} {ts : Array TypeId} {f : Operand → TypeId → iK} {sets : List (Nat × Slot)} {ob : Option (List (List D))} (h : Wv args.toList ts.toList f sets ob) : ∃ x t, args = #[x] ∧ ts = #[t] ∧ f x t sets ob := by
 unfold Wv at h;rcases args with ⟨_ | ⟨a, _ | ⟨b, l⟩⟩⟩ <;> rcases ts with ⟨_ | ⟨t, _ | ⟨u, m⟩⟩⟩ <;> first | exact absurd h not_false | exact ⟨a, t, rfl, rfl, h⟩
theorem jX {args : Array Operand} {ts : Array TypeId} {f : Operand → Operand → TypeId → TypeId → iK} {sets : List (Nat × Slot)} {ob : Option (List (List D))} (h : Ww args.toList ts.toList f sets ob) : ∃ s x t u, args = #[s, x] ∧ ts = #[t, u] ∧ f s x t u sets ob := by
 unfold Ww at h;rcases args with ⟨_ | ⟨a, _ | ⟨b, _ | ⟨c, l⟩⟩⟩⟩ <;> rcases ts with ⟨_ | ⟨t, _ | ⟨u, _ | ⟨v, m⟩⟩⟩⟩ <;> first | exact absurd h not_false | exact ⟨a, b, t, u, rfl, rfl, h⟩
theorem yU {args : List Operand} {ts : List TypeId} {f f' : Operand → TypeId → iK} (h : ∀ x t, x ∈ args → f' x t = f x t) : Wv args ts f' = Wv args ts f := by
 unfold Wv;split
 ·exact h _ _ (by simp)
 ·rfl
theorem pF {args : List Operand} {ts : List TypeId} {f f' : Operand → Operand → TypeId → TypeId → iK} (h : ∀ s x t u, s ∈ args → x ∈ args → f' s x t u = f s x t u) : Ww args ts f' = Ww args ts f := by
 unfold Ww;split
 ·exact h _ _ _ _ (by simp) (by simp)
 ·rfl
def yR (P : Program) (alt : Bool) (dst : Option Tmp) (op : Op) (rd : Operand → Slot) (obj : List (List D)) : iK := match op with
 | .slice t x lo hi none => sN P dst t x (rd x) (lo.map rd) (hi.map rd)
 | .makeSlice t l c => yL P alt dst t (rd l) (rd c) obj
 | .call ⟨.builtin .cap, args, ts⟩ => Wv args.toList ts.toList fun x t => Nb P dst t (rd x)
 | .call ⟨.builtin .len, args, ts⟩ => Wv args.toList ts.toList fun x t => if alt = true then xP P dst t (rd x) obj else Ou P dst t (rd x)
 | .call ⟨.builtin .append, args, ts⟩ => Ww args.toList ts.toList fun s x t t2 => oP P dst t t2 s (rd s) (rd x) obj
 | .call ⟨.builtin .copy, args, ts⟩ => Ww args.toList ts.toList fun s x t t2 => zD P alt dst t t2 (rd s) (rd x) obj
 | .call ⟨.builtin .delete, args, ts⟩ => Ww args.toList ts.toList fun s x t _ => pG P dst t (rd s) (rd x) obj
 | .call ⟨.value (.func f), args, ts⟩ => Ww args.toList ts.toList fun s x _ _ => zB P dst f (rd s) (rd x) obj
 | .lookup t x i ok => mF P dst t (rd x) (rd i) ok obj
 | .mapUpdate t x i v => mZ P dst t (rd x) (rd i) (rd v) obj
 | .insert t x i v => mZ P dst t (rd x) (rd i) (rd v) obj
 | .makeMap t r => kS P dst t (r.map rd) obj
 | .mapEntry t x i => sZ P dst t (rd x) (rd i) obj
 | .entryStore t x i v => oW P dst t (rd x) (rd i) (rd v) obj
 | .makeInterface t x => tP P dst t (rd x)
 | .typeAssert x _ a ok => oS P dst a (rd x) ok
 | _ => fun _ _ => False
def Ut (alt : Bool) (op : Op) : Fl := match op with
 | .slice _ _ _ _ _ => ⟨false, false, false, false⟩
 | .makeSlice _ _ _ => if alt = true then ⟨false, false, false, false⟩ else ⟨false, false, true, true⟩
 | .call ⟨.builtin .cap, _, _⟩ => ⟨false, false, false, false⟩
 | .call ⟨.builtin .len, _, _⟩ => if alt = true then ⟨false, false, true, false⟩ else ⟨false, false, false, false⟩
 | .lookup _ _ _ _ => ⟨false, false, true, false⟩
 | .makeInterface _ _ => ⟨false, false, false, false⟩
 | .typeAssert _ _ _ _ => ⟨false, false, false, false⟩
 | .call ⟨.builtin .append, _, _⟩ => ⟨false, false, true, false⟩
 | _ => ⟨false, false, true, true⟩
theorem Fj {alt : Bool} {dst : Option Tmp} {op : Op} {rd rd' : Operand → Slot} {obj : List (List D)} (h : ∀ x ∈ op.operands.toList, rd' x = rd x) : yR P alt dst op rd' obj = yR P alt dst op rd obj := by
 unfold yR;split
 ·rename_i t x lo hi;have e1 : lo.map rd' = lo.map rd := by
   cases lo with
   | none => rfl
   | some y => simp only [Option.map_some]; rw [h y (by simp [Op.operands])]
  have e2 : hi.map rd' = hi.map rd := by
   cases hi with
   | none => rfl
   | some y => simp only [Option.map_some]; rw [h y (by simp [Op.operands])]
  rw [e1, e2, h x (by simp [Op.operands])]
 ·rename_i t l c;rw [h l (by simp [Op.operands]), h c (by simp [Op.operands])]
 ·rename_i args ts; exact yU fun x t hx => by rw [h x (by simpa [Op.operands, Call.operands] using hx)]
 ·rename_i args ts; exact yU fun x t hx => by rw [h x (by simpa [Op.operands, Call.operands] using hx)]
 ·rename_i args ts; exact pF fun s x t u hs hx => by rw [h x (by simpa [Op.operands, Call.operands] using hx), h s (by simpa [Op.operands, Call.operands] using hs)]
 ·rename_i args ts; exact pF fun s x t u hs hx => by rw [h x (by simpa [Op.operands, Call.operands] using hx), h s (by simpa [Op.operands, Call.operands] using hs)]
 ·rename_i args ts; exact pF fun s x t u hs hx => by rw [h x (by simpa [Op.operands, Call.operands] using hx), h s (by simpa [Op.operands, Call.operands] using hs)]
 ·rename_i f args ts; exact pF fun s x t u hs hx => by rw [h x (by simp [Op.operands, Call.operands, hx]), h s (by simp [Op.operands, Call.operands, hs])]
 ·rename_i t x i ok; rw [h x (by simp [Op.operands]), h i (by simp [Op.operands])]
 ·rename_i t x i v; rw [h x (by simp [Op.operands]), h i (by simp [Op.operands]), h v (by simp [Op.operands])]
 ·rename_i t x i v; rw [h x (by simp [Op.operands]), h i (by simp [Op.operands]), h v (by simp [Op.operands])]
 ·rename_i t r;have e1 : r.map rd' = r.map rd := by
   cases r with
   | none => rfl
   | some y => simp only [Option.map_some]; rw [h y (by simp [Op.operands])]
  rw [e1]
 ·rename_i t x i; rw [h x (by simp [Op.operands]), h i (by simp [Op.operands])]
 ·rename_i t x i v; rw [h x (by simp [Op.operands]), h i (by simp [Op.operands]), h v (by simp [Op.operands])]
 ·rename_i t x; rw [h x (by simp [Op.operands])]
 ·rename_i x xt a ok; rw [h x (by simp [Op.operands])]
 ·rfl
theorem Dv {op : Op} {x : Operand} {dst : Option Tmp} (hx : x ∈ op.operands.toList) {t : Nat} (h : t ∈ dst.toList ++ (bS x).toList) : t ∈ dst.toList ++ fA op := by
 rcases List.mem_append.1 h with h | h
 ·exact List.mem_append_left _ h
 ·refine List.mem_append_right _ (List.mem_filterMap.2 ⟨x, hx, ?_⟩);cases hs : bS x with
  | none => rw [hs] at h; simp at h
  | some u => rw [hs] at h; simp at h; rw [h]
theorem Ji {alt : Bool} {dst : Option Tmp} {op : Op} {rd : Operand → Slot} {obj : List (List D)} {sets : List (Nat × Slot)} {ob : Option (List (List D))} (h : yR P alt dst op rd obj sets ob) : (∀ p ∈ sets, p.1 ∈ dst.toList ++ fA op) ∧ (ob.isSome = true → (Ut alt op).wO = true) := by
 unfold yR at h;split at h
 ·obtain ⟨h1, rfl⟩ := Fb h; exact ⟨fun p hp => Dv (by simp [Op.operands]) (h1 p hp), by simp⟩
 ·obtain ⟨h1, h2⟩ := Gc h; exact ⟨fun p hp => List.mem_append_left _ (h1 p hp), fun h3 => by rw [h2 h3]; rfl⟩
 ·obtain ⟨x, t, rfl, rfl, h⟩ := qX h; obtain ⟨h1, rfl⟩ := Ns h; exact ⟨fun p hp => List.mem_append_left _ (h1 p hp), by simp⟩
 ·obtain ⟨x, t, rfl, rfl, h⟩ := qX h;split at h
  ·obtain ⟨h1, rfl⟩ := Ic h; exact ⟨fun p hp => List.mem_append_left _ (h1 p hp), by simp⟩
  ·obtain ⟨h1, rfl⟩ := Lx h; exact ⟨fun p hp => List.mem_append_left _ (h1 p hp), by simp⟩
 ·obtain ⟨s, x, t, u, rfl, rfl, h⟩ := jX h; obtain ⟨h1, rfl⟩ := Bc h; exact ⟨fun p hp => Dv (by simp [Op.operands, Call.operands]) (h1 p hp), by simp⟩
 ·obtain ⟨s, x, t, u, rfl, rfl, h⟩ := jX h; have h1 := Hz h; exact ⟨fun p hp => List.mem_append_left _ (h1 p hp), fun _ => rfl⟩
 ·obtain ⟨s, x, t, u, rfl, rfl, h⟩ := jX h; have h1 := Bg h; exact ⟨fun p hp => List.mem_append_left _ (h1 p hp), fun _ => rfl⟩
 ·obtain ⟨s, x, t, u, rfl, rfl, h⟩ := jX h; obtain ⟨h1, rfl⟩ := Fz h; exact ⟨fun p hp => List.mem_append_left _ (h1 p hp), by simp⟩
 ·obtain ⟨h1, rfl⟩ := Bn h; exact ⟨fun p hp => List.mem_append_left _ (h1 p hp), by simp⟩
 ·have h1 := rI h; exact ⟨fun p hp => List.mem_append_left _ (h1 p hp), fun _ => rfl⟩
 ·have h1 := rI h; exact ⟨fun p hp => List.mem_append_left _ (h1 p hp), fun _ => rfl⟩
 ·have h1 := xR h; exact ⟨fun p hp => List.mem_append_left _ (h1 p hp), fun _ => rfl⟩
 ·have h1 := Dx h; exact ⟨fun p hp => List.mem_append_left _ (h1 p hp), fun _ => rfl⟩
 ·have h1 := Al h; exact ⟨fun p hp => List.mem_append_left _ (h1 p hp), fun _ => rfl⟩
 ·obtain ⟨h1, rfl⟩ := Eu h; exact ⟨fun p hp => List.mem_append_left _ (h1 p hp), by simp⟩
 ·obtain ⟨h1, rfl⟩ := Az h; exact ⟨fun p hp => List.mem_append_left _ (h1 p hp), by simp⟩
 ·exact h.elim
def vcY (P : Program) (alt : Bool) (dst : Option Tmp) (op : Op) (st : St) (K : St → Prop) : Prop :=
 ∃ sets ob, yR P alt dst op st.rdS (if (Ut alt op).rO = true then st.obj else []) sets ob ∧ K (st.upd ⟨sets, none, ob⟩)
theorem aCt {o : Oper} {st : St} {alt : Bool} (hd : cL o st) {sets : List (Nat × Slot)} {ob : Option (List (List D))} (h : yR P alt o.dst o.op st.rdS (if (Ut alt o.op).rO = true then st.obj else []) sets ob) : Does P o st (· = st.upd ⟨sets, none, ob⟩) := by
 generalize hop : o.op = op at h;unfold yR at h;split at h
 ·rename_i t x lo hi; exact Co t x lo hi hd hop h
 ·rename_i t l c;refine Hc (alt := alt) t l c hd hop (fun ha => ?_) h;subst ha; rfl
 ·obtain ⟨x, t, rfl, rfl, h⟩ := qX h; exact Nd t x hd hop h
 ·obtain ⟨x, t, rfl, rfl, h⟩ := qX h;split at h
  ·rename_i ha; subst ha; exact Hr t x hd hop h
  ·exact Mn t x hd hop h
 ·obtain ⟨s, x, t, u, rfl, rfl, h⟩ := jX h; exact Am t u s x hd hop h
 ·obtain ⟨s, x, t, u, rfl, rfl, h⟩ := jX h; exact Gu t u s x hd hop h
 ·obtain ⟨s, x, t, u, rfl, rfl, h⟩ := jX h; exact Bp t u s x hd hop h
 ·obtain ⟨s, x, t, u, rfl, rfl, h⟩ := jX h; exact Hd _ t u s x hd hop h
 ·rename_i t x i ok; exact zT t x i ok hd hop h
 ·rename_i t x i v; exact rD t x i v hd (.inl hop) h
 ·rename_i t x i v; exact rD t x i v hd (.inr hop) h
 ·rename_i t r; exact xV t r hd hop h
 ·rename_i t x i; exact Fi t x i hd hop h
 ·rename_i t x i v; exact Bu t x i v hd hop h
 ·rename_i t x; exact De t x hd hop h
 ·rename_i x xt a ok; exact zS x xt a ok hd hop h
 ·exact h.elim
theorem Tg {o : Oper} {st : St} {alt : Bool} {K : St → Prop} (hd : cL o st) (h : vcY P alt o.dst o.op st K) : Does P o st K := by
 obtain ⟨sets, ob, h1, hK⟩ := h;exact (aCt hd h1).mono (by rintro _ rfl; exact hK)
end
end Go.Vm

