import Derived.Test.YtighdhfgcdjmeaaGreatDoorVmX4
namespace Go.Vm
open Go
set_option linter.all false

structure Fl where
  rL : Bool := false
  wL : Bool := false
  rO : Bool := false
  wO : Bool := false
  deriving DecidableEq

def dP (op : Op) : List Nat := op.operands.toList.filterMap aZ

structure Delta where
  sets : List (Nat × Slot)
  loc : Option (List (List D))
  obj : Option (List (List D))

def cD : List (Nat × Slot) → (Nat → Slot) → Nat → Slot
  | [], e => e
  | (a, s) :: r, e => cD r (fun u => if u = a then s else e u)

def St.upd (st : St) (δ : Delta) : St := { n := st.n, env := cD δ.sets st.env, loc := δ.loc.getD st.loc, obj := δ.obj.getD st.obj }

abbrev fE := List (Nat × Slot) → Option (List (List D)) → Prop

def jN (k : Nat) (z : Array Value) : D := if k = 1 then (match z[0]? with | some x => (D.ofV1 x).s1 | none => .any) else .agg (z.toList.map fun x => (D.ofV1 x).s1)

abbrev D.nilS : D := .v (.slice none 0 0)

def xZ (d : Int) : Option Slot → Option Int
  | none => some d
  | some (.d (.v (.int _ n))) => some n
  | _ => none

theorem lW (st : St) (d : Int) (x : Option Operand) : xZ d (x.map st.rdS) = cK st d x := by
  cases x with
  | none => rfl
  | some x =>
    unfold cK St.rd;simp only [Option.map_some];cases h : st.rdS x with
    | lref n o => rfl
    | d d =>
      cases d with
      | v v => cases v <;> rfl
      | _ => rfl

section
variable {P : Program}

def oR (P : Program) (dst : Option Tmp) (t : TypeId) (x : Operand) (sx : Slot) (lo hi : Option Slot) : fE := fun sets ob =>
  match dst, sx with
  | some d, .d (.ref m off) => match Da P t with
    | some (len, k) => match xZ 0 lo, xZ len hi with
      | some l, some h => (0 ≤ l ∧ l ≤ h ∧ h ≤ len ∧ len ≤ maxLen) ∧ sets = [(d, .d (.slo m (off + l.toNat * k) (h.toNat - l.toNat) (len - l.toNat)))] ∧ ob = none
      | _, _ => False
    | none => False
  | some d, .d (.v (.slice none 0 0)) => match eP P t with
    | some _ => match xZ 0 lo, xZ 0 hi with
      | some l, some h => (l = 0 ∧ h = 0) ∧ sets = [(d, .d .nilS)] ∧ ob = none
      | _, _ => False
    | none => False
  | some d, .d (.xs k es) => match eP P t, x with
    | some (_, k', _, _), .tmp ts => match xZ 0 lo, xZ es.length hi with
      | some l, some h => (k' = k ∧ l = 0 ∧ 0 ≤ h ∧ h ≤ es.length ∧ ts ≠ d) ∧ sets = [(ts, .d .any), (d, .d (.xs k (es.take h.toNat)))] ∧ ob = none
      | _, _ => False
    | _, _ => False
  | _, _ => False

def vS (P : Program) (alt : Bool) (dst : Option Tmp) (t : TypeId) (sl sc : Slot) (obj : List (List D)) : fE := fun sets ob =>
  match dst, eP P t, sl, sc with
  | some d, some (_, k, by_, z), .d (.v (.int _ n)), .d (.v (.int _ n')) => (n' = n ∧ 0 ≤ n ∧ by_ * n ≤ 281474976710656 ∧ n ≤ maxLen ∧ (∀ c ∈ z.toList, c.oneCell' = true)) ∧
    (if alt = true then sets = [(d, .d (.xs k (List.replicate n.toNat (jN k z))))] ∧ ob = none
     else sets = [(d, .d (.slo obj.length 0 n.toNat n.toNat))] ∧ ob = some (obj ++ [fJ z n.toNat]))
  | _, _, _, _ => False

def Ge (P : Program) (dst : Option Tmp) (t : TypeId) (sx : Slot) : fE := fun sets ob =>
  match dst, sx with
  | some d, .d (.slo _ _ _ cap) => (∃ e, P.underlying t = some (.slice e)) ∧ sets = [(d, .d (.int cap))] ∧ ob = none
  | some d, .d (.v (.slice none 0 0)) => (∃ e, P.underlying t = some (.slice e)) ∧ sets = [(d, .d (.int 0))] ∧ ob = none
  | _, _ => False

def Gf (P : Program) (dst : Option Tmp) (t : TypeId) (sx : Slot) : fE := fun sets ob =>
  match dst, sx with
  | some d, .d (.v (.slice none 0 0)) => (∃ e, P.underlying t = some (.slice e)) ∧ sets = [(d, .d (.int 0))] ∧ ob = none
  | _, _ => False

def Gp (obj : List (List D)) (k : Nat) (s : Slot) (xs : List D) : Prop :=
  match s with
  | .d (.slo m a len _) => xs.length = len ∧ ∃ cs, obj[m]? = some cs ∧ xs.flatMap D.cells <+: cs.drop a
  | .d (.sl _ es) => xs = es
  | _ => False

def lK (P : Program) (dst : Option Tmp) (t t2 : TypeId) (x : Operand) (sb ss : Slot) (obj : List (List D)) : fE := fun sets ob =>
  match dst, eP P t, x with
  | some d, some (_, k, by_, z), .tmp ts =>
    match ss with
    | .d (.v (.int _ n)) => match sb with
      | .d (.v (.slice none 0 0)) => (P.underlying t2 = some (.int .i64) ∧ 0 ≤ n ∧ n * by_ ≤ 140737488355328 ∧ n ≤ maxLen ∧ ts ≠ d ∧ (∀ c ∈ z.toList, c.oneCell' = true)) ∧ sets = [(ts, .d .any), (d, .d (.xs k (List.replicate n.toNat (jN k z))))] ∧ ob = none
      | .d (.slo _ _ len cap) => ∃ xs, (P.underlying t2 = some (.int .i64) ∧ Gp obj k sb xs ∧ (∀ y ∈ xs, y.ncells = k ∧ y.arr = true) ∧ 0 ≤ n ∧ (cap : Int) < len + n ∧ (len + n) * by_ ≤ 140737488355328 ∧ len + n ≤ maxLen ∧ ts ≠ d ∧ (∀ c ∈ z.toList, c.oneCell' = true)) ∧ sets = [(ts, .d .any), (d, .d (.xs k (xs ++ List.replicate n.toNat (jN k z))))] ∧ ob = none
      | _ => False
    | _ => ∃ xs, ((∃ e2, P.underlying t2 = some (.slice e2)) ∧ Gp obj k ss xs ∧ (∀ y ∈ xs, y.ncells = k ∧ y.arr = true) ∧ ts ≠ d ∧ (∀ c ∈ z.toList, c.oneCell' = true)) ∧
      match sb with
      | .d (.xs k' es) => (k' = k ∧ (es.length + xs.length) * by_ ≤ 140737488355328 ∧ es.length + xs.length ≤ maxLen) ∧ sets = [(ts, .d .any), (d, .d (.xs k (es ++ xs)))] ∧ ob = none
      | .d (.v (.slice none 0 0)) => (xs.length * by_ ≤ 140737488355328 ∧ xs.length ≤ maxLen) ∧ sets = [(ts, .d .any), (d, .d (.xs k xs))] ∧ ob = none
      | .d (.sl true []) => (xs.length * by_ ≤ 140737488355328 ∧ xs.length ≤ maxLen) ∧ sets = [(ts, .d .any), (d, .d (.xs k xs))] ∧ ob = none
      | _ => False
  | _, _, _ => False

def uU (P : Program) (alt : Bool) (dst : Option Tmp) (t t2 : TypeId) (sd ss : Slot) (obj : List (List D)) : fE := fun sets ob =>
  match eP P t, sd with
  | some (_, k, _, _), .d (.slo m a dl _) => (∃ e2, P.underlying t2 = some (.slice e2)) ∧
    (if alt = true then match ss with
      | .d (.slo m' a' sl' _) => match obj[m]? with
        | some cs => (m' = m ∧ k = 1 ∧ min sl' dl = 1 ∧ a ≠ a' ∧ a < cs.length ∧ a' < cs.length) ∧ sets = dst.toList.map (fun d => (d, .d (.int 1))) ∧ ob = some (obj.set m ((cs.set a (cs.getD a' .any)).set a' (cs.getD a' .any).s1))
        | none => False
      | _ => False
     else ∃ xs cs, (Gp obj k ss xs ∧ (∀ y ∈ xs, y.ncells = k ∧ y.arr = true) ∧ obj[m]? = some cs ∧ a + min xs.length dl * k ≤ cs.length) ∧ sets = dst.toList.map (fun d => (d, .d (.int (min xs.length dl : Nat)))) ∧ ob = some (obj.set m (bO cs a ((xs.take (min xs.length dl)).flatMap D.cells))))
  | _, _ => False

theorem zV {dst : Option Tmp} {t : TypeId} {x : Operand} {sx : Slot} {lo hi : Option Slot} {sets : List (Nat × Slot)} {ob : Option (List (List D))} (h : oR P dst t x sx lo hi sets ob) : (∀ p ∈ sets, p.1 ∈ dst.toList ++ (aZ x).toList) ∧ ob = none := by
  unfold oR at h
  repeat' split at h
  all_goals first | exact h.elim | skip
  all_goals obtain ⟨_, rfl, rfl⟩ := h
  all_goals exact ⟨by simp [aZ], rfl⟩
theorem Ch {alt : Bool} {dst : Option Tmp} {t : TypeId} {sl sc : Slot} {obj : List (List D)} {sets : List (Nat × Slot)} {ob : Option (List (List D))} (h : vS P alt dst t sl sc obj sets ob) : (∀ p ∈ sets, p.1 ∈ dst.toList) ∧ (ob.isSome = true → alt = false) := by
  unfold vS at h;split at h
  · obtain ⟨_, h⟩ := h
    split at h
    · obtain ⟨rfl, rfl⟩ := h; exact ⟨by simp, by simp⟩
    · rename_i ha; obtain ⟨rfl, rfl⟩ := h; exact ⟨by simp, fun _ => by simpa using ha⟩
  · exact h.elim
theorem Ic {dst : Option Tmp} {t : TypeId} {sx : Slot} {sets : List (Nat × Slot)} {ob : Option (List (List D))} (h : Ge P dst t sx sets ob) : (∀ p ∈ sets, p.1 ∈ dst.toList) ∧ ob = none := by
  unfold Ge at h;split at h
  all_goals first | exact h.elim | skip
  all_goals obtain ⟨_, rfl, rfl⟩ := h
  all_goals exact ⟨by simp, rfl⟩
theorem Iq {dst : Option Tmp} {t : TypeId} {sx : Slot} {sets : List (Nat × Slot)} {ob : Option (List (List D))} (h : Gf P dst t sx sets ob) : (∀ p ∈ sets, p.1 ∈ dst.toList) ∧ ob = none := by
  unfold Gf at h;split at h
  all_goals first | exact h.elim | skip
  all_goals obtain ⟨_, rfl, rfl⟩ := h
  all_goals exact ⟨by simp, rfl⟩
theorem wV {dst : Option Tmp} {t t2 : TypeId} {x : Operand} {sb ss : Slot} {obj : List (List D)} {sets : List (Nat × Slot)} {ob : Option (List (List D))} (h : lK P dst t t2 x sb ss obj sets ob) : (∀ p ∈ sets, p.1 ∈ dst.toList ++ (aZ x).toList) ∧ ob = none := by
  unfold lK at h;split at h
  · split at h
    · split at h
      all_goals first | exact h.elim | skip
      all_goals first | obtain ⟨_, rfl, rfl⟩ := h | obtain ⟨_, _, rfl, rfl⟩ := h
      all_goals exact ⟨by simp [aZ], rfl⟩
    · obtain ⟨xs, _, h⟩ := h
      split at h
      all_goals first | exact h.elim | skip
      all_goals obtain ⟨_, rfl, rfl⟩ := h
      all_goals exact ⟨by simp [aZ], rfl⟩
  · exact h.elim
theorem Cv {alt : Bool} {dst : Option Tmp} {t t2 : TypeId} {sd ss : Slot} {obj : List (List D)} {sets : List (Nat × Slot)} {ob : Option (List (List D))} (h : uU P alt dst t t2 sd ss obj sets ob) : ∀ p ∈ sets, p.1 ∈ dst.toList := by
  have key : ∀ (s : Slot), ∀ p ∈ dst.toList.map (fun d => (d, s)), p.1 ∈ dst.toList := fun s p hp => by
    rw [List.mem_map] at hp;obtain ⟨d, hd, rfl⟩ := hp;exact hd
  unfold uU at h;split at h
  · obtain ⟨_, h⟩ := h
    split at h
    · split at h
      · split at h
        · obtain ⟨_, rfl, rfl⟩ := h; exact key _
        · exact h.elim
      · exact h.elim
    · obtain ⟨_, _, _, rfl, rfl⟩ := h; exact key _
  · exact h.elim


theorem bB {st : St} {x : Operand} {d : D} (h : st.rdS x = .d d) : st.rd x = d := by unfold St.rd; rw [h]

theorem Lt (st : St) (d : Nat) (s : Slot) : st.upd ⟨[(d, s)], none, none⟩ = st.set d s := rfl
theorem jA (st : St) (a b : Nat) (s r : Slot) : st.upd ⟨[(a, s), (b, r)], none, none⟩ = (st.set a s).set b r := rfl

theorem Ar {o : Oper} {st : St} (t : TypeId) (x : Operand) (lo hi : Option Operand) (hd : bL o st) (ho : o.op = .slice t x lo hi none) {sets : List (Nat × Slot)} {ob : Option (List (List D))}
    (h : oR P o.dst t x (st.rdS x) (lo.map st.rdS) (hi.map st.rdS) sets ob) : Does P o st (· = st.upd ⟨sets, none, ob⟩) := by
  unfold oR at h;split at h
  · rename_i d m off hdst hx
    split at h
    · rename_i len k he
      rw [lW, lW] at h;split at h
      · rename_i l hh e1 e2
        obtain ⟨⟨b1, b2, b3, b4⟩, rfl, rfl⟩ := h;obtain ⟨e, i, h1, h2, h3⟩ := uW he;refine aT hd (.d (.slo m (off + l.toNat * k) (hh.toNat - l.toNat) (len - l.toNat))) (fun w g tmps hok => ?_) (by rw [hdst]; rfl);have hr := hok.rd x;rw [bB hx] at hr;generalize hv : ev tmps x = v at hr;cases hr with
        | ref _ _ b hb =>
          have := dC (P := P) (isSlice := false) hok (Nat.le_refl len) e1 e2 ⟨b1, b2, b3⟩;by_cases hml : len = l.toNat
          · refine ⟨.slice (some ⟨b, off, none⟩) (hh.toNat - l.toNat) (len - l.toNat), ?_, aM ?_ rfl⟩
            · subst hml
              simp [execOp, ho, Instr.sliceAt, hv, run_underlying h1, Instr.sureAddr, this, aR h2]
            · exact .slo _ _ _ _ _ (by omega) (by omega) (by omega)
          · refine ⟨.slice (some ⟨b, off + l.toNat * k, none⟩) (hh.toNat - l.toNat) (len - l.toNat), ?_, aM ?_ rfl⟩
            · simp [execOp, ho, Instr.sliceAt, hv, run_underlying h1, Instr.sureAddr, this, aR h2, hml, h3, Addr.add_none]
            · exact .slo _ _ _ _ _ (fun h => ⟨b, hb, rfl⟩) (by omega) (by omega)
      · exact h.elim
    · exact h.elim
  · rename_i d hdst hx
    split at h
    · rename_i q he
      rw [lW, lW] at h;split at h
      · rename_i l hh e1 e2
        obtain ⟨⟨rfl, rfl⟩, rfl, rfl⟩ := h;obtain ⟨e, k, by_, z⟩ := q;obtain ⟨ti, zv, h1, h2, h3, h4, h5, h6, h7, h8⟩ := dD he;refine aT hd (.d .nilS) (fun w g tmps hok => ?_) (by rw [hdst]; rfl);have hr := hok.rd x;rw [bB hx] at hr;have hv := hr.vEq;have := dC (P := P) (isSlice := true) hok (Nat.le_refl 0) e1 e2 ⟨Int.le_refl _, Int.le_refl _, Int.le_refl _⟩;simp only [Int.toNat_zero] at this;exact ⟨.slice none 0 0, by simp [execOp, ho, Instr.sliceAt, hv, run_underlying h1, Instr.slice, this, aR h2], aM (.v _ rfl) rfl⟩
      · exact h.elim
    · exact h.elim
  · rename_i d k es hdst hx
    split at h
    · rename_i e k' by_ z ts he
      rw [lW, lW] at h;split at h
      · rename_i l hh e1 e2
        obtain ⟨⟨rfl, rfl, b2, b3, hne⟩, rfl, rfl⟩ := h;obtain ⟨ti, zv, h1, h2, h3, h4, h5, h6, h7, h8⟩ := dD he;have hs : st.env ts = .d (.xs k' es) := hx;rw [jA];refine aP hd fun w g tmps hok => ?_;have hsl := hok.slot ts;rw [hs] at hsl;obtain ⟨hr, hown⟩ := hsl;have hvts : ev tmps (.tmp ts) = aU tmps ts := rfl;have hO : Oc w g.M g.bs g.X (.slot ts, []) k' es (aU tmps ts) := by
          cases hown with
          | xs p k es v ho => exact ho
          | flat p d v hf => simp [D.flat] at hf
        generalize hv : aU tmps ts = v at hr hO;cases hr with
        | xs _ _ a n cap hn hc hm ha =>
          subst hn;have hsb := dC (P := P) (isSlice := true) hok hc e1 e2 ⟨Int.le_refl _, b2, b3⟩;simp only [Int.toNat_zero] at hsb;have hlt : hh.toNat ≤ es.length := by omega
          have hrun : (a = none ∨ ∃ b, a = some ⟨b, 0, none⟩) ∨ cap = 0 → (execOp (ev tmps) o).run P w = .ok (.value (.slice a hh.toNat cap)) w := by
            intro hab;by_cases hc0 : cap = 0
            · subst hc0
              simp [execOp, ho, Instr.sliceAt, hvts, hv, run_underlying h1, Instr.slice, hsb, aR h2]
            · rcases hab with (rfl | ⟨b, rfl⟩) | h0
              · obtain ⟨_, h0⟩ := ha rfl; exact absurd h0 hc0
              · simp [execOp, ho, Instr.sliceAt, hvts, hv, run_underlying h1, Instr.slice, hsb, aR h2, Addr.add_none]
              · exact absurd h0 hc0
          rw [hdst];rcases hO with ⟨rfl, a1, e1⟩ | ⟨b, n, cap', cur, E, e1, o1, o2, o3, o4, o5, o6, o7, o8, o9, o10, o11⟩
          · simp only [Value.slice.injEq] at e1
            obtain ⟨rfl, _, rfl⟩ := e1;have h0 : hh.toNat = 0 := by simpa using hlt
            rw [h0] at hrun ⊢;refine ⟨_, w, g, _, .inl (hrun (.inr rfl)), rfl, Fr.refl w g, ?_, rfl, by simp⟩;exact (hok.forget ts).set d _ _ ⟨.xs _ [] a 0 0 rfl (Nat.le_refl _) (Nat.zero_le _) (fun _ => ⟨rfl, rfl⟩), .xs _ _ _ _ (.inl ⟨rfl, a, rfl⟩)⟩
          · simp only [Value.slice.injEq] at e1
            obtain ⟨rfl, rfl, rfl⟩ := e1;have hlen : (es.take hh.toNat).length = hh.toNat := by rw [List.length_take]; omega
            refine ⟨_, w, { g with X := cH (dG (.slot ts) [] (.slot d) []) g.X }, _, .inl (hrun (.inl (.inr ⟨b, rfl⟩))), rfl, Fr.ren w g (dG (.slot ts) [] (.slot d) []), ?_, rfl, by simp⟩;obtain ⟨p1, _, _⟩ := hok.park ts _ hs (by simp) (dG (.slot ts) [] (.slot d) []) (fun t ht => fP ht);have hget : ∀ (i : Nat) (d : D), (es.take hh.toNat)[i]? = some d → es[i]? = some d := fun i d h => by
              rw [List.getElem?_take] at h;split at h
              · exact h
              · cases h
            have p2 := (p1.set d (.d (.xs k' (es.take hh.toNat))) (.slice (some ⟨b, 0, none⟩) hh.toNat cap) ⟨.xs _ _ _ _ _ hlen.symm (by omega) o7 (by simp), .xs _ _ _ _ (.inr ⟨b, hh.toNat, cap, cur, E, rfl, ?_, o2, o3, o4, hlen.symm, by omega, o7, o8, o9, fun i d hi => o10 i d (hget i d hi), fun i d j e hi hj => o11 i d j e (hget i d hi) hj⟩)⟩)
            · exact p2.forget2 hne
            · show cH (dG (.slot ts) [] (.slot d) []) g.X b = some (.slot d, [])
              simp [cH, o1, dG]
      · exact h.elim
    · exact h.elim
  · exact h.elim

end
end Go.Vm

