import Derived.Test.YtighdhfgcdjmeaaGreatDoorVmX13
import Derived.Maps.RangeRun
namespace Go.Vm
open Go
set_option linter.all false
section
variable {P : Program}
def jU (P : Program) (dst : Option Tmp) (t : TypeId) (x : Operand) (st : St) (K : St → Prop) : Prop :=
 match dst, st.rdS x, Oi P t with
 | some d, .d (.mref N), some (kd, _) => ∃ m i clock kvs, kS st.obj m i N kd clock kvs ∧ K (st.set d (.d (.mit N clock [] clock)))
 | _, _, _ => False
def dY (kvs : List (Value × Nat × D)) (d t N clock : Nat) (seen : List Nat) (st : St) (K : St → Prop) : Prop :=
 (kvs.map fun e => e.2.1).Nodup → ((∀ (j s : Nat) (key : Value) (dv : D), kvs[j]? = some (key, s, dv) → s ∈ seen) → K (st.set d (.d (.tup [.bool false])))) ∧
 ∀ (j s : Nat) (key : Value) (dv : D), kvs[j]? = some (key, s, dv) → s ∉ seen → K ((st.set t (.d (.mit N clock (seen ++ [s]) clock))).set d (.d (.tup [.bool true, .any, .any])))
def mP (dst : Option Tmp) (x : Operand) (st : St) (K : St → Prop) : Prop :=
 match dst, x with
 | some d, .tmp t => match st.env t with
  | .d (.mit N since seen last) => ∃ m i kd clock kvs, (kS st.obj m i N kd clock kvs ∧ since = clock ∧ last = clock ∧ d ≠ t) ∧ dY kvs d t N clock seen st K
  | _ => False
 | _, _ => False
def kE (dst : Option Tmp) (x : Operand) (st : St) (K : St → Prop) : Prop :=
 match dst, x with
 | some d, .tmp t => match st.env t with
  | .d (.mit N since seen last) => ∃ (m i : Nat) (kd : TypeDesc) (clock : Nat) (kvs : List (Value × Nat × D)) (seen' : List Nat) (s : Nat) (key : Value) (dv : D) (j : Nat), (kS st.obj m i N kd clock kvs ∧ last = clock ∧ seen = seen' ++ [s] ∧ kvs[j]? = some (key, s, dv) ∧ key.oneCell' = true) ∧ K (st.set d (.d (.tup [.v key, dv])))
  | _ => False
 | _, _ => False
theorem xT {dst : Option Tmp} {t : TypeId} {x : Operand} {st : St} {K K' : St → Prop} (hk : ∀ s, K s → K' s) (h : jU P dst t x st K) : jU P dst t x st K' := by
 unfold jU at h ⊢;split at h
 ·obtain ⟨m, i, c, kvs, h1, h2⟩ := h; exact ⟨m, i, c, kvs, h1, hk _ h2⟩
 ·exact h.elim
theorem zR {dst : Option Tmp} {x : Operand} {st : St} {K K' : St → Prop} (hk : ∀ s, K s → K' s) (h : mP dst x st K) : mP dst x st K' := by
 unfold mP at h ⊢;split at h
 ·split at h
  ·obtain ⟨m, i, kd, c, kvs, h1, h2⟩ := h; exact ⟨m, i, kd, c, kvs, h1, fun hn => ⟨fun a => hk _ ((h2 hn).1 a), fun j s key dv a b => hk _ ((h2 hn).2 j s key dv a b)⟩⟩
  ·exact h.elim
 ·exact h.elim
theorem wA {dst : Option Tmp} {x : Operand} {st : St} {K K' : St → Prop} (hk : ∀ s, K s → K' s) (h : kE dst x st K) : kE dst x st K' := by
 unfold kE at h ⊢;split at h
 ·split at h
  ·obtain ⟨m, i, kd, c, kvs, s', s, key, dv, j, h1, h2⟩ := h; exact ⟨m, i, kd, c, kvs, s', s, key, dv, j, h1, hk _ h2⟩
  ·exact h.elim
 ·exact h.elim
theorem Ok.newIt {w : World} {g : Gh} {st : St} {val : Nat → Value} (h : Ok w g st val) (d N clock bm : Nat) (hbm : g.bs[N]? = some bm) :
  Ok (w.alloc (.mapIter (some bm) clock #[] clock)) { g with X := (fun b => if b = w.heap.size then some (.slot d, []) else g.X b) } (st.set d (.d (.mit N clock [] clock))) (fun u => if u = d then .pointer (some ⟨w.heap.size, 0, none⟩) else val u) ∧
   Fr w g (w.alloc (.mapIter (some bm) clock #[] clock)) { g with X := (fun b => if b = w.heap.size then some (.slot d, []) else g.X b) } := by
 have hk : ∀ (hd : Holder) (b : Nat) (q : List Nat), g.X b = some (hd, q) → (w.alloc (.mapIter (some bm) clock #[] clock)).heap[b]? = w.heap[b]? ∧ (∀ o, g.M b o = none → g.M b o = none) ∧ (if b = w.heap.size then some (Holder.slot d, []) else g.X b) = some (hd, q) := by
  intro hd b q hb;have := h.xlt b _ hb;exact ⟨fD w _ this, fun o ho => ho, by rw [if_neg (by omega)]; exact hb⟩
 have base : Ok (w.alloc (.mapIter (some bm) clock #[] clock)) { g with X := (fun b => if b = w.heap.size then some (.slot d, []) else g.X b) } st val := by
  refine ⟨fun b o c hc => ?_, fun b t hb => ?_, fun t => (h.slot t).keep (fun _ _ _ h => h) (fun _ _ h => h) (fun _ _ h => h) (hk _), h.ll, fun n b ds h1 h2 => (h.loc n b ds h1 h2).keep (fun _ _ _ h => h) (fun _ _ h => h) (hk _), h.ol, fun n b ds h1 h2 => (h.obj n b ds h1 h2).keep (fun _ _ _ h => h) (fun _ _ h => h) (hk _)⟩
  ·have := h.mlt hc;rw [World.cell?_alloc_lt w _ ⟨b, o, none⟩ this];exact h.mem b o c hc
  ·simp only at hb;simp only [World.size_alloc];split at hb
   ·omega
   ·have := h.xlt b t hb; omega
 refine ⟨base.set d _ _ ⟨.mit _ _ _ _ w.heap.size, .mit _ _ _ _ _ _ ⟨w.heap.size, bm, rfl, hbm, by simp, iJ w _, fun o => h.newM o⟩⟩, rfl, rfl, rfl, by simp, fun b hb hx => ⟨fD w _ hb, ?_, fun o => rfl⟩, fun _ _ _ h => h, fun _ _ h => h⟩;simp only [if_neg (show ¬ b = w.heap.size by omega)]; exact hx
theorem Bo {o : Oper} {st : St} {K : St → Prop} (t : TypeId) (x : Operand) (hd : bL o st) (ho : o.op = .range t x) (h : jU P o.dst t x st K) : Does P o st K := by
 unfold jU at h;split at h
 ·rename_i d N kd z hdst hx hmp;obtain ⟨m, i, clock, kvs, hh, hK⟩ := h;obtain ⟨kt, et, ti, u1, u2, u3, u4⟩ := iF hmp;refine aP hd fun w g tmps hok => ?_;have hrx := hok.rd x;rw [bB hx] at hrx;obtain ⟨bl, es, hv, o1, o2, o3, o4, o5, o6, o7⟩ := kA hok hh hrx;obtain ⟨q1, q2⟩ := hok.newIt d N clock bl o7;rw [hdst];refine ⟨.pointer (some ⟨w.heap.size, 0, none⟩), _, _, _, .inl ?_, hK, q2, q1, rfl, by simp⟩;simp [execOp, ho, Instr.range, hv, run_underlying u1, MapKept.run_getObj_map o2, newObj];rfl
 ·exact h.elim
theorem Ok.stepIt {w : World} {g : Gh} {st : St} {val : Nat → Value} (h : Ok w g st val) {t N since last clock b bm : Nat} {seen seen' : List Nat} (hX : g.X b = some (.slot t, [])) (hb : w.heap[b]? = some (.mapIter (some bm) since seen.toArray last)) (hM : ∀ o, g.M b o = none) (hbn : g.bs[N]? = some bm) (hv : val t = .pointer (some ⟨b, 0, none⟩)) :
  Ok (ChangeMaps.setBlock w b (.mapIter (some bm) since seen'.toArray clock)) g (st.set t (.d (.mit N since seen' clock))) val ∧ Fr w g (ChangeMaps.setBlock w b (.mapIter (some bm) since seen'.toArray clock)) g := by
 have hlt : b < w.heap.size := (Array.getElem?_eq_some_iff.1 hb).1;have hself : (w.heap.setIfInBounds b (.mapIter (some bm) since seen'.toArray clock))[b]? = some (.mapIter (some bm) since seen'.toArray clock) := by rw [Array.getElem?_setIfInBounds]; simp [hlt]
 have hoth : ∀ b', b' ≠ b → (w.heap.setIfInBounds b (.mapIter (some bm) since seen'.toArray clock))[b']? = w.heap[b']? := fun b' hne => by rw [Array.getElem?_setIfInBounds, if_neg (Ne.symm hne)]
 have other : ∀ (hd : Holder), hd ≠ .slot t → ∀ (b' : Nat) (q : List Nat), g.X b' = some (hd, q) → (w.heap.setIfInBounds b (.mapIter (some bm) since seen'.toArray clock))[b']? = w.heap[b']? ∧ (∀ o, g.M b' o = none → g.M b' o = none) ∧ g.X b' = some (hd, q) := fun hd hne' b' q hq => by
  have : b' ≠ b := by rintro rfl; rw [hX] at hq; simp only [Option.some.injEq, Prod.mk.injEq] at hq; exact hne' hq.1.symm
  exact ⟨hoth b' this, fun _ h => h, hq⟩
 refine ⟨⟨fun b' o c hc => ?_, fun b' t ht => ?_, fun u => ?_, h.ll, fun n b' ds a1 a2 => (h.loc n b' ds a1 a2).keep (fun _ _ _ h => h) (fun _ _ h => h) (other _ (by simp)), h.ol, fun n b' ds a1 a2 => (h.obj n b' ds a1 a2).keep (fun _ _ _ h => h) (fun _ _ h => h) (other _ (by simp))⟩, ⟨rfl, rfl, rfl, by simp [ChangeMaps.setBlock], fun b' hb' hx' => ?_, fun _ _ _ h => h, fun _ _ h => h⟩⟩
 ·have hne' : b' ≠ b := by intro e; subst e; rw [hM] at hc; cases hc
  rw [World.cell?_of_block (w := w) (a := ⟨b', o, none⟩) (hoth b' hne')];exact h.mem b' o c hc
 ·have := h.xlt b' t ht;simpa [ChangeMaps.setBlock] using this
 ·by_cases e : u = t
  ·subst e;rw [hv];show SlotOk _ g u ((st.set u (.d (.mit N since seen' clock))).env u) _
   simp only [St.set, if_true];exact ⟨.mit _ _ _ _ b, .mit _ _ _ _ _ _ ⟨b, bm, rfl, hbn, hX, hself, hM⟩⟩
  ·show SlotOk _ g u ((st.set t (.d (.mit N since seen' clock))).env u) _
   simp only [St.set, if_neg e];exact (h.slot u).keep (fun _ _ _ h => h) (fun _ _ h => h) (fun _ _ h => h) (other _ (by simp; exact e))
 ·have : b' ≠ b := by intro e; subst e; rw [hX] at hx'; cases hx'
  exact ⟨hoth b' this, hx', fun _ => rfl⟩
theorem Hz {o : Oper} {st : St} {K : St → Prop} (x : Operand) (hd : bL o st) (ho : o.op = .next x false) (h : mP o.dst x st K) : Does P o st K := by
 unfold mP at h;split at h
 ·rename_i d t hdst;split at h
  ·rename_i N since seen last henv;obtain ⟨m, i, kd, clock, kvs, ⟨hh, rfl, rfl, hne⟩, hKK⟩ := h;refine aP hd fun w g tmps hok => ?_;have hsl := hok.slot t;rw [henv] at hsl;obtain ⟨hR, hO⟩ := hsl;cases hO with
   | flat _ _ _ hf => simp [D.flat] at hf
   | mit _ _ _ _ _ _ hit =>
    obtain ⟨b, bm, hv, hbn, hX, hb, hM⟩ := hit;obtain ⟨bl, es, hv2, o1, o2, o3, o4, o5, o6, o7⟩ := kA hok hh (v := .map (some bm)) (.mref _ _ hbn);simp only [Value.map.injEq, Option.some.injEq] at hv2;subst hv2;have hev : ev tmps (.tmp t) = .pointer (some ⟨b, 0, none⟩) := hv;have hkn : (kvs.map fun e => e.2.1).Nodup := by
     have : (kvs.map fun e => e.2.1) = es.toList.map (·.born) := by
      refine List.ext_getElem (by simp [o4]) fun i h1 h2 => ?_;simp only [List.length_map, Array.length_toList] at h1 h2;rcases hkv : kvs[i] with ⟨k, s, d⟩;have := (o6 i k s d es[i] (by rw [List.getElem?_eq_getElem h1, hkv]) (Array.getElem?_eq_getElem h2)).2.1;simp [hkv, this]
     rw [this]; exact o5.1.2.1
    obtain ⟨hK1, hK2⟩ := hKK hkn;have hrun := run_next_at (P := P) w o.type b bm last last seen.toArray es last hb o2 o5.1.1 (Nat.le_refl _);rw [hdst];rcases hrun with ⟨h0, hrun⟩ | ⟨e, he, w1, hw1, hrun⟩
    ·refine ⟨.tuple #[.bool false], w, g, _, .inl ?_, hK1 fun j s key dv hj => ?_, Fr.refl w g, hok.set d _ _ ⟨.tup _ _ rfl fun i d x a1 a2 => ?_, .tup _ _ _ fun i d x a1 a2 => ?_⟩, rfl, by simp⟩
     ·simp [execOp, ho, hev, hrun, Sem.run_bind, Result.andThen]
     ·have hlt : j < es.size := by rw [o4]; exact (List.getElem?_eq_some_iff.1 hj).1
      have hej : es[j]? = some es[j] := Array.getElem?_eq_getElem hlt;obtain ⟨_, hbs, _, _⟩ := o6 j key s dv _ hj hej;have hemp : leftOf es seen.toArray = #[] := Array.eq_empty_of_size_eq_zero h0;unfold leftOf at hemp;rw [Array.filter_eq_empty_iff] at hemp;have := hemp es[j] (by simp);rw [← hbs];simpa using this
     ·match i with
      | 0 => simp at a1 a2; subst a1; subst a2; exact .v _ rfl
      | i + 1 => simp at a1
     ·match i with
      | 0 => simp at a1 a2; subst a1; subst a2; exact .flat _ _ _ rfl
      | i + 1 => simp at a1
    ·unfold leftOf at he;simp only [Array.toList_filter, List.mem_filter, Array.mem_toList_iff] at he;obtain ⟨he1, he2⟩ := he;obtain ⟨j, hj, hej⟩ := Array.getElem_of_mem he1;obtain ⟨s, dv, k1, k2, k3, k4⟩ := Lv o4 o6 j e (by rw [Array.getElem?_eq_getElem hj, hej]);have hns : ¬ e.born ∈ seen := by simpa using he2
     have hok1 : Ok w1 g st (aU tmps) := by
      rcases hw1 with rfl | rfl
      ·exact hok
      ·exact hok.drew
     have hfr1 : Fr w g w1 g := by
      rcases hw1 with rfl | rfl
      ·exact Fr.refl _ _
      ·exact Fr.drew w g
     have hb1 : w1.heap[b]? = some (.mapIter (some bm) last seen.toArray last) := by
      rcases hw1 with rfl | rfl <;> exact hb
     obtain ⟨p1, p2⟩ := hok1.stepIt (seen' := seen ++ [s]) (clock := last) hX hb1 hM hbn hv;rw [show (seen ++ [s]).toArray = seen.toArray.push e.born by rw [k2]; simp] at p1 p2;refine ⟨.tuple #[.bool true, e.key, e.val], _, g, _, .inl ?_, hK2 j s e.key dv k1 (by rw [← k2]; exact hns), hfr1.trans p2, p1.set d _ _ ⟨.tup _ _ rfl fun i d x a1 a2 => ?_, .tup _ _ _ fun i d x a1 a2 => ?_⟩, rfl, by simp⟩
     ·simp [execOp, ho, hev, hrun, Sem.run_bind, Result.andThen]
     ·match i with
      | 0 => simp at a1 a2; subst a1; subst a2; exact .v _ rfl
      | 1 => simp at a1 a2; subst a1; exact .any _
      | 2 => simp at a1 a2; subst a1; exact .any _
      | i + 3 => simp at a1
     ·match i with
      | 0 => simp at a1 a2; subst a1; subst a2; exact .flat _ _ _ rfl
      | 1 => simp at a1 a2; subst a1; exact .flat _ _ _ rfl
      | 2 => simp at a1 a2; subst a1; exact .flat _ _ _ rfl
      | i + 3 => simp at a1
  ·exact h.elim
 ·exact h.elim
theorem Cm {o : Oper} {st : St} {K : St → Prop} (x : Operand) (hd : bL o st) (ho : o.op = .entry x) (h : kE o.dst x st K) : Does P o st K := by
 unfold kE at h;split at h
 ·rename_i d t hdst;split at h
  ·rename_i N since seen last henv;obtain ⟨m, i, kd, clock, kvs, seen', s, key, dv, j, ⟨hh, rfl, rfl, hj, hone⟩, hK⟩ := h;refine aP hd fun w g tmps hok => ?_;have hsl := hok.slot t;rw [henv] at hsl;obtain ⟨hR, hO⟩ := hsl;cases hO with
   | flat _ _ _ hf => simp [D.flat] at hf
   | mit _ _ _ _ _ _ hit =>
    obtain ⟨b, bm, hv, hbn, hX, hb, hM⟩ := hit;obtain ⟨bl, es, hv2, o1, o2, o3, o4, o5, o6, o7⟩ := kA hok hh (v := .map (some bm)) (.mref _ _ hbn);simp only [Value.map.injEq, Option.some.injEq] at hv2;subst hv2;have hev : ev tmps (.tmp t) = .pointer (some ⟨b, 0, none⟩) := hv;have hlt : j < es.size := by rw [o4]; exact (List.getElem?_eq_some_iff.1 hj).1
    have hej : es[j]? = some es[j] := Array.getElem?_eq_getElem hlt;obtain ⟨k1, k2, k3, k4⟩ := o6 j key s dv _ hj hej;have hrun := run_entry_at (P := P) w b bm since seen'.toArray es last es[j] (by rw [hb, k2]; simp) o2 (by simp) o5.1.2.1;rw [hdst];refine ⟨.tuple #[es[j].key, es[j].val], w, g, _, .inl ?_, hK, Fr.refl w g, hok.set d _ _ ⟨.tup _ _ rfl fun i d x a1 a2 => ?_, .tup _ _ _ fun i d x a1 a2 => ?_⟩, rfl, by simp⟩
    ·simp [execOp, ho, hev, hrun, Sem.run_bind, Result.andThen]
    ·match i with
     | 0 => simp at a1 a2; subst a1; subst a2; rw [k1]; exact .v _ hone
     | 1 => simp at a1 a2; subst a1; subst a2; exact k3
     | i + 2 => simp at a1
    ·match i with
     | 0 => simp at a1 a2; subst a1; exact .flat _ _ _ rfl
     | 1 => simp at a1 a2; subst a1; subst a2; exact rC k3 k4
     | i + 2 => simp at a1
  ·exact h.elim
 ·exact h.elim
end
end Go.Vm

