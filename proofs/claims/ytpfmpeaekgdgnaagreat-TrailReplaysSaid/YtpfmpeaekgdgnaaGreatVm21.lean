import Derived.Test.YtpfmpeaekgdgnaaGreatVm19
import Derived.Orders
namespace Go.Vm
open Go
set_option linter.all false
section
variable {P : Program}
def sS (acc : List Nat) (after : List Edge) : Nat := after.foldl (fun s e => if Region.binds .any e then s ||| 2 ^ e.on ||| acc.getD e.on 0 else s) 0
def nY : List Oper → List Nat → List Nat
 | [], acc => acc
 | o :: r, acc => nY r (acc ++ [sS acc o.after.toList])
theorem vO (acc : List Nat) : ∀ (after : List Edge) (s i : Nat), (after.foldl (fun s e => if Region.binds .any e then s ||| 2 ^ e.on ||| acc.getD e.on 0 else s) s).testBit i = true → s.testBit i = true ∨ ∃ e ∈ after, Region.binds .any e = true ∧ (e.on = i ∨ (acc.getD e.on 0).testBit i = true)
 | [], s, i, h => .inl h
 | e :: r, s, i, h => by
  simp only [List.foldl_cons] at h;rcases vO acc r _ i h with h1 | ⟨e', he', h1⟩
  ·split at h1
   ·rename_i hb;rw [Nat.testBit_or, Nat.testBit_or, Nat.testBit_two_pow] at h1;simp only [Bool.or_eq_true, decide_eq_true_eq] at h1;rcases h1 with (h1 | h1) | h1
    ·exact .inl h1
    ·exact .inr ⟨e, by simp, hb, .inl h1⟩
    ·exact .inr ⟨e, by simp, hb, .inr h1⟩
   ·exact .inl h1
  ·exact .inr ⟨e', by simp [he'], h1⟩
theorem zG : ∀ (r : List Oper) (acc : List Nat), (nY r acc).take acc.length = acc ∧ (nY r acc).length = acc.length + r.length
 | [], acc => by simp [nY]
 | o :: r, acc => by
  obtain ⟨h1, h2⟩ := zG r (acc ++ [sS acc o.after.toList]);simp only [nY];simp only [List.length_append, List.length_singleton] at h1 h2;refine ⟨?_, by rw [h2]; simp; omega⟩;have := congrArg (List.take acc.length) h1;rw [List.take_take, Nat.min_eq_left (by omega)] at this;rw [this];simp
theorem yN : ∀ (r : List Oper) (acc : List Nat) (k : Nat) (o : Oper), r[k]? = some o → (nY r acc)[acc.length + k]? = some (sS ((nY r acc).take (acc.length + k)) o.after.toList)
 | [], acc, k, o, h => by simp at h
 | o' :: r, acc, 0, o, h => by
  simp at h;subst h;simp only [nY, Nat.add_zero];obtain ⟨h1, h2⟩ := zG r (acc ++ [sS acc o'.after.toList]);simp only [List.length_append, List.length_singleton] at h1;have e1 : (nY r (acc ++ [sS acc o'.after.toList])).take acc.length = acc := by
   have := congrArg (List.take acc.length) h1;rw [List.take_take, Nat.min_eq_left (by omega)] at this;rw [this]; simp
  rw [e1];have := congrArg (fun l => l[acc.length]?) h1;simp only [List.getElem?_take, Nat.lt_succ_self, if_true] at this;rw [this];simp
 | o' :: r, acc, k + 1, o, h => by
  simp only [nY];have := yN r (acc ++ [sS acc o'.after.toList]) k o (by simpa using h);simp only [List.length_append, List.length_singleton] at this;rw [show acc.length + 1 + k = acc.length + (k + 1) by omega] at this;exact this
def iB (ops : List Oper) (i j : Nat) : Bool := ((nY ops []).getD j 0).testBit i
theorem Iw {ops : List Oper} {i j : Nat} {o : Oper} (ho : ops[j]? = some o) (h : iB ops i j = true) : ∃ e ∈ o.after.toList, Region.binds .any e = true ∧ (e.on = i ∨ (e.on < j ∧ iB ops i e.on = true)) := by
 unfold iB at h;have hg := yN ops [] j o ho;simp only [List.length_nil, Nat.zero_add] at hg;rw [List.getD, hg, Option.getD_some] at h;rcases vO _ _ _ _ h with h1 | ⟨e, he, hb, h1⟩
 ·simp at h1
 ·refine ⟨e, he, hb, ?_⟩;rcases h1 with h1 | h1
  ·exact .inl h1
  ·refine .inr ?_;rw [List.getD, List.getElem?_take] at h1;split at h1
   ·rename_i hlt;exact ⟨hlt, h1⟩
   ·simp at h1
structure FP where
 ws : List Nat
 rs : List Nat
 f : Fl
 t : Bool
 a : Bool
def FP.apart (a b : FP) : Bool :=
 a.ws.all (fun t => !b.ws.contains t && !b.rs.contains t) && b.ws.all (fun t => !a.rs.contains t) &&
 !(a.f.wL && (b.f.rL || b.f.wL)) && !(b.f.wL && a.f.rL) && !(a.f.wO && (b.f.rO || b.f.wO)) && !(b.f.wO && a.f.rO && !(a.t && b.a))
def rY (c : Cfg) (ops : List Oper) (o : Oper) (k : DK) : FP := ⟨oU c o.dst o.op k, pK c ops o k, kX k, tI c o.dst o.op k, Lg c o.dst o.op k⟩
def fps (c : Cfg) (ops : List Oper) (ks : List DK) : List FP := (ops.zip ks).map fun p => rY c ops p.1 p.2
def Rh (f : Fl) : Bool := (!f.wL || f.rL) && (!f.wO || f.rO)
def qD (c : Cfg) (ops : List Oper) (ks : List DK) : Bool :=
 ks.length == ops.length && ks.all (fun k => Rh (kX k)) && ops.zipIdx.all (fun p => p.1.after.toList.all fun e => !Region.binds .any e || decide (e.on < p.2)) &&
 (fps c ops ks).zipIdx.all fun q => (fps c ops ks).zipIdx.all fun p => !decide (p.2 < q.2) || iB ops p.2 q.2 || p.1.apart q.1
def gQ (P : Program) (c : Cfg) (all : List Oper) : List Oper → List DK → St → (St → Prop) → Prop
 | [], _, st, K => K st
 | o :: r, k :: ks, st, K => cL o st ∧ match o.guard with
  | none => qM P c o.dst o.op k st fun s => gQ P c all r ks s K
  | some (j, want) => match aT all j with
   | some t => match uB (st.env t) want with
    | some b => (b = want → qM P c o.dst o.op k st fun s => gQ P c all r ks s K) ∧ (b = !want → gQ P c all r ks (st.put o.dst .und) K)
    | none => False
   | none => False
 | _ :: _, [], _, _ => False
inductive Chain (P : Program) (c : Cfg) (all : List Oper) : List Oper → List DK → St → List St → St → Prop
 | nil (ks : List DK) (st : St) : Chain P c all [] ks st [] st
 | cons (o : Oper) (r : List Oper) (k : DK) (ks : List DK) (st s : St) (ss : List St) (e : St) (h : Step P c all o k st s) (hr : Chain P c all r ks s ss e) : Chain P c all (o :: r) (k :: ks) st (s :: ss) e
theorem Om {f : Fl} (h : Rh f = true) : (f.wL = true → f.rL = true) ∧ (f.wO = true → f.rO = true) := by
 obtain ⟨a, b, x, y⟩ := f;simp only [Rh] at h;cases a <;> cases b <;> cases x <;> cases y <;> simp_all
theorem Do {c : Cfg} {all : List Oper} : ∀ (r : List Oper) (ks : List DK) (st : St) (K : St → Prop), (∀ k ∈ ks, Rh (kX k) = true) → gQ P c all r ks st K → ∃ ss e, Chain P c all r ks st ss e ∧ K e
 | [], ks, st, K, _, h => ⟨[], st, .nil ks st, h⟩
 | _ :: _, [], _, _, _, h => h.elim
 | o :: r, k :: ks, st, K, hw, h => by
  obtain ⟨hd, h⟩ := h;have hs : ∃ s, gQ P c all r ks s K ∧ Step P c all o k st s := by
   refine Zj (Om (hw k (by simp))) hd ?_;split at h
   ·rename_i hg; rw [hg]; exact h
   ·rename_i j want hg;rw [hg];split at h
    ·rename_i t ht;split at h
     ·rename_i b hb;exact ⟨t, b, ht, hb, h.1, h.2⟩
     ·exact h.elim
    ·exact h.elim
  obtain ⟨s, h1, h2⟩ := hs;obtain ⟨ss, e, h3, h4⟩ := Do r ks s K (fun k hk => hw k (by simp [hk])) h1;exact ⟨s :: ss, e, .cons o r k ks st s ss e h2 h3, h4⟩
end
end Go.Vm
namespace Go.Vm
open Go
set_option linter.all false
section
variable {P : Program}
theorem St.ext' {a b : St} (h1 : a.n = b.n) (h2 : ∀ t, a.env t = b.env t) (h3 : a.loc = b.loc) (h4 : a.obj = b.obj) : a = b := by
 cases a; cases b;simp only at h1 h3 h4;subst h1; subst h3; subst h4;congr 1;exact funext h2
def U (ds : List Delta) (s : St) (k : Nat) : St := s.upd (ds.getD k ⟨[], none, none⟩)
theorem zR {c : Cfg} {all : List Oper} : ∀ {r : List Oper} {ks : List DK} {st : St} {ss : List St} {e : St}, Chain P c all r ks st ss e → ∃ ds : List Delta, ds.length = r.length ∧ e = ds.foldl St.upd st ∧
  ∀ (k : Nat) (o : Oper) (kk : DK), r[k]? = some o → ks[k]? = some kk → ∃ s, ds[k]? = some (dQ (oU c o.dst o.op kk) (kX kk) s) ∧
   (Lg c o.dst o.op kk = true → ∃ J, s.obj = ((ds.take k).foldl St.upd st).obj ++ J) ∧
   ∀ st', AgreeD (pK c all o kk) (kX kk) (tI c o.dst o.op kk) ((ds.take k).foldl St.upd st) st' → Dz P all o st' (· = st'.upd (dQ (oU c o.dst o.op kk) (kX kk) s)) := by
 intro r ks st ss e h;induction h with
 | nil ks st => exact ⟨[], rfl, rfl, fun k o kk h => by simp at h⟩
 | cons o r k ks st s ss e h hr ih =>
  obtain ⟨ds, h1, h2, h3⟩ := ih;refine ⟨dQ (oU c o.dst o.op k) (kX k) s :: ds, by simp [h1], ?_, fun i o' kk a1 a2 => ?_⟩
  ·simp only [List.foldl_cons, ← h.self];exact h2
  ·match i with
   | 0 =>
    simp at a1 a2;subst a1; subst a2;exact ⟨s, by simp, fun e => by simpa using h.app e, fun st' ha => h.go st' (by simpa using ha)⟩
   | i + 1 =>
    obtain ⟨s', b1, b0, b2⟩ := h3 i o' kk (by simpa using a1) (by simpa using a2);refine ⟨s', by simpa using b1, fun e => by simpa [← h.self] using b0 e, fun st' ha => b2 st' ?_⟩;simp only [List.take_succ_cons, List.foldl_cons, ← h.self] at ha;exact ha
theorem gN (ds : List Delta) (st : St) : ∀ k, k ≤ ds.length → (List.range k).foldl (U ds) st = (ds.take k).foldl St.upd st
 | 0, _ => by simp
 | k + 1, h => by
  rw [List.range_succ, List.foldl_append, gN ds st k (by omega), List.take_succ_eq_append_getElem (by omega), List.foldl_append];simp only [List.foldl_cons, List.foldl_nil, U];congr 1;simp [List.getD, List.getElem?_eq_getElem (show k < ds.length by omega)]
theorem kT (ds : List Delta) (p : Nat → Bool) (t : Nat) (hp : ∀ k, p k = false → ∀ s, (U ds s k).env t = s.env t) (hq : ∀ k, ∀ s s' : St, s.env t = s'.env t → (U ds s k).env t = (U ds s' k).env t) : ∀ (L : List Nat) (s s' : St), s.env t = s'.env t → (L.foldl (U ds) s).env t = ((L.filter p).foldl (U ds) s').env t
 | [], s, s', h => h
 | k :: L, s, s', h => by
  simp only [List.foldl_cons, List.filter_cons];cases hk : p k with
  | true => simp only [if_true, List.foldl_cons]; exact kT ds p t hp hq L _ _ (hq k s s' h)
  | false => simp only [Bool.false_eq_true, if_false]; exact kT ds p t hp hq L _ _ (by rw [hp k hk]; exact h)
theorem kY (ds : List Delta) (p : Nat → Bool) (hp : ∀ k, p k = false → ∀ s, (U ds s k).loc = s.loc) (hq : ∀ k, ∀ s s' : St, s.loc = s'.loc → (U ds s k).loc = (U ds s' k).loc) : ∀ (L : List Nat) (s s' : St), s.loc = s'.loc → (L.foldl (U ds) s).loc = ((L.filter p).foldl (U ds) s').loc
 | [], s, s', h => h
 | k :: L, s, s', h => by
  simp only [List.foldl_cons, List.filter_cons];cases hk : p k with
  | true => simp only [if_true, List.foldl_cons]; exact kY ds p hp hq L _ _ (hq k s s' h)
  | false => simp only [Bool.false_eq_true, if_false]; exact kY ds p hp hq L _ _ (by rw [hp k hk]; exact h)
theorem jV (ds : List Delta) (p : Nat → Bool) (hp : ∀ k, p k = false → ∀ s, (U ds s k).obj = s.obj) (hq : ∀ k, ∀ s s' : St, s.obj = s'.obj → (U ds s k).obj = (U ds s' k).obj) : ∀ (L : List Nat) (s s' : St), s.obj = s'.obj → (L.foldl (U ds) s).obj = ((L.filter p).foldl (U ds) s').obj
 | [], s, s', h => h
 | k :: L, s, s', h => by
  simp only [List.foldl_cons, List.filter_cons];cases hk : p k with
  | true => simp only [if_true, List.foldl_cons]; exact jV ds p hp hq L _ _ (hq k s s' h)
  | false => simp only [Bool.false_eq_true, if_false]; exact jV ds p hp hq L _ _ (by rw [hp k hk]; exact h)
theorem pW (ds : List Delta) : ∀ (L : List Nat) (s : St), (L.foldl (U ds) s).n = s.n
 | [], _ => rfl
 | k :: L, s => by rw [List.foldl_cons, pW ds L]; rfl
theorem kC (n j : Nat) (hj : j ≤ n) (p q : Nat → Bool) (h : ∀ k, k < n → p k = (decide (k < j) && q k)) : (List.range n).filter p = (List.range j).filter q := by
 have e : List.range n = List.range j ++ (List.range (n - j)).map (j + ·) := by
  rw [← List.range_add]; congr 1; omega
 rw [e, List.filter_append];have h1 : (List.range j).filter p = (List.range j).filter q := List.filter_congr fun k hk => by
  rw [List.mem_range] at hk;rw [h k (by omega)];simp [hk]
 have h2 : ((List.range (n - j)).map (j + ·)).filter p = [] := by
  rw [List.filter_eq_nil_iff];intro k hk;obtain ⟨i, hi, rfl⟩ := List.mem_map.1 hk;rw [List.mem_range] at hi;rw [h _ (by omega)];have : ¬ (j + i < j) := by omega
  simp [this]
 rw [h1, h2, List.append_nil]
theorem iV (n j : Nat) (hj : j < n) (p q : Nat → Bool) (h : ∀ k, k < n → p k = ((decide (k < j) && q k) || decide (k = j))) : (List.range n).filter p = (List.range j).filter q ++ [j] := by
 have : (List.range n).filter p = (List.range (j + 1)).filter p := kC n (j + 1) hj p p fun k hk => by
  rw [h k hk];by_cases h1 : k < j
  ·simp [h1, show k < j + 1 by omega]
  ·by_cases h2 : k = j
   ·simp [h2]
   ·simp [h1, h2]
 rw [this, List.range_succ, List.filter_append];congr 1
 ·exact List.filter_congr fun k hk => by
   rw [List.mem_range] at hk;rw [h k (by omega)];simp [hk, show ¬ k = j by omega]
 ·simp [h j hj]
structure DrawFacts (P : Program) (c : Cfg) (ops : List Oper) (ks : List DK) (st : St) (ds : List Delta) : Prop where
 len : ks.length = ops.length
 dlen : ds.length = ops.length
 edge : ∀ (k : Nat) (o : Oper), ops[k]? = some o → ∀ e ∈ o.after.toList, Region.binds .any e = true → e.on < k
 apart : ∀ (i j : Nat) (oi oj : Oper) (ki kj : DK), ops[i]? = some oi → ks[i]? = some ki → ops[j]? = some oj → ks[j]? = some kj → i < j → iB ops i j = false → (rY c ops oi ki).apart (rY c ops oj kj) = true
 step : ∀ (k : Nat) (o : Oper) (kk : DK), ops[k]? = some o → ks[k]? = some kk → ∃ s, ds[k]? = some (dQ (oU c o.dst o.op kk) (kX kk) s) ∧
   (Lg c o.dst o.op kk = true → ∃ J, s.obj = ((ds.take k).foldl St.upd st).obj ++ J) ∧
   ∀ st', AgreeD (pK c ops o kk) (kX kk) (tI c o.dst o.op kk) ((ds.take k).foldl St.upd st) st' → Dz P ops o st' (· = st'.upd (dQ (oU c o.dst o.op kk) (kX kk) s))
theorem zX {c : Cfg} {ops : List Oper} {ks : List DK} {i : Nat} {o : Oper} {k : DK} (ho : ops[i]? = some o) (hk : ks[i]? = some k) : (fps c ops ks)[i]? = some (rY c ops o k) := by
 simp only [fps, List.getElem?_map, Option.map_eq_some_iff];exact ⟨(o, k), List.getElem?_zip_eq_some.2 ⟨ho, hk⟩, rfl⟩
theorem Rg {c : Cfg} {ops : List Oper} {ks : List DK} {st e : St} {ss : List St} (hok : qD c ops ks = true) (hc : Chain P c ops ops ks st ss e) : ∃ ds, DrawFacts P c ops ks st ds ∧ e = ds.foldl St.upd st := by
 obtain ⟨ds, h1, h2, h3⟩ := zR hc;unfold qD at hok;simp only [Bool.and_eq_true] at hok;obtain ⟨⟨⟨g1, g2⟩, g3⟩, g4⟩ := hok;refine ⟨ds, ⟨by simpa using g1, h1, fun k o ho e he hb => ?_, fun i j oi oj ki kj a1 a2 a3 a4 hij hw => ?_, h3⟩, h2⟩
 ·rw [List.all_eq_true] at g3;have hm : (o, k) ∈ ops.zipIdx := List.mem_iff_getElem?.2 ⟨k, by simp [ho]⟩;have := g3 _ hm;rw [List.all_eq_true] at this;have := this e he;simpa [hb] using this
 ·rw [List.all_eq_true] at g4;have hmj : (rY c ops oj kj, j) ∈ (fps c ops ks).zipIdx := List.mem_iff_getElem?.2 ⟨j, by simp [zX a3 a4]⟩;have hmi : (rY c ops oi ki, i) ∈ (fps c ops ks).zipIdx := List.mem_iff_getElem?.2 ⟨i, by simp [zX a1 a2]⟩;have := g4 _ hmj;rw [List.all_eq_true] at this;have := this _ hmi;simpa [hij, hw] using this
theorem eA {a b : FP} (h : a.apart b = true) : (∀ t, t ∈ a.ws → t ∉ b.ws ∧ t ∉ b.rs) ∧ (∀ t, t ∈ b.ws → t ∉ a.rs) ∧ (a.f.wL = true → b.f.rL = false ∧ b.f.wL = false) ∧ (b.f.wL = true → a.f.rL = false) ∧ (a.f.wO = true → b.f.rO = false ∧ b.f.wO = false) ∧ (b.f.wO = true → a.f.rO = false ∨ (a.t = true ∧ b.a = true)) := by
 unfold FP.apart at h;simp only [Bool.and_eq_true, List.all_eq_true, Bool.not_eq_true', Bool.and_eq_false_iff, Bool.or_eq_false_iff] at h;obtain ⟨⟨⟨⟨⟨h1, h2⟩, h3⟩, h4⟩, h5⟩, h6⟩ := h;refine ⟨fun t ht => ?_, fun t ht => ?_, fun hw => ?_, fun hw => ?_, fun hw => ?_, fun hw => ?_⟩
 ·have := h1 t ht; simpa using this
 ·have := h2 t ht; simpa using this
 ·rcases h3 with h | h
  ·rw [hw] at h; cases h
  ·exact h
 ·rcases h4 with h | h
  ·rw [hw] at h; cases h
  ·exact h
 ·rcases h5 with h | h
  ·rw [hw] at h; cases h
  ·exact h
 ·rcases h6 with (h | h) | h
  ·rw [hw] at h; cases h
  ·exact .inl h
  ·exact .inr (by simpa using h)
section
variable {c : Cfg} {ops : List Oper} {ks : List DK} {st : St} {ds : List Delta}
def iG (st : St) (ds : List Delta) (n : Nat) (E : Nat → Bool) : St := ((List.range n).filter E).foldl (U ds) st
def dU (c : Cfg) (ops : List Oper) (ks : List DK) (k : Nat) : FP := ((fps c ops ks)[k]?).getD ⟨[], [], ⟨false, false, false, false⟩, false, false⟩
theorem DrawFacts.at (h : DrawFacts P c ops ks st ds) {k : Nat} (hk : k < ops.length) : ∃ o kk s, ops[k]? = some o ∧ ks[k]? = some kk ∧ dU c ops ks k = rY c ops o kk ∧ ds[k]? = some (dQ (oU c o.dst o.op kk) (kX kk) s) ∧
  (Lg c o.dst o.op kk = true → ∃ J, s.obj = ((ds.take k).foldl St.upd st).obj ++ J) ∧
  ∀ st', AgreeD (pK c ops o kk) (kX kk) (tI c o.dst o.op kk) ((ds.take k).foldl St.upd st) st' → Dz P ops o st' (· = st'.upd (dQ (oU c o.dst o.op kk) (kX kk) s)) := by
 have ho : ops[k]? = some ops[k] := List.getElem?_eq_getElem hk;have hk2 : k < ks.length := by rw [h.len]; exact hk
 have hkk : ks[k]? = some ks[k] := List.getElem?_eq_getElem hk2;obtain ⟨s, h1, h0, h2⟩ := h.step k _ _ ho hkk;exact ⟨_, _, s, ho, hkk, by simp [dU, zX ho hkk], h1, h0, h2⟩
theorem DrawFacts.sep (h : DrawFacts P c ops ks st ds) {i j : Nat} (hij : i < j) (hj : j < ops.length) (hw : iB ops i j = false) : (dU c ops ks i).apart (dU c ops ks j) = true := by
 obtain ⟨oi, ki, _, a1, a2, a3, _⟩ := h.at (show i < ops.length by omega);obtain ⟨oj, kj, _, b1, b2, b3, _⟩ := h.at hj;rw [a3, b3];exact h.apart i j oi oj ki kj a1 a2 b1 b2 hij hw
theorem DrawFacts.env (h : DrawFacts P c ops ks st ds) (t k : Nat) : ((dU c ops ks k).ws.contains t = false → ∀ s, (U ds s k).env t = s.env t) ∧ (∀ s s' : St, s.env t = s'.env t → (U ds s k).env t = (U ds s' k).env t) := by
 by_cases hk : k < ops.length
 ·obtain ⟨o, kk, s0, a1, a2, a3, a4, _⟩ := h.at hk;have e : ∀ s : St, (U ds s k).env t = if t ∈ oU c o.dst o.op kk then s0.env t else s.env t := fun s => by
   simp only [U, List.getD, a4, Option.getD_some];exact lO _ _ _ _ _
  refine ⟨fun hc s => ?_, fun s s' hs => ?_⟩
  ·rw [a3] at hc;have : t ∉ oU c o.dst o.op kk := by simpa [rY] using hc
   rw [e, if_neg this]
  ·rw [e, e, hs]
 ·have : ∀ s : St, U ds s k = s := fun s => by
   simp only [U, List.getD, List.getElem?_eq_none (show ds.length ≤ k by rw [h.dlen]; omega), Option.getD_none];rfl
  exact ⟨fun _ s => by rw [this], fun s s' hs => by rw [this, this]; exact hs⟩
theorem DrawFacts.loc (h : DrawFacts P c ops ks st ds) (k : Nat) : ((dU c ops ks k).f.wL = false → ∀ s, (U ds s k).loc = s.loc) ∧ (∀ s s' : St, s.loc = s'.loc → (U ds s k).loc = (U ds s' k).loc) := by
 by_cases hk : k < ops.length
 ·obtain ⟨o, kk, s0, a1, a2, a3, a4, _⟩ := h.at hk;have e : ∀ s : St, (U ds s k).loc = if (kX kk).wL then s0.loc else s.loc := fun s => by
   simp only [U, List.getD, a4, Option.getD_some, St.upd, dQ];split <;> rfl
  refine ⟨fun hc s => ?_, fun s s' hs => ?_⟩
  ·rw [a3] at hc;rw [e, if_neg (by simpa [rY] using hc)]
  ·rw [e, e, hs]
 ·have : ∀ s : St, U ds s k = s := fun s => by
   simp only [U, List.getD, List.getElem?_eq_none (show ds.length ≤ k by rw [h.dlen]; omega), Option.getD_none];rfl
  exact ⟨fun _ s => by rw [this], fun s s' hs => by rw [this, this]; exact hs⟩
theorem DrawFacts.obj (h : DrawFacts P c ops ks st ds) (k : Nat) : ((dU c ops ks k).f.wO = false → ∀ s, (U ds s k).obj = s.obj) ∧ (∀ s s' : St, s.obj = s'.obj → (U ds s k).obj = (U ds s' k).obj) := by
 by_cases hk : k < ops.length
 ·obtain ⟨o, kk, s0, a1, a2, a3, a4, _⟩ := h.at hk;have e : ∀ s : St, (U ds s k).obj = if (kX kk).wO then s0.obj else s.obj := fun s => by
   simp only [U, List.getD, a4, Option.getD_some, St.upd, dQ];split <;> rfl
  refine ⟨fun hc s => ?_, fun s s' hs => ?_⟩
  ·rw [a3] at hc;rw [e, if_neg (by simpa [rY] using hc)]
  ·rw [e, e, hs]
 ·have : ∀ s : St, U ds s k = s := fun s => by
   simp only [U, List.getD, List.getElem?_eq_none (show ds.length ≤ k by rw [h.dlen]; omega), Option.getD_none];rfl
  exact ⟨fun _ s => by rw [this], fun s s' hs => by rw [this, this]; exact hs⟩
def oB (ops : List Oper) (E : Nat → Bool) : Prop := ∀ i j, E j = true → iB ops i j = true → E i = true
theorem DrawFacts.seen (h : DrawFacts P c ops ks st ds) {E : Nat → Bool} (hE : oB ops E) {j : Nat} (hj : j < ops.length) (hnj : E j = false) (hready : ∀ i, iB ops i j = true → E i = true) (q : Nat → Bool)
  (hq : ∀ k, k < ops.length → k ≠ j → q k = true → (k < j → (dU c ops ks k).apart (dU c ops ks j) = false) ∧ (j < k → (dU c ops ks j).apart (dU c ops ks k) = false)) :
  ∀ k, k < ops.length → (E k && q k) = (decide (k < j) && q k) := by
 intro k hk;cases hqk : q k with
 | false => simp
 | true =>
  simp only [Bool.and_true];by_cases hkj : k = j
  ·subst hkj; simp [hnj]
  ·obtain ⟨h1, h2⟩ := hq k hk hkj hqk;by_cases hlt : k < j
   ·have : iB ops k j = true := by
     cases hw : iB ops k j with
     | true => rfl
     | false => have := h.sep hlt hj hw; rw [h1 hlt] at this; cases this
    simp [hlt, hready k this]
   ·have hgt : j < k := by omega
    have hw : iB ops j k = true := by
     cases hw : iB ops j k with
     | true => rfl
     | false => have := h.sep hgt hk hw; rw [h2 hgt] at this; cases this
    cases hek : E k with
    | false => simp [hlt]
    | true => have := hE j k hek hw; rw [hnj] at this; cases this
theorem gD {a b : FP} (h : ¬ (a.apart b = true)) : a.apart b = false := by simpa using h
theorem DrawFacts.env_seen (h : DrawFacts P c ops ks st ds) {E : Nat → Bool} (hE : oB ops E) {j : Nat} (hj : j < ops.length) (hnj : E j = false) (hready : ∀ i, iB ops i j = true → E i = true) {t : Nat} (ht : t ∈ (dU c ops ks j).rs) (hws : t ∈ (dU c ops ks j).ws → t ∈ (dU c ops ks j).rs) :
  ∀ k, k < ops.length → (E k && (dU c ops ks k).ws.contains t) = (decide (k < j) && (dU c ops ks k).ws.contains t) := by
 refine h.seen hE hj hnj hready (fun k => (dU c ops ks k).ws.contains t) fun k hk hkj hq => ?_;have hm : t ∈ (dU c ops ks k).ws := by simpa using hq
 refine ⟨fun _ => gD fun ha => ?_, fun _ => gD fun ha => ?_⟩
 ·exact ((eA ha).1 t hm).2 ht
 ·exact (eA ha).2.1 t hm ht
theorem DrawFacts.obj_pre (h : DrawFacts P c ops ks st ds) {E : Nat → Bool} (hE : oB ops E) {j : Nat} (hj : j < ops.length) (hnj : E j = false) (hready : ∀ i, iB ops i j = true → E i = true) (hl : (dU c ops ks j).f.rO = true) : ∃ J, (iG st ds ops.length E).obj = ((ds.take j).foldl St.upd st).obj ++ J := by
 have hdl := h.dlen
 let W : Nat → Bool := fun k => (dU c ops ks k).f.wO
 have fold : ∀ (L : List Nat), (L.foldl (U ds) st).obj = ((L.filter W).foldl (U ds) st).obj := fun L => jV ds W (fun k => (h.obj k).1) (fun k => (h.obj k).2) L st st rfl
 -- who writes and iB for nobody outside E
 have below : ∀ m, m < ops.length → (m = j ∨ (E m = true ∧ W m = true)) → ∀ k, k < m → W k = true → E k = true := by
  intro m hm hc k hk hw;rcases hc with rfl | ⟨he, hwm⟩
  ·cases hwt : iB ops k m with
   | true => exact hready k hwt
   | false => have := ((eA (h.sep hk hm hwt)).2.2.2.2.1 hw).1; rw [hl] at this; cases this
  ·cases hwt : iB ops k m with
   | true => exact hE k m he hwt
   | false => have := ((eA (h.sep hk hm hwt)).2.2.2.2.1 hw).2; rw [show (dU c ops ks m).f.wO = true from hwm] at this; cases this
 have chain : ∀ m, m < ops.length → (m = j ∨ (E m = true ∧ W m = true)) → (((List.range m).filter E).foldl (U ds) st).obj = ((ds.take m).foldl St.upd st).obj := by
  intro m hm hc;rw [← gN ds st m (by omega), fold, fold (List.range m), List.filter_filter];congr 2;refine List.filter_congr fun k hk => ?_;rw [List.mem_range] at hk;cases hw : W k with
  | false => simp
  | true => simp [below m hm hc k hk hw]
 have go : ∀ n, j + n ≤ ops.length → ∃ J, (((List.range (j + n)).filter E).foldl (U ds) st).obj = ((ds.take j).foldl St.upd st).obj ++ J := by
  intro n;induction n with
  | zero => intro _; exact ⟨[], by rw [Nat.add_zero, chain j hj (.inl rfl), List.append_nil]⟩
  | succ n ih =>
   intro hn;obtain ⟨J, hJ⟩ := ih (by omega);rw [show j + (n + 1) = j + n + 1 by omega, List.range_succ, List.filter_append, List.foldl_append];cases he : E (j + n) with
   | false => simp only [List.filter_cons, he, List.filter_nil, List.foldl_nil]; exact ⟨J, hJ⟩
   | true =>
    simp only [List.filter_cons, he, List.filter_nil, if_true, List.foldl_cons, List.foldl_nil];have hne : n ≠ 0 := by rintro rfl; rw [Nat.add_zero, hnj] at he; cases he
    cases hw : W (j + n) with
    | false => rw [(h.obj (j + n)).1 hw]; exact ⟨J, hJ⟩
    | true =>
     have hap : (dU c ops ks j).apart (dU c ops ks (j + n)) = true := by
      cases hwt : iB ops j (j + n) with
      | true => have := hE j (j + n) he hwt; rw [hnj] at this; cases this
      | false => exact h.sep (by omega) (by omega) hwt
     have ha : (dU c ops ks (j + n)).a = true := by
      rcases (eA hap).2.2.2.2.2 hw with e | e
      ·rw [hl] at e; cases e
      ·exact e.2
     obtain ⟨o, kk, s0, a1, a2, a3, a4, a0, _⟩ := h.at (show j + n < ops.length by omega);rw [a3] at ha;obtain ⟨J', hJ'⟩ := a0 ha;have hwk : (kX kk).wO = true := by have := hw; simp only [W, a3, rY] at this; exact this
     have e : ∀ s : St, (U ds s (j + n)).obj = s0.obj := fun s => by
      simp only [U, List.getD, a4, Option.getD_some, St.upd, dQ, hwk, if_true]
     rw [e, hJ', ← chain (j + n) (by omega) (.inr ⟨he, hw⟩), hJ];exact ⟨J ++ J', by rw [List.append_assoc]⟩
 obtain ⟨J, hJ⟩ := go (ops.length - j) (by omega);rw [show j + (ops.length - j) = ops.length by omega] at hJ;exact ⟨J, hJ⟩
theorem DrawFacts.agree (h : DrawFacts P c ops ks st ds) {E : Nat → Bool} (hE : oB ops E) {j : Nat} (hj : j < ops.length) (hnj : E j = false) (hready : ∀ i, iB ops i j = true → E i = true) : AgreeD (dU c ops ks j).rs (dU c ops ks j).f (dU c ops ks j).t ((ds.take j).foldl St.upd st) (iG st ds ops.length E) := by
 have hdl := h.dlen;refine ⟨?_, fun t ht => ?_, fun hl => ?_, fun hl => ?_⟩
 ·rw [← gN ds st j (by omega)];unfold iG;rw [pW, pW]
 ·rw [← gN ds st j (by omega)];unfold iG;rw [kT ds (fun k => (dU c ops ks k).ws.contains t) t (fun k => (h.env t k).1) (fun k => (h.env t k).2) ((List.range ops.length).filter E) st st rfl,
   kT ds (fun k => (dU c ops ks k).ws.contains t) t (fun k => (h.env t k).1) (fun k => (h.env t k).2) (List.range j) st st rfl, List.filter_filter]
  rw [kC ops.length j (by omega) _ (fun k => (dU c ops ks k).ws.contains t)];intro k hk;rw [Bool.and_comm];exact h.env_seen hE hj hnj hready ht (fun _ => ht) k hk
 ·rw [← gN ds st j (by omega)];unfold iG;rw [kY ds (fun k => (dU c ops ks k).f.wL) (fun k => (h.loc k).1) (fun k => (h.loc k).2) ((List.range ops.length).filter E) st st rfl,
   kY ds (fun k => (dU c ops ks k).f.wL) (fun k => (h.loc k).1) (fun k => (h.loc k).2) (List.range j) st st rfl, List.filter_filter]
  rw [kC ops.length j (by omega) _ (fun k => (dU c ops ks k).f.wL)];intro k hk;rw [Bool.and_comm];refine h.seen hE hj hnj hready (fun k => (dU c ops ks k).f.wL) (fun k hk hkj hq => ⟨fun _ => gD fun ha => ?_, fun _ => gD fun ha => ?_⟩) k hk
  ·have := ((eA ha).2.2.1 hq).1; rw [hl] at this; cases this
  ·have := (eA ha).2.2.2.1 hq; rw [hl] at this; cases this
 ·refine ⟨fun ht => ?_, h.obj_pre hE hj hnj hready hl⟩;rw [← gN ds st j (by omega)];unfold iG;rw [jV ds (fun k => (dU c ops ks k).f.wO) (fun k => (h.obj k).1) (fun k => (h.obj k).2) ((List.range ops.length).filter E) st st rfl,
   jV ds (fun k => (dU c ops ks k).f.wO) (fun k => (h.obj k).1) (fun k => (h.obj k).2) (List.range j) st st rfl, List.filter_filter]
  rw [kC ops.length j (by omega) _ (fun k => (dU c ops ks k).f.wO)];intro k hk;rw [Bool.and_comm];refine h.seen hE hj hnj hready (fun k => (dU c ops ks k).f.wO) (fun k hk hkj hq => ⟨fun _ => gD fun ha => ?_, fun _ => gD fun ha => ?_⟩) k hk
  ·have := ((eA ha).2.2.2.2.1 hq).1; rw [hl] at this; cases this
  ·rcases (eA ha).2.2.2.2.2 hq with this | ⟨this, _⟩
   ·rw [hl] at this; cases this
   ·rw [ht] at this; cases this
theorem DrawFacts.next (h : DrawFacts P c ops ks st ds) {E : Nat → Bool} (hE : oB ops E) {j : Nat} (hj : j < ops.length) (hnj : E j = false) (hready : ∀ i, iB ops i j = true → E i = true) :
  iG st ds ops.length (fun k => E k || decide (k = j)) = U ds (iG st ds ops.length E) j := by
 obtain ⟨o, kk, s0, a1, a2, a3, a4, _, a5⟩ := h.at hj;have hwsrs : ∀ t, t ∈ (dU c ops ks j).ws → t ∈ (dU c ops ks j).rs := fun t ht => by
  rw [a3] at ht ⊢;simp only [rY, pK] at ht ⊢;simp [ht]
 have eU : ∀ s : St, U ds s j = s.upd (dQ (oU c o.dst o.op kk) (kX kk) s0) := fun s => by simp only [U, List.getD, a4, Option.getD_some]
 refine St.ext' ?_ (fun t => ?_) ?_ ?_
 ·rw [eU]; unfold iG; rw [pW]; show _ = ((List.range ops.length).filter E |>.foldl (U ds) st).n; rw [pW]
 ·by_cases ht : t ∈ (dU c ops ks j).ws
  ·have lhs : (iG st ds ops.length (fun k => E k || decide (k = j))).env t = s0.env t := by
    unfold iG;rw [kT ds (fun k => (dU c ops ks k).ws.contains t) t (fun k => (h.env t k).1) (fun k => (h.env t k).2) _ st st rfl, List.filter_filter];rw [iV ops.length j hj _ (fun k => (dU c ops ks k).ws.contains t)]
    ·rw [List.foldl_append, List.foldl_cons, List.foldl_nil, eU, lO];rw [a3] at ht;exact if_pos ht
    ·intro k hk;have hs := h.env_seen hE hj hnj hready (hwsrs t ht) (hwsrs t) k hk;by_cases hkj : k = j
     ·subst hkj;simp [ht]
     ·simp only [hkj, decide_false, Bool.or_false];rw [Bool.and_comm];exact hs
   rw [lhs, eU, lO];rw [a3] at ht;exact (if_pos ht).symm
  ·have hc : (dU c ops ks j).ws.contains t = false := by simpa using ht
   rw [(h.env t j).1 hc];unfold iG;rw [kT ds (fun k => (dU c ops ks k).ws.contains t) t (fun k => (h.env t k).1) (fun k => (h.env t k).2) ((List.range ops.length).filter E) st st rfl,
    kT ds (fun k => (dU c ops ks k).ws.contains t) t (fun k => (h.env t k).1) (fun k => (h.env t k).2) _ st st rfl, List.filter_filter, List.filter_filter]
   congr 2;refine List.filter_congr fun k _ => ?_;by_cases hkj : k = j
   ·subst hkj; simp [ht]
   ·simp [hkj]
 ·cases hl : (dU c ops ks j).f.wL with
  | true =>
   have lhs : (iG st ds ops.length (fun k => E k || decide (k = j))).loc = (U ds ((List.range j).filter (fun k => (dU c ops ks k).f.wL) |>.foldl (U ds) st) j).loc := by
    unfold iG;rw [kY ds (fun k => (dU c ops ks k).f.wL) (fun k => (h.loc k).1) (fun k => (h.loc k).2) _ st st rfl, List.filter_filter];rw [iV ops.length j hj _ (fun k => (dU c ops ks k).f.wL)]
    ·rw [List.foldl_append, List.foldl_cons, List.foldl_nil]
    ·intro k hk;by_cases hkj : k = j
     ·subst hkj; simp [hl]
     ·simp only [hkj, decide_false, Bool.or_false];rw [Bool.and_comm];refine h.seen hE hj hnj hready (fun k => (dU c ops ks k).f.wL) (fun k hk hkj hq => ⟨fun _ => gD fun ha => ?_, fun _ => gD fun ha => ?_⟩) k hk
      ·have := ((eA ha).2.2.1 hq).2; rw [hl] at this; cases this
      ·have := ((eA ha).2.2.1 hl).2; rw [hq] at this; cases this
   rw [lhs, eU, eU];rw [a3] at hl;simp only [rY] at hl;simp [St.upd, dQ, hl]
  | false =>
   rw [(h.loc j).1 hl];unfold iG;rw [kY ds (fun k => (dU c ops ks k).f.wL) (fun k => (h.loc k).1) (fun k => (h.loc k).2) ((List.range ops.length).filter E) st st rfl,
    kY ds (fun k => (dU c ops ks k).f.wL) (fun k => (h.loc k).1) (fun k => (h.loc k).2) _ st st rfl, List.filter_filter, List.filter_filter]
   congr 2;refine List.filter_congr fun k _ => ?_;by_cases hkj : k = j
   ·subst hkj; simp [hl]
   ·simp [hkj]
 ·cases hl : (dU c ops ks j).f.wO with
  | true =>
   have lhs : (iG st ds ops.length (fun k => E k || decide (k = j))).obj = (U ds ((List.range j).filter (fun k => (dU c ops ks k).f.wO) |>.foldl (U ds) st) j).obj := by
    unfold iG;rw [jV ds (fun k => (dU c ops ks k).f.wO) (fun k => (h.obj k).1) (fun k => (h.obj k).2) _ st st rfl, List.filter_filter];rw [iV ops.length j hj _ (fun k => (dU c ops ks k).f.wO)]
    ·rw [List.foldl_append, List.foldl_cons, List.foldl_nil]
    ·intro k hk;by_cases hkj : k = j
     ·subst hkj; simp [hl]
     ·simp only [hkj, decide_false, Bool.or_false];rw [Bool.and_comm];refine h.seen hE hj hnj hready (fun k => (dU c ops ks k).f.wO) (fun k hk hkj hq => ⟨fun _ => gD fun ha => ?_, fun _ => gD fun ha => ?_⟩) k hk
      ·have := ((eA ha).2.2.2.2.1 hq).2; rw [hl] at this; cases this
      ·have := ((eA ha).2.2.2.2.1 hl).2; rw [hq] at this; cases this
   rw [lhs, eU, eU];rw [a3] at hl;simp only [rY] at hl;simp [St.upd, dQ, hl]
  | false =>
   rw [(h.obj j).1 hl];unfold iG;rw [jV ds (fun k => (dU c ops ks k).f.wO) (fun k => (h.obj k).1) (fun k => (h.obj k).2) ((List.range ops.length).filter E) st st rfl,
    jV ds (fun k => (dU c ops ks k).f.wO) (fun k => (h.obj k).1) (fun k => (h.obj k).2) _ st st rfl, List.filter_filter, List.filter_filter]
   congr 2;refine List.filter_congr fun k _ => ?_;by_cases hkj : k = j
   ·subst hkj; simp [hl]
   ·simp [hkj]
theorem oV {ops : List Oper} {listed : Array Bool} {i : Nat} : i ∈ Region.ready .any ops.toArray listed ↔ ∃ o, ops[i]? = some o ∧ listed.getD i true = false ∧ ∀ e ∈ o.after.toList, Region.binds .any e = true → listed.getD e.on false = true := by
 unfold Region.ready;simp only [List.mem_filter, List.mem_range, List.size_toArray, Bool.and_eq_true, Bool.not_eq_true', List.getElem?_toArray];constructor
 ·rintro ⟨h1, h2, h3⟩;rw [List.getElem?_eq_getElem h1] at h3;simp only [Option.map_some, Option.getD_some] at h3;refine ⟨_, List.getElem?_eq_getElem h1, h2, fun e he hb => ?_⟩;rw [Array.all_eq_true'] at h3;have := h3 e (by simpa using he);simpa [hb] using this
 ·rintro ⟨o, h1, h2, h3⟩;refine ⟨(List.getElem?_eq_some_iff.1 h1).1, h2, ?_⟩;rw [h1];simp only [Option.map_some, Option.getD_some];rw [Array.all_eq_true'];intro e he;cases hb : Region.binds .any e with
  | false => simp
  | true => simp [h3 e (by simpa using he) hb]
theorem Be (h : DrawFacts P c ops ks st ds) {listed : Array Bool} (hE : oB ops (fun k => listed.getD k false)) {j : Nat} {o : Oper} (ho : ops[j]? = some o) (hr : ∀ e ∈ o.after.toList, Region.binds .any e = true → listed.getD e.on false = true) : ∀ i, iB ops i j = true → listed.getD i false = true := by
 intro i hw;obtain ⟨e, he, hb, h1⟩ := Iw ho hw;rcases h1 with rfl | ⟨_, h1⟩
 ·exact hr e he hb
 ·exact hE i e.on (hr e he hb) h1
theorem Ui (h : DrawFacts P c ops ks st ds) {w0 : World} {g0 : Gh} {Q : Exit → St → Prop} (hQ : Q .normal (ds.foldl St.upd st)) : ∀ (fuel : Nat) (listed : Array Bool) (w : World) (g : Gh) (tmps : Array Value), listed.size = ops.length → oB ops (fun k => listed.getD k false) →
  ((List.range ops.length).filter fun k => !listed.getD k false).length = fuel → Fr w0 g0 w g → Ok w g (iG st ds ops.length fun k => listed.getD k false) (bU tmps) → tmps.size = st.n → wpAny P .any ops.toArray (Gr w0 g0 Q) fuel listed ⟨tmps, []⟩ w := by
 have ends : ∀ (listed : Array Bool) (w : World) (g : Gh) (tmps : Array Value), listed.size = ops.length → ((List.range ops.length).filter fun k => !listed.getD k false) = [] → Fr w0 g0 w g → Ok w g (iG st ds ops.length fun k => listed.getD k false) (bU tmps) → tmps.size = st.n → Gr w0 g0 Q .normal ⟨tmps, []⟩ w := by
  intro listed w g tmps hsz hnil hf hok hn;have e : iG st ds ops.length (fun k => listed.getD k false) = ds.foldl St.upd st := by
   unfold iG;have : (List.range ops.length).filter (fun k => listed.getD k false) = List.range ops.length := by
    rw [List.filter_eq_self];intro k hk;rw [List.filter_eq_nil_iff] at hnil;simpa using hnil k hk
   rw [this, gN ds st _ (by rw [h.dlen]; exact Nat.le_refl _), ← h.dlen, List.take_length]
  rw [e] at hok;refine ⟨rfl, _, g, hQ, hf, hok, ?_⟩;have : ∀ (l : List Delta) (s : St), (l.foldl St.upd s).n = s.n := by
   intro l;induction l with
   | nil => intro s; rfl
   | cons d l ih => intro s; rw [List.foldl_cons, ih]; rfl
  rw [this]; exact hn
 intro fuel;induction fuel with
 | zero =>
  intro listed w g tmps hsz hE hc hf hok hn;have hnil := List.eq_nil_of_length_eq_zero hc;refine ⟨?_, ends listed w g tmps hsz hnil hf hok hn⟩;rw [List.eq_nil_iff_forall_not_mem];intro i hi;rw [oV] at hi;obtain ⟨o, h1, h2, h3⟩ := hi;have hlt := (List.getElem?_eq_some_iff.1 h1).1;rw [List.filter_eq_nil_iff] at hnil;have := hnil i (by simpa using hlt);have hs : listed[i]? = some listed[i] := Array.getElem?_eq_getElem (by omega);simp [Array.getD_eq_getD_getElem?, hs] at this h2;rw [this] at h2; cases h2
 | succ fuel ih =>
  intro listed w g tmps hsz hE hc hf hok hn;refine ⟨fun hnil => ?_, fun i hi => ?_⟩
  ·-- somebody can always come up
   exfalso;have hne : ((List.range ops.length).filter fun k => !listed.getD k false) ≠ [] := by intro e; rw [e] at hc; simp at hc
   obtain ⟨k, hk⟩ := List.exists_mem_of_ne_nil _ hne;have least : ∀ m k, k ≤ m → k ∈ ((List.range ops.length).filter fun k => !listed.getD k false) → ∃ i, i ∈ Region.ready .any ops.toArray listed := by
    intro m;induction m with
    | zero =>
     intro k hkm hk;have hk0 : k = 0 := by omega
     subst hk0;rw [List.mem_filter, List.mem_range] at hk;have ho := List.getElem?_eq_getElem hk.1;refine ⟨0, oV.2 ⟨_, ho, ?_, fun e he hb => ?_⟩⟩
     ·have hs : listed[0]? = some listed[0] := Array.getElem?_eq_getElem (by omega);have := hk.2;simp [Array.getD_eq_getD_getElem?, hs] at this ⊢;exact this
     ·have := h.edge 0 _ ho e he hb; omega
    | succ m ihm =>
     intro k hkm hk;rw [List.mem_filter, List.mem_range] at hk;have ho := List.getElem?_eq_getElem hk.1;by_cases hall : ∀ e ∈ ops[k].after.toList, Region.binds .any e = true → listed.getD e.on false = true
     ·refine ⟨k, oV.2 ⟨_, ho, ?_, hall⟩⟩;have hs : listed[k]? = some listed[k] := Array.getElem?_eq_getElem (by omega);have := hk.2;simp [Array.getD_eq_getD_getElem?, hs] at this ⊢;exact this
     ·have : ∃ e, e ∈ ops[k].after.toList ∧ Region.binds .any e = true ∧ listed.getD e.on false ≠ true := by
       refine Classical.byContradiction fun hno => hall fun e he hb => Classical.byContradiction fun hn => hno ⟨e, he, hb, hn⟩
      obtain ⟨e, he, hb, hl⟩ := this;have hlt := h.edge k _ ho e he hb;refine ihm e.on (by omega) ?_;rw [List.mem_filter, List.mem_range];exact ⟨by omega, by simpa using hl⟩
   obtain ⟨i, hi⟩ := least k k (Nat.le_refl _) hk;rw [hnil] at hi;cases hi
  ·rw [oV] at hi;obtain ⟨o, h1, h2, h3⟩ := hi;have hlt := (List.getElem?_eq_some_iff.1 h1).1;have hs : listed[i]? = some listed[i] := Array.getElem?_eq_getElem (by omega);have hni : listed.getD i false = false := by simp [Array.getD_eq_getD_getElem?, hs] at h2 ⊢; exact h2
   have hrd := Be h hE h1 h3;obtain ⟨o', kk, s0, a1, a2, a3, a4, _, a5⟩ := h.at hlt;rw [h1] at a1;simp at a1;subst a1;have hag := h.agree hE hlt hni hrd;rw [a3] at hag;have hgo := a5 _ hag w g tmps hok (by rw [hn]; unfold iG; rw [pW]);have hnext := h.next hE hlt hni hrd;have hset : ∀ k, (listed.setIfInBounds i true).getD k false = (listed.getD k false || decide (k = i)) := by
    intro k;simp only [Array.getD_eq_getD_getElem?, Array.getElem?_setIfInBounds];by_cases hk : i = k
    ·subst hk; simp [hsz, hlt]
    ·have : ¬ k = i := fun e => hk e.symm;simp [hk, this]
   have hE' : oB ops (fun k => (listed.setIfInBounds i true).getD k false) := by
    intro a b hb hw;simp only [hset, Bool.or_eq_true, decide_eq_true_eq] at hb ⊢;rcases hb with hb | rfl
    ·exact .inl (hE a b hb hw)
    ·exact .inl (hrd a hw)
   have hcount : ((List.range ops.length).filter fun k => !(listed.setIfInBounds i true).getD k false).length = fuel := by
    have e1 : ((List.range ops.length).filter fun k => !(listed.setIfInBounds i true).getD k false) = ((List.range ops.length).filter fun k => !listed.getD k false).filter (fun k => decide (k ≠ i)) := by
     rw [List.filter_filter];refine List.filter_congr fun k _ => ?_;rw [hset];cases listed.getD k false <;> simp
    rw [e1];have hnd : ((List.range ops.length).filter fun k => !listed.getD k false).Nodup := List.Pairwise.filter _ List.nodup_range;have hmem : i ∈ ((List.range ops.length).filter fun k => !listed.getD k false) := by
     rw [List.mem_filter, List.mem_range];exact ⟨hlt, by simp [hni]⟩
    have : ((List.range ops.length).filter fun k => !listed.getD k false).filter (fun k => decide (k ≠ i)) = ((List.range ops.length).filter fun k => !listed.getD k false).erase i := by
     rw [List.Nodup.erase_eq_filter hnd];refine List.filter_congr fun k _ => ?_;simp [bne];cases hk : decide (k = i) <;> simp_all
    rw [this, List.length_erase_of_mem hmem, hc];rfl
   have hsz' : (listed.setIfInBounds i true).size = ops.length := by rw [Array.size_setIfInBounds]; exact hsz
   have hst : U ds (iG st ds ops.length fun k => listed.getD k false) i = iG st ds ops.length fun k => (listed.setIfInBounds i true).getD k false := by
    rw [← hnext];congr 1;funext k;exact (hset k).symm
   have hUd : U ds (iG st ds ops.length fun k => listed.getD k false) i = (iG st ds ops.length fun k => listed.getD k false).upd (dQ (oU c o.dst o.op kk) (kX kk) s0) := by
    simp only [U, List.getD, a4, Option.getD_some]
   have hnn : ∀ E, (iG st ds ops.length E).n = st.n := fun E => by unfold iG; rw [pW]
   unfold wpOp;simp only [List.getElem?_toArray, h1];split
   ·rename_i hw;left;refine Cy (Oper.wp_mono (fun a w' => ?_) (hgo.1 hw)) fun e a w' hF => hF.elim;rintro ⟨hdf, st', g', rfl, hf', hok', hn'⟩;obtain ⟨tmps', dfs⟩ := a;simp only at hdf;subst hdf;rw [← hUd, hst] at hok' hn';exact ih _ w' g' tmps' hsz' hE' hcount (hf.trans hf') hok' (by rw [hn', hnn])
   ·rename_i hw;obtain ⟨st', g', rfl, hf', hok', hn'⟩ := hgo.2 (by simpa using hw);rw [← hUd, hst] at hok' hn';have hds := kZ ⟨tmps, []⟩ o.dst undef;have hsz2 := oC ⟨tmps, []⟩ o.dst undef;generalize hA : (⟨tmps, []⟩ : Act).put o.dst undef = A at *;obtain ⟨tmps', dfs⟩ := A;simp only at hds hsz2 hok';subst hds;exact ih _ w g' tmps' hsz' hE' hcount (hf.trans hf') hok' (by rw [hsz2]; exact hn)
theorem Qz {c : Cfg} {id : Nat} {ops : List Oper} (ks : List DK) {Q : Exit → St → Prop} {st : St} (hm : P.follows .mixedOrders = true) (hok : qD c ops ks = true) (h : ∀ K : St → Prop, (∀ s, Q .normal s → K s) → gQ P c ops ops ks st K) : fV P (.region id ops.toArray true) Q st := by
 intro w0 g0 w g tmps hf hokk hn;have hwf : ∀ k ∈ ks, Rh (kX k) = true := by
  unfold qD at hok;simp only [Bool.and_eq_true, List.all_eq_true] at hok;exact hok.1.1.2
 obtain ⟨ss, e, hc, hQ⟩ := Do ops ks st (Q .normal) hwf (h _ fun _ h => h);obtain ⟨ds, hfacts, rfl⟩ := Rg hok hc;refine wp_region_any hm ?_;have he0 : (fun k => (Array.replicate ops.length false).getD k false) = fun _ => false := by
  funext k;simp only [Array.getD_eq_getD_getElem?, Array.getElem?_replicate];split <;> rfl
 refine Ui hfacts hQ ops.toArray.size _ w.drew g tmps (by simp) ?_ ?_ (hf.trans (Fr.drew w g)) ?_ hn
 ·intro i j hj;rw [List.size_toArray, he0] at hj;cases hj
 ·rw [List.size_toArray, List.filter_eq_self.2 (fun k _ => by rw [congrFun he0 k]; rfl)];simp
 ·rw [List.size_toArray, he0];have : iG st ds ops.length (fun _ => false) = st := by
   unfold iG;rw [List.filter_eq_nil_iff.2 (fun k _ => by simp)];rfl
  rw [this];exact hokk.drew
end
end
end Go.Vm

