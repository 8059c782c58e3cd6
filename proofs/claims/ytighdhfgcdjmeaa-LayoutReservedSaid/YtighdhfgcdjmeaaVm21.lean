import Derived.Test.YtighdhfgcdjmeaaVm19
import Derived.Orders
namespace Go.Vm
open Go
set_option linter.all false
section
variable {P : Program}
def oL (acc : List Nat) (after : List Edge) : Nat := after.foldl (fun s e => if Region.binds .any e then s ||| 2 ^ e.on ||| acc.getD e.on 0 else s) 0
def kT : List Oper → List Nat → List Nat
 | [], acc => acc
 | o :: r, acc => kT r (acc ++ [oL acc o.after.toList])
theorem sG (acc : List Nat) : ∀ (after : List Edge) (s i : Nat), (after.foldl (fun s e => if Region.binds .any e then s ||| 2 ^ e.on ||| acc.getD e.on 0 else s) s).testBit i = true → s.testBit i = true ∨ ∃ e ∈ after, Region.binds .any e = true ∧ (e.on = i ∨ (acc.getD e.on 0).testBit i = true)
 | [], s, i, h => .inl h
 | e :: r, s, i, h => by
  simp only [List.foldl_cons] at h;rcases sG acc r _ i h with h1 | ⟨e', he', h1⟩
  ·split at h1
   ·rename_i hb;rw [Nat.testBit_or, Nat.testBit_or, Nat.testBit_two_pow] at h1;simp only [Bool.or_eq_true, decide_eq_true_eq] at h1;rcases h1 with (h1 | h1) | h1
    ·exact .inl h1
    ·exact .inr ⟨e, by simp, hb, .inl h1⟩
    ·exact .inr ⟨e, by simp, hb, .inr h1⟩
   ·exact .inl h1
  ·exact .inr ⟨e', by simp [he'], h1⟩
theorem tY : ∀ (r : List Oper) (acc : List Nat), (kT r acc).take acc.length = acc ∧ (kT r acc).length = acc.length + r.length
 | [], acc => by simp [kT]
 | o :: r, acc => by
  obtain ⟨h1, h2⟩ := tY r (acc ++ [oL acc o.after.toList]);simp only [kT];simp only [List.length_append, List.length_singleton] at h1 h2;refine ⟨?_, by rw [h2]; simp; omega⟩;have := congrArg (List.take acc.length) h1;rw [List.take_take, Nat.min_eq_left (by omega)] at this;rw [this];simp
theorem tL : ∀ (r : List Oper) (acc : List Nat) (k : Nat) (o : Oper), r[k]? = some o → (kT r acc)[acc.length + k]? = some (oL ((kT r acc).take (acc.length + k)) o.after.toList)
 | [], acc, k, o, h => by simp at h
 | o' :: r, acc, 0, o, h => by
  simp at h;subst h;simp only [kT, Nat.add_zero];obtain ⟨h1, h2⟩ := tY r (acc ++ [oL acc o'.after.toList]);simp only [List.length_append, List.length_singleton] at h1;have e1 : (kT r (acc ++ [oL acc o'.after.toList])).take acc.length = acc := by
   have := congrArg (List.take acc.length) h1;rw [List.take_take, Nat.min_eq_left (by omega)] at this;rw [this]; simp
  rw [e1];have := congrArg (fun l => l[acc.length]?) h1;simp only [List.getElem?_take, Nat.lt_succ_self, if_true] at this;rw [this];simp
 | o' :: r, acc, k + 1, o, h => by
  simp only [kT];have := tL r (acc ++ [oL acc o'.after.toList]) k o (by simpa using h);simp only [List.length_append, List.length_singleton] at this;rw [show acc.length + 1 + k = acc.length + (k + 1) by omega] at this;exact this
def gQ (ops : List Oper) (i j : Nat) : Bool := ((kT ops []).getD j 0).testBit i
theorem Al {ops : List Oper} {i j : Nat} {o : Oper} (ho : ops[j]? = some o) (h : gQ ops i j = true) : ∃ e ∈ o.after.toList, Region.binds .any e = true ∧ (e.on = i ∨ (e.on < j ∧ gQ ops i e.on = true)) := by
 unfold gQ at h;have hg := tL ops [] j o ho;simp only [List.length_nil, Nat.zero_add] at hg;rw [List.getD, hg, Option.getD_some] at h;rcases sG _ _ _ _ h with h1 | ⟨e, he, hb, h1⟩
 ·simp at h1
 ·refine ⟨e, he, hb, ?_⟩;rcases h1 with h1 | h1
  ·exact .inl h1
  ·refine .inr ?_;rw [List.getD, List.getElem?_take] at h1;split at h1
   ·rename_i hlt;exact ⟨hlt, h1⟩
   ·simp at h1
structure FP where
 ws : List Nat
 rs : List Nat
 f : Fl
 t : Bool
 a : Bool
def FP.apart (a b : FP) : Bool :=
 a.ws.all (fun t => !b.ws.contains t && !b.rs.contains t) && b.ws.all (fun t => !a.rs.contains t) &&
 !(a.f.wL && (b.f.rL || b.f.wL)) && !(b.f.wL && a.f.rL) && !(a.f.wO && (b.f.rO || b.f.wO)) && !(b.f.wO && a.f.rO && !(a.t && b.a))
def nK (c : Cfg) (ops : List Oper) (o : Oper) (k : DK) : FP := ⟨kP c o.dst o.op k, mE c ops o k, gX k, oU c o.dst o.op k, Fi c o.dst o.op k⟩
def Th (c : Cfg) (all ops : List Oper) (ks : List DK) : List FP := (ops.zip ks).map fun p => nK c all p.1 p.2
def Jw (f : Fl) : Bool := (!f.wL || f.rL) && (!f.wO || f.rO)
def cW (π : List Nat) (ops : List Oper) : List Oper := π.filterMap fun i => ops[i]?
def qX : List Nat → Bool
 | [] => true
 | a :: l => !l.contains a && qX l
def qS (c : Cfg) (all : List Oper) (π : List Nat) (ks : List DK) : Bool :=
 ks.length == all.length && ks.all (fun k => Jw (gX k)) && all.zipIdx.all (fun p => p.1.after.toList.all fun e => !Region.binds .any e || decide (e.on < p.2)) && (π.length == all.length && ((List.range all.length).all (fun i => π.contains i) && (qX π && π.all fun i => decide (i < all.length)))) &&
 (Th c all (cW π all) ks).zipIdx.all fun q => (Th c all (cW π all) ks).zipIdx.all fun p => !decide (p.2 < q.2) || gQ all (π.getD p.2 0) (π.getD q.2 0) || p.1.apart q.1
def qU (c : Cfg) (ops : List Oper) (ks : List DK) : Bool := qS c ops (List.range ops.length) ks && ks.all fun k => !k.isNd
def fA (P : Program) (c : Cfg) (all : List Oper) : List Oper → List DK → St → (St → Prop) → Prop
 | [], _, st, K => K st
 | o :: r, k :: ks, st, K => bF o st ∧ match o.guard with
  | none => nB P c o.dst o.op k st fun s => fA P c all r ks s K
  | some (j, want) => match bK all j with
   | some t => match pV (st.env t) want with
    | some b => (b = want → nB P c o.dst o.op k st fun s => fA P c all r ks s K) ∧ (b = !want → fA P c all r ks (st.put o.dst .und) K)
    | none => False
   | none => False
 | _ :: _, [], _, _ => False
inductive Chain (P : Program) (c : Cfg) (all : List Oper) : List Oper → List DK → St → List St → St → Prop
 | nil (ks : List DK) (st : St) : Chain P c all [] ks st [] st
 | cons (o : Oper) (r : List Oper) (k : DK) (ks : List DK) (st s : St) (ss : List St) (e : St) (h : Step P c all o k st s) (hr : Chain P c all r ks s ss e) : Chain P c all (o :: r) (k :: ks) st (s :: ss) e
theorem Fy {f : Fl} (h : Jw f = true) : (f.wL = true → f.rL = true) ∧ (f.wO = true → f.rO = true) := by
 obtain ⟨a, b, x, y⟩ := f;simp only [Jw] at h;cases a <;> cases b <;> cases x <;> cases y <;> simp_all
theorem xY {c : Cfg} {all : List Oper} : ∀ (r : List Oper) (ks : List DK) (st : St) (K : St → Prop), (∀ k ∈ ks, Jw (gX k) = true ∧ k.isNd = false) → fA P c all r ks st K → ∃ ss e, Chain P c all r ks st ss e ∧ K e
 | [], ks, st, K, _, h => ⟨[], st, .nil ks st, h⟩
 | _ :: _, [], _, _, _, h => h.elim
 | o :: r, k :: ks, st, K, hw, h => by
  obtain ⟨hd, h⟩ := h;have hs : ∃ s, fA P c all r ks s K ∧ Step P c all o k st s := by
   refine Pi (hw k (by simp)).2 (Fy (hw k (by simp)).1) hd ?_;split at h
   ·rename_i hg; rw [hg]; exact h
   ·rename_i j want hg;rw [hg];split at h
    ·rename_i t ht;split at h
     ·rename_i b hb;exact ⟨t, b, ht, hb, h.1, h.2⟩
     ·exact h.elim
    ·exact h.elim
  obtain ⟨s, h1, h2⟩ := hs;obtain ⟨ss, e, h3, h4⟩ := xY r ks s K (fun k hk => hw k (by simp [hk])) h1;exact ⟨s :: ss, e, .cons o r k ks st s ss e h2 h3, h4⟩
theorem Chain.append {c : Cfg} {all A B : List Oper} {ka kb : List DK} {st s e : St} {ss tt : List St} (h : Chain P c all A ka st ss s) (hl : ka.length = A.length) (g : Chain P c all B kb s tt e) : Chain P c all (A ++ B) (ka ++ kb) st (ss ++ tt) e := by
 induction h with
 | nil ks st => obtain rfl := List.length_eq_zero_iff.1 hl; exact g
 | cons o r k ks st s ss e' h hr ih => exact .cons o _ k _ st s _ e h (ih (by simpa using hl) g)
end
end Go.Vm
namespace Go.Vm
open Go
set_option linter.all false
section
variable {P : Program}
theorem St.ext' {a b : St} (h1 : a.n = b.n) (h2 : ∀ t, a.env t = b.env t) (h3 : a.loc = b.loc) (h4 : a.obj = b.obj) : a = b := by
 cases a; cases b;simp only at h1 h3 h4;subst h1; subst h3; subst h4;congr 1;exact funext h2
def U (ds : List Delta) (s : St) (k : Nat) : St := s.upd (ds.getD k ⟨[], none, none⟩)
def dl (c : Cfg) : List Oper → List DK → List St → List Delta
 | o :: r, k :: ks, s :: ss => cG (kP c o.dst o.op k) (gX k) s :: dl c r ks ss
 | _, _, _ => []
theorem Chain.len {c : Cfg} {all : List Oper} {r : List Oper} {ks : List DK} {st : St} {ss : List St} {e : St} (h : Chain P c all r ks st ss e) : ss.length = r.length := by
 induction h with
 | nil ks st => rfl
 | cons o r k ks st s ss e h hr ih => simp [ih]
theorem vA {c : Cfg} {all : List Oper} {r : List Oper} {ks : List DK} {st : St} {ss : List St} {e : St} (h : Chain P c all r ks st ss e) : (dl c r ks ss).length = r.length ∧ e = (dl c r ks ss).foldl St.upd st ∧
  ∀ (k : Nat) (o : Oper) (kk : DK), r[k]? = some o → ks[k]? = some kk → ∃ s, (dl c r ks ss)[k]? = some (cG (kP c o.dst o.op kk) (gX kk) s) ∧
   (Fi c o.dst o.op kk = true → ∃ J, s.obj = (((dl c r ks ss).take k).foldl St.upd st).obj ++ J) ∧
   (kk.isNd = false → ∀ st', AgreeD (mE c all o kk) (gX kk) (oU c o.dst o.op kk) (((dl c r ks ss).take k).foldl St.upd st) st' → uK P all o st' (· = st'.upd (cG (kP c o.dst o.op kk) (gX kk) s))) := by
 induction h with
 | nil ks st => exact ⟨by simp [dl], by simp [dl], fun k o kk h => by simp at h⟩
 | cons o r k ks st s ss e h hr ih =>
  obtain ⟨h1, h2, h3⟩ := ih;refine ⟨by simp [dl, h1], ?_, fun i o' kk a1 a2 => ?_⟩
  ·simp only [dl, List.foldl_cons, ← h.self];exact h2
  ·match i with
   | 0 =>
    simp at a1 a2;subst a1; subst a2;exact ⟨s, by simp [dl], fun e => by simpa using h.app e, fun hn st' ha => h.go hn st' (by simpa using ha)⟩
   | i + 1 =>
    obtain ⟨s', b1, b0, b2⟩ := h3 i o' kk (by simpa using a1) (by simpa using a2);refine ⟨s', by simpa [dl] using b1, fun e => by simpa [dl, ← h.self] using b0 e, fun hn st' ha => b2 hn st' ?_⟩;simp only [dl, List.take_succ_cons, List.foldl_cons, ← h.self] at ha;exact ha
theorem eN (ds : List Delta) (st : St) : ∀ k, k ≤ ds.length → (List.range k).foldl (U ds) st = (ds.take k).foldl St.upd st
 | 0, _ => by simp
 | k + 1, h => by
  rw [List.range_succ, List.foldl_append, eN ds st k (by omega), List.take_succ_eq_append_getElem (by omega), List.foldl_append];simp only [List.foldl_cons, List.foldl_nil, U];congr 1;simp [List.getD, List.getElem?_eq_getElem (show k < ds.length by omega)]
theorem hU (ds : List Delta) (p : Nat → Bool) (t : Nat) (hp : ∀ k, p k = false → ∀ s, (U ds s k).env t = s.env t) (hq : ∀ k, ∀ s s' : St, s.env t = s'.env t → (U ds s k).env t = (U ds s' k).env t) : ∀ (L : List Nat) (s s' : St), s.env t = s'.env t → (L.foldl (U ds) s).env t = ((L.filter p).foldl (U ds) s').env t
 | [], s, s', h => h
 | k :: L, s, s', h => by
  simp only [List.foldl_cons, List.filter_cons];cases hk : p k with
  | true => simp only [if_true, List.foldl_cons]; exact hU ds p t hp hq L _ _ (hq k s s' h)
  | false => simp only [Bool.false_eq_true, if_false]; exact hU ds p t hp hq L _ _ (by rw [hp k hk]; exact h)
theorem iF (ds : List Delta) (p : Nat → Bool) (hp : ∀ k, p k = false → ∀ s, (U ds s k).loc = s.loc) (hq : ∀ k, ∀ s s' : St, s.loc = s'.loc → (U ds s k).loc = (U ds s' k).loc) : ∀ (L : List Nat) (s s' : St), s.loc = s'.loc → (L.foldl (U ds) s).loc = ((L.filter p).foldl (U ds) s').loc
 | [], s, s', h => h
 | k :: L, s, s', h => by
  simp only [List.foldl_cons, List.filter_cons];cases hk : p k with
  | true => simp only [if_true, List.foldl_cons]; exact iF ds p hp hq L _ _ (hq k s s' h)
  | false => simp only [Bool.false_eq_true, if_false]; exact iF ds p hp hq L _ _ (by rw [hp k hk]; exact h)
theorem gG (ds : List Delta) (p : Nat → Bool) (hp : ∀ k, p k = false → ∀ s, (U ds s k).obj = s.obj) (hq : ∀ k, ∀ s s' : St, s.obj = s'.obj → (U ds s k).obj = (U ds s' k).obj) : ∀ (L : List Nat) (s s' : St), s.obj = s'.obj → (L.foldl (U ds) s).obj = ((L.filter p).foldl (U ds) s').obj
 | [], s, s', h => h
 | k :: L, s, s', h => by
  simp only [List.foldl_cons, List.filter_cons];cases hk : p k with
  | true => simp only [if_true, List.foldl_cons]; exact gG ds p hp hq L _ _ (hq k s s' h)
  | false => simp only [Bool.false_eq_true, if_false]; exact gG ds p hp hq L _ _ (by rw [hp k hk]; exact h)
theorem oO (ds : List Delta) : ∀ (L : List Nat) (s : St), (L.foldl (U ds) s).n = s.n
 | [], _ => rfl
 | k :: L, s => by rw [List.foldl_cons, oO ds L]; rfl
theorem gT (n j : Nat) (hj : j ≤ n) (p q : Nat → Bool) (h : ∀ k, k < n → p k = (decide (k < j) && q k)) : (List.range n).filter p = (List.range j).filter q := by
 have e : List.range n = List.range j ++ (List.range (n - j)).map (j + ·) := by
  rw [← List.range_add]; congr 1; omega
 rw [e, List.filter_append];have h1 : (List.range j).filter p = (List.range j).filter q := List.filter_congr fun k hk => by
  rw [List.mem_range] at hk;rw [h k (by omega)];simp [hk]
 have h2 : ((List.range (n - j)).map (j + ·)).filter p = [] := by
  rw [List.filter_eq_nil_iff];intro k hk;obtain ⟨i, hi, rfl⟩ := List.mem_map.1 hk;rw [List.mem_range] at hi;rw [h _ (by omega)];have : ¬ (j + i < j) := by omega
  simp [this]
 rw [h1, h2, List.append_nil]
theorem fV (n j : Nat) (hj : j < n) (p q : Nat → Bool) (h : ∀ k, k < n → p k = ((decide (k < j) && q k) || decide (k = j))) : (List.range n).filter p = (List.range j).filter q ++ [j] := by
 have : (List.range n).filter p = (List.range (j + 1)).filter p := gT n (j + 1) hj p p fun k hk => by
  rw [h k hk];by_cases h1 : k < j
  ·simp [h1, show k < j + 1 by omega]
  ·by_cases h2 : k = j
   ·simp [h2]
   ·simp [h1, h2]
 rw [this, List.range_succ, List.filter_append];congr 1
 ·exact List.filter_congr fun k hk => by
   rw [List.mem_range] at hk;rw [h k (by omega)];simp [hk, show ¬ k = j by omega]
 ·simp [h j hj]
structure DrawFacts (P : Program) (c : Cfg) (all : List Oper) (wt : Nat → Nat → Bool) (ops : List Oper) (ks : List DK) (st : St) (ds : List Delta) : Prop where
 len : ks.length = ops.length
 dlen : ds.length = ops.length
 apart : ∀ (i j : Nat) (oi oj : Oper) (ki kj : DK), ops[i]? = some oi → ks[i]? = some ki → ops[j]? = some oj → ks[j]? = some kj → i < j → wt i j = false → (nK c all oi ki).apart (nK c all oj kj) = true
 step : ∀ (k : Nat) (o : Oper) (kk : DK), ops[k]? = some o → ks[k]? = some kk → ∃ s, ds[k]? = some (cG (kP c o.dst o.op kk) (gX kk) s) ∧
   (Fi c o.dst o.op kk = true → ∃ J, s.obj = ((ds.take k).foldl St.upd st).obj ++ J) ∧
   (kk.isNd = false → ∀ st', AgreeD (mE c all o kk) (gX kk) (oU c o.dst o.op kk) ((ds.take k).foldl St.upd st) st' → uK P all o st' (· = st'.upd (cG (kP c o.dst o.op kk) (gX kk) s)))
theorem uR {c : Cfg} {all ops : List Oper} {ks : List DK} {i : Nat} {o : Oper} {k : DK} (ho : ops[i]? = some o) (hk : ks[i]? = some k) : (Th c all ops ks)[i]? = some (nK c all o k) := by
 simp only [Th, List.getElem?_map, Option.map_eq_some_iff];exact ⟨(o, k), List.getElem?_zip_eq_some.2 ⟨ho, hk⟩, rfl⟩
structure Ord (all : List Oper) (π : List Nat) : Prop where
 len : π.length = all.length
 all_ : ∀ i, i < all.length → ∃ p : Nat, p < all.length ∧ π[p]? = some i
 nodup : π.Nodup
 lt_ : ∀ i ∈ π, i < all.length
theorem pY : ∀ {l : List Nat}, qX l = true → l.Nodup
 | [], _ => List.nodup_nil
 | a :: l, h => by
  simp only [qX, Bool.and_eq_true, Bool.not_eq_true'] at h;exact List.nodup_cons.2 ⟨by simpa using h.1, pY h.2⟩
theorem Ord.lt {all : List Oper} {π : List Nat} (h : Ord all π) {p i : Nat} (hp : π[p]? = some i) : i < all.length := h.lt_ i (List.mem_of_getElem? hp)
theorem Ord.of {all : List Oper} {π : List Nat} (h1 : π.length = all.length) (h2 : ∀ i, i < all.length → π.contains i = true) (h3 : qX π = true) (h4 : ∀ i ∈ π, i < all.length) : Ord all π :=
 ⟨h1, fun i hi => by
  obtain ⟨p, hp⟩ := List.mem_iff_getElem?.1 (by simpa using h2 i hi : i ∈ π);exact ⟨p, by have := (List.getElem?_eq_some_iff.1 hp).1; omega, hp⟩, pY h3, h4⟩
theorem pG {all : List Oper} : ∀ {π : List Nat}, (∀ i ∈ π, i < all.length) → (cW π all).length = π.length ∧ ∀ p : Nat, (cW π all)[p]? = (π[p]?).bind (all[·]?)
 | [], _ => ⟨rfl, fun p => by simp [cW]⟩
 | i :: π, h => by
  obtain ⟨h1, h2⟩ := pG (π := π) fun j hj => h j (by simp [hj]);have hlt := h i (by simp);have hi : all[i]? = some all[i] := List.getElem?_eq_getElem hlt;have e : cW (i :: π) all = all[i] :: cW π all := by simp [cW, hi]
  rw [e];refine ⟨by simp [h1], fun p => ?_⟩;cases p with
  | zero => simp [hi]
  | succ p => simp [h2 p]
theorem Ord.get {all : List Oper} {π : List Nat} (h : Ord all π) : (cW π all).length = all.length ∧ ∀ p : Nat, (cW π all)[p]? = (π[p]?).bind (all[·]?) := by
 have := pG (all := all) (π := π) fun i hi => by
  obtain ⟨p, hp⟩ := List.mem_iff_getElem?.1 hi;exact h.lt hp
 exact ⟨by rw [this.1, h.len], this.2⟩
theorem Jg {c : Cfg} {all : List Oper} {π : List Nat} {ks : List DK} {st e : St} {ss : List St} (hok : qS c all π ks = true) (hc : Chain P c all (cW π all) ks st ss e) :
  Ord all π ∧ (∀ (k : Nat) (o : Oper), all[k]? = some o → ∀ e ∈ o.after.toList, Region.binds .any e = true → e.on < k) ∧ DrawFacts P c all (fun i j => gQ all (π.getD i 0) (π.getD j 0)) (cW π all) ks st (dl c (cW π all) ks ss) ∧ e = (dl c (cW π all) ks ss).foldl St.upd st := by
 obtain ⟨h1, h2, h3⟩ := vA hc;unfold qS at hok;simp only [Bool.and_eq_true] at hok;obtain ⟨⟨⟨⟨g1, g2⟩, g3⟩, g0, g5, g6, g7⟩, g4⟩ := hok;have hord : Ord all π := by
  rw [List.all_eq_true] at g5 g7;exact Ord.of (by simpa using g0) (fun i hi => g5 i (List.mem_range.2 hi)) g6 fun i hi => by simpa using g7 i hi
 refine ⟨hord, fun k o ho e he hb => ?_, ⟨by rw [hord.get.1]; simpa using g1, h1, fun i j oi oj ki kj a1 a2 a3 a4 hij hw => ?_, h3⟩, h2⟩
 ·rw [List.all_eq_true] at g3;have hm : (o, k) ∈ all.zipIdx := List.mem_iff_getElem?.2 ⟨k, by simp [ho]⟩;have := g3 _ hm;rw [List.all_eq_true] at this;have := this e he;simpa [hb] using this
 ·rw [List.all_eq_true] at g4;have hmj : (nK c all oj kj, j) ∈ (Th c all (cW π all) ks).zipIdx := List.mem_iff_getElem?.2 ⟨j, by simp [uR a3 a4]⟩;have hmi : (nK c all oi ki, i) ∈ (Th c all (cW π all) ks).zipIdx := List.mem_iff_getElem?.2 ⟨i, by simp [uR a1 a2]⟩;have := g4 _ hmj;rw [List.all_eq_true] at this;have := this _ hmi;have e : (!decide (i < j)) = false := by simp [hij]
  rw [e, Bool.false_or] at this;have hw' : gQ all (π.getD i 0) (π.getD j 0) = false := hw;rw [hw', Bool.false_or] at this;exact this
theorem cQ {a b : FP} (h : a.apart b = true) : (∀ t, t ∈ a.ws → t ∉ b.ws ∧ t ∉ b.rs) ∧ (∀ t, t ∈ b.ws → t ∉ a.rs) ∧ (a.f.wL = true → b.f.rL = false ∧ b.f.wL = false) ∧ (b.f.wL = true → a.f.rL = false) ∧ (a.f.wO = true → b.f.rO = false ∧ b.f.wO = false) ∧ (b.f.wO = true → a.f.rO = false ∨ (a.t = true ∧ b.a = true)) := by
 unfold FP.apart at h;simp only [Bool.and_eq_true, List.all_eq_true, Bool.not_eq_true', Bool.and_eq_false_iff, Bool.or_eq_false_iff] at h;obtain ⟨⟨⟨⟨⟨h1, h2⟩, h3⟩, h4⟩, h5⟩, h6⟩ := h;refine ⟨fun t ht => ?_, fun t ht => ?_, fun hw => ?_, fun hw => ?_, fun hw => ?_, fun hw => ?_⟩
 ·have := h1 t ht; simpa using this
 ·have := h2 t ht; simpa using this
 ·rcases h3 with h | h
  ·rw [hw] at h; cases h
  ·exact h
 ·rcases h4 with h | h
  ·rw [hw] at h; cases h
  ·exact h
 ·rcases h5 with h | h
  ·rw [hw] at h; cases h
  ·exact h
 ·rcases h6 with (h | h) | h
  ·rw [hw] at h; cases h
  ·exact .inl h
  ·exact .inr (by simpa using h)
section
variable {c : Cfg} {all ops : List Oper} {wt : Nat → Nat → Bool} {ks : List DK} {st : St} {ds : List Delta}
def eV (st : St) (ds : List Delta) (n : Nat) (E : Nat → Bool) : St := ((List.range n).filter E).foldl (U ds) st
def cM (c : Cfg) (all ops : List Oper) (ks : List DK) (k : Nat) : FP := ((Th c all ops ks)[k]?).getD ⟨[], [], ⟨false, false, false, false⟩, false, false⟩
theorem DrawFacts.at (h : DrawFacts P c all wt ops ks st ds) {k : Nat} (hk : k < ops.length) : ∃ o kk s, ops[k]? = some o ∧ ks[k]? = some kk ∧ cM c all ops ks k = nK c all o kk ∧ ds[k]? = some (cG (kP c o.dst o.op kk) (gX kk) s) ∧
  (Fi c o.dst o.op kk = true → ∃ J, s.obj = ((ds.take k).foldl St.upd st).obj ++ J) ∧
  (kk.isNd = false → ∀ st', AgreeD (mE c all o kk) (gX kk) (oU c o.dst o.op kk) ((ds.take k).foldl St.upd st) st' → uK P all o st' (· = st'.upd (cG (kP c o.dst o.op kk) (gX kk) s))) := by
 have ho : ops[k]? = some ops[k] := List.getElem?_eq_getElem hk;have hk2 : k < ks.length := by rw [h.len]; exact hk
 have hkk : ks[k]? = some ks[k] := List.getElem?_eq_getElem hk2;obtain ⟨s, h1, h0, h2⟩ := h.step k _ _ ho hkk;exact ⟨_, _, s, ho, hkk, by simp [cM, uR ho hkk], h1, h0, h2⟩
theorem DrawFacts.sep (h : DrawFacts P c all wt ops ks st ds) {i j : Nat} (hij : i < j) (hj : j < ops.length) (hw : wt i j = false) : (cM c all ops ks i).apart (cM c all ops ks j) = true := by
 obtain ⟨oi, ki, _, a1, a2, a3, _⟩ := h.at (show i < ops.length by omega);obtain ⟨oj, kj, _, b1, b2, b3, _⟩ := h.at hj;rw [a3, b3];exact h.apart i j oi oj ki kj a1 a2 b1 b2 hij hw
theorem DrawFacts.env (h : DrawFacts P c all wt ops ks st ds) (t k : Nat) : ((cM c all ops ks k).ws.contains t = false → ∀ s, (U ds s k).env t = s.env t) ∧ (∀ s s' : St, s.env t = s'.env t → (U ds s k).env t = (U ds s' k).env t) := by
 by_cases hk : k < ops.length
 ·obtain ⟨o, kk, s0, a1, a2, a3, a4, _⟩ := h.at hk;have e : ∀ s : St, (U ds s k).env t = if t ∈ kP c o.dst o.op kk then s0.env t else s.env t := fun s => by
   simp only [U, List.getD, a4, Option.getD_some];exact jB _ _ _ _ _
  refine ⟨fun hc s => ?_, fun s s' hs => ?_⟩
  ·rw [a3] at hc;have : t ∉ kP c o.dst o.op kk := by simpa [nK] using hc
   rw [e, if_neg this]
  ·rw [e, e, hs]
 ·have : ∀ s : St, U ds s k = s := fun s => by
   simp only [U, List.getD, List.getElem?_eq_none (show ds.length ≤ k by rw [h.dlen]; omega), Option.getD_none];rfl
  exact ⟨fun _ s => by rw [this], fun s s' hs => by rw [this, this]; exact hs⟩
theorem DrawFacts.loc (h : DrawFacts P c all wt ops ks st ds) (k : Nat) : ((cM c all ops ks k).f.wL = false → ∀ s, (U ds s k).loc = s.loc) ∧ (∀ s s' : St, s.loc = s'.loc → (U ds s k).loc = (U ds s' k).loc) := by
 by_cases hk : k < ops.length
 ·obtain ⟨o, kk, s0, a1, a2, a3, a4, _⟩ := h.at hk;have e : ∀ s : St, (U ds s k).loc = if (gX kk).wL then s0.loc else s.loc := fun s => by
   simp only [U, List.getD, a4, Option.getD_some, St.upd, cG];split <;> rfl
  refine ⟨fun hc s => ?_, fun s s' hs => ?_⟩
  ·rw [a3] at hc;rw [e, if_neg (by simpa [nK] using hc)]
  ·rw [e, e, hs]
 ·have : ∀ s : St, U ds s k = s := fun s => by
   simp only [U, List.getD, List.getElem?_eq_none (show ds.length ≤ k by rw [h.dlen]; omega), Option.getD_none];rfl
  exact ⟨fun _ s => by rw [this], fun s s' hs => by rw [this, this]; exact hs⟩
theorem DrawFacts.obj (h : DrawFacts P c all wt ops ks st ds) (k : Nat) : ((cM c all ops ks k).f.wO = false → ∀ s, (U ds s k).obj = s.obj) ∧ (∀ s s' : St, s.obj = s'.obj → (U ds s k).obj = (U ds s' k).obj) := by
 by_cases hk : k < ops.length
 ·obtain ⟨o, kk, s0, a1, a2, a3, a4, _⟩ := h.at hk;have e : ∀ s : St, (U ds s k).obj = if (gX kk).wO then s0.obj else s.obj := fun s => by
   simp only [U, List.getD, a4, Option.getD_some, St.upd, cG];split <;> rfl
  refine ⟨fun hc s => ?_, fun s s' hs => ?_⟩
  ·rw [a3] at hc;rw [e, if_neg (by simpa [nK] using hc)]
  ·rw [e, e, hs]
 ·have : ∀ s : St, U ds s k = s := fun s => by
   simp only [U, List.getD, List.getElem?_eq_none (show ds.length ≤ k by rw [h.dlen]; omega), Option.getD_none];rfl
  exact ⟨fun _ s => by rw [this], fun s s' hs => by rw [this, this]; exact hs⟩
def gP (wt : Nat → Nat → Bool) (E : Nat → Bool) : Prop := ∀ i j, E j = true → wt i j = true → E i = true
theorem DrawFacts.seen (h : DrawFacts P c all wt ops ks st ds) {E : Nat → Bool} (hE : gP wt E) {j : Nat} (hj : j < ops.length) (hnj : E j = false) (hready : ∀ i, wt i j = true → E i = true) (q : Nat → Bool)
  (hq : ∀ k, k < ops.length → k ≠ j → q k = true → (k < j → (cM c all ops ks k).apart (cM c all ops ks j) = false) ∧ (j < k → (cM c all ops ks j).apart (cM c all ops ks k) = false)) :
  ∀ k, k < ops.length → (E k && q k) = (decide (k < j) && q k) := by
 intro k hk;cases hqk : q k with
 | false => simp
 | true =>
  simp only [Bool.and_true];by_cases hkj : k = j
  ·subst hkj; simp [hnj]
  ·obtain ⟨h1, h2⟩ := hq k hk hkj hqk;by_cases hlt : k < j
   ·have : wt k j = true := by
     cases hw : wt k j with
     | true => rfl
     | false => have := h.sep hlt hj hw; rw [h1 hlt] at this; cases this
    simp [hlt, hready k this]
   ·have hgt : j < k := by omega
    have hw : wt j k = true := by
     cases hw : wt j k with
     | true => rfl
     | false => have := h.sep hgt hk hw; rw [h2 hgt] at this; cases this
    cases hek : E k with
    | false => simp [hlt]
    | true => have := hE j k hek hw; rw [hnj] at this; cases this
theorem eI {a b : FP} (h : ¬ (a.apart b = true)) : a.apart b = false := by simpa using h
theorem DrawFacts.env_seen (h : DrawFacts P c all wt ops ks st ds) {E : Nat → Bool} (hE : gP wt E) {j : Nat} (hj : j < ops.length) (hnj : E j = false) (hready : ∀ i, wt i j = true → E i = true) {t : Nat} (ht : t ∈ (cM c all ops ks j).rs) (hws : t ∈ (cM c all ops ks j).ws → t ∈ (cM c all ops ks j).rs) :
  ∀ k, k < ops.length → (E k && (cM c all ops ks k).ws.contains t) = (decide (k < j) && (cM c all ops ks k).ws.contains t) := by
 refine h.seen hE hj hnj hready (fun k => (cM c all ops ks k).ws.contains t) fun k hk hkj hq => ?_;have hm : t ∈ (cM c all ops ks k).ws := by simpa using hq
 refine ⟨fun _ => eI fun ha => ?_, fun _ => eI fun ha => ?_⟩
 ·exact ((cQ ha).1 t hm).2 ht
 ·exact (cQ ha).2.1 t hm ht
theorem DrawFacts.obj_pre (h : DrawFacts P c all wt ops ks st ds) {E : Nat → Bool} (hE : gP wt E) {j : Nat} (hj : j < ops.length) (hnj : E j = false) (hready : ∀ i, wt i j = true → E i = true) (hl : (cM c all ops ks j).f.rO = true) : ∃ J, (eV st ds ops.length E).obj = ((ds.take j).foldl St.upd st).obj ++ J := by
 have hdl := h.dlen
 let W : Nat → Bool := fun k => (cM c all ops ks k).f.wO
 have fold : ∀ (L : List Nat), (L.foldl (U ds) st).obj = ((L.filter W).foldl (U ds) st).obj := fun L => gG ds W (fun k => (h.obj k).1) (fun k => (h.obj k).2) L st st rfl
 -- who writes and gQ for nobody outside E
 have below : ∀ m, m < ops.length → (m = j ∨ (E m = true ∧ W m = true)) → ∀ k, k < m → W k = true → E k = true := by
  intro m hm hc k hk hw;rcases hc with rfl | ⟨he, hwm⟩
  ·cases hwt : wt k m with
   | true => exact hready k hwt
   | false => have := ((cQ (h.sep hk hm hwt)).2.2.2.2.1 hw).1; rw [hl] at this; cases this
  ·cases hwt : wt k m with
   | true => exact hE k m he hwt
   | false => have := ((cQ (h.sep hk hm hwt)).2.2.2.2.1 hw).2; rw [show (cM c all ops ks m).f.wO = true from hwm] at this; cases this
 have chain : ∀ m, m < ops.length → (m = j ∨ (E m = true ∧ W m = true)) → (((List.range m).filter E).foldl (U ds) st).obj = ((ds.take m).foldl St.upd st).obj := by
  intro m hm hc;rw [← eN ds st m (by omega), fold, fold (List.range m), List.filter_filter];congr 2;refine List.filter_congr fun k hk => ?_;rw [List.mem_range] at hk;cases hw : W k with
  | false => simp
  | true => simp [below m hm hc k hk hw]
 have go : ∀ n, j + n ≤ ops.length → ∃ J, (((List.range (j + n)).filter E).foldl (U ds) st).obj = ((ds.take j).foldl St.upd st).obj ++ J := by
  intro n;induction n with
  | zero => intro _; exact ⟨[], by rw [Nat.add_zero, chain j hj (.inl rfl), List.append_nil]⟩
  | succ n ih =>
   intro hn;obtain ⟨J, hJ⟩ := ih (by omega);rw [show j + (n + 1) = j + n + 1 by omega, List.range_succ, List.filter_append, List.foldl_append];cases he : E (j + n) with
   | false => simp only [List.filter_cons, he, List.filter_nil, List.foldl_nil]; exact ⟨J, hJ⟩
   | true =>
    simp only [List.filter_cons, he, List.filter_nil, if_true, List.foldl_cons, List.foldl_nil];have hne : n ≠ 0 := by rintro rfl; rw [Nat.add_zero, hnj] at he; cases he
    cases hw : W (j + n) with
    | false => rw [(h.obj (j + n)).1 hw]; exact ⟨J, hJ⟩
    | true =>
     have hap : (cM c all ops ks j).apart (cM c all ops ks (j + n)) = true := by
      cases hwt : wt j (j + n) with
      | true => have := hE j (j + n) he hwt; rw [hnj] at this; cases this
      | false => exact h.sep (by omega) (by omega) hwt
     have ha : (cM c all ops ks (j + n)).a = true := by
      rcases (cQ hap).2.2.2.2.2 hw with e | e
      ·rw [hl] at e; cases e
      ·exact e.2
     obtain ⟨o, kk, s0, a1, a2, a3, a4, a0, _⟩ := h.at (show j + n < ops.length by omega);rw [a3] at ha;obtain ⟨J', hJ'⟩ := a0 ha;have hwk : (gX kk).wO = true := by have := hw; simp only [W, a3, nK] at this; exact this
     have e : ∀ s : St, (U ds s (j + n)).obj = s0.obj := fun s => by
      simp only [U, List.getD, a4, Option.getD_some, St.upd, cG, hwk, if_true]
     rw [e, hJ', ← chain (j + n) (by omega) (.inr ⟨he, hw⟩), hJ];exact ⟨J ++ J', by rw [List.append_assoc]⟩
 obtain ⟨J, hJ⟩ := go (ops.length - j) (by omega);rw [show j + (ops.length - j) = ops.length by omega] at hJ;exact ⟨J, hJ⟩
theorem DrawFacts.agree (h : DrawFacts P c all wt ops ks st ds) {E : Nat → Bool} (hE : gP wt E) {j : Nat} (hj : j < ops.length) (hnj : E j = false) (hready : ∀ i, wt i j = true → E i = true) : AgreeD (cM c all ops ks j).rs (cM c all ops ks j).f (cM c all ops ks j).t ((ds.take j).foldl St.upd st) (eV st ds ops.length E) := by
 have hdl := h.dlen;refine ⟨?_, fun t ht => ?_, fun hl => ?_, fun hl => ?_⟩
 ·rw [← eN ds st j (by omega)];unfold eV;rw [oO, oO]
 ·rw [← eN ds st j (by omega)];unfold eV;rw [hU ds (fun k => (cM c all ops ks k).ws.contains t) t (fun k => (h.env t k).1) (fun k => (h.env t k).2) ((List.range ops.length).filter E) st st rfl,
   hU ds (fun k => (cM c all ops ks k).ws.contains t) t (fun k => (h.env t k).1) (fun k => (h.env t k).2) (List.range j) st st rfl, List.filter_filter]
  rw [gT ops.length j (by omega) _ (fun k => (cM c all ops ks k).ws.contains t)];intro k hk;rw [Bool.and_comm];exact h.env_seen hE hj hnj hready ht (fun _ => ht) k hk
 ·rw [← eN ds st j (by omega)];unfold eV;rw [iF ds (fun k => (cM c all ops ks k).f.wL) (fun k => (h.loc k).1) (fun k => (h.loc k).2) ((List.range ops.length).filter E) st st rfl,
   iF ds (fun k => (cM c all ops ks k).f.wL) (fun k => (h.loc k).1) (fun k => (h.loc k).2) (List.range j) st st rfl, List.filter_filter]
  rw [gT ops.length j (by omega) _ (fun k => (cM c all ops ks k).f.wL)];intro k hk;rw [Bool.and_comm];refine h.seen hE hj hnj hready (fun k => (cM c all ops ks k).f.wL) (fun k hk hkj hq => ⟨fun _ => eI fun ha => ?_, fun _ => eI fun ha => ?_⟩) k hk
  ·have := ((cQ ha).2.2.1 hq).1; rw [hl] at this; cases this
  ·have := (cQ ha).2.2.2.1 hq; rw [hl] at this; cases this
 ·refine ⟨fun ht => ?_, h.obj_pre hE hj hnj hready hl⟩;rw [← eN ds st j (by omega)];unfold eV;rw [gG ds (fun k => (cM c all ops ks k).f.wO) (fun k => (h.obj k).1) (fun k => (h.obj k).2) ((List.range ops.length).filter E) st st rfl,
   gG ds (fun k => (cM c all ops ks k).f.wO) (fun k => (h.obj k).1) (fun k => (h.obj k).2) (List.range j) st st rfl, List.filter_filter]
  rw [gT ops.length j (by omega) _ (fun k => (cM c all ops ks k).f.wO)];intro k hk;rw [Bool.and_comm];refine h.seen hE hj hnj hready (fun k => (cM c all ops ks k).f.wO) (fun k hk hkj hq => ⟨fun _ => eI fun ha => ?_, fun _ => eI fun ha => ?_⟩) k hk
  ·have := ((cQ ha).2.2.2.2.1 hq).1; rw [hl] at this; cases this
  ·rcases (cQ ha).2.2.2.2.2 hq with this | ⟨this, _⟩
   ·rw [hl] at this; cases this
   ·rw [ht] at this; cases this
theorem DrawFacts.next (h : DrawFacts P c all wt ops ks st ds) {E : Nat → Bool} (hE : gP wt E) {j : Nat} (hj : j < ops.length) (hnj : E j = false) (hready : ∀ i, wt i j = true → E i = true) :
  eV st ds ops.length (fun k => E k || decide (k = j)) = U ds (eV st ds ops.length E) j := by
 obtain ⟨o, kk, s0, a1, a2, a3, a4, _, a5⟩ := h.at hj;have hwsrs : ∀ t, t ∈ (cM c all ops ks j).ws → t ∈ (cM c all ops ks j).rs := fun t ht => by
  rw [a3] at ht ⊢;simp only [nK, mE] at ht ⊢;simp [ht]
 have eU : ∀ s : St, U ds s j = s.upd (cG (kP c o.dst o.op kk) (gX kk) s0) := fun s => by simp only [U, List.getD, a4, Option.getD_some]
 refine St.ext' ?_ (fun t => ?_) ?_ ?_
 ·rw [eU]; unfold eV; rw [oO]; show _ = ((List.range ops.length).filter E |>.foldl (U ds) st).n; rw [oO]
 ·by_cases ht : t ∈ (cM c all ops ks j).ws
  ·have lhs : (eV st ds ops.length (fun k => E k || decide (k = j))).env t = s0.env t := by
    unfold eV;rw [hU ds (fun k => (cM c all ops ks k).ws.contains t) t (fun k => (h.env t k).1) (fun k => (h.env t k).2) _ st st rfl, List.filter_filter];rw [fV ops.length j hj _ (fun k => (cM c all ops ks k).ws.contains t)]
    ·rw [List.foldl_append, List.foldl_cons, List.foldl_nil, eU, jB];rw [a3] at ht;exact if_pos ht
    ·intro k hk;have hs := h.env_seen hE hj hnj hready (hwsrs t ht) (hwsrs t) k hk;by_cases hkj : k = j
     ·subst hkj;simp [ht]
     ·simp only [hkj, decide_false, Bool.or_false];rw [Bool.and_comm];exact hs
   rw [lhs, eU, jB];rw [a3] at ht;exact (if_pos ht).symm
  ·have hc : (cM c all ops ks j).ws.contains t = false := by simpa using ht
   rw [(h.env t j).1 hc];unfold eV;rw [hU ds (fun k => (cM c all ops ks k).ws.contains t) t (fun k => (h.env t k).1) (fun k => (h.env t k).2) ((List.range ops.length).filter E) st st rfl,
    hU ds (fun k => (cM c all ops ks k).ws.contains t) t (fun k => (h.env t k).1) (fun k => (h.env t k).2) _ st st rfl, List.filter_filter, List.filter_filter]
   congr 2;refine List.filter_congr fun k _ => ?_;by_cases hkj : k = j
   ·subst hkj; simp [ht]
   ·simp [hkj]
 ·cases hl : (cM c all ops ks j).f.wL with
  | true =>
   have lhs : (eV st ds ops.length (fun k => E k || decide (k = j))).loc = (U ds ((List.range j).filter (fun k => (cM c all ops ks k).f.wL) |>.foldl (U ds) st) j).loc := by
    unfold eV;rw [iF ds (fun k => (cM c all ops ks k).f.wL) (fun k => (h.loc k).1) (fun k => (h.loc k).2) _ st st rfl, List.filter_filter];rw [fV ops.length j hj _ (fun k => (cM c all ops ks k).f.wL)]
    ·rw [List.foldl_append, List.foldl_cons, List.foldl_nil]
    ·intro k hk;by_cases hkj : k = j
     ·subst hkj; simp [hl]
     ·simp only [hkj, decide_false, Bool.or_false];rw [Bool.and_comm];refine h.seen hE hj hnj hready (fun k => (cM c all ops ks k).f.wL) (fun k hk hkj hq => ⟨fun _ => eI fun ha => ?_, fun _ => eI fun ha => ?_⟩) k hk
      ·have := ((cQ ha).2.2.1 hq).2; rw [hl] at this; cases this
      ·have := ((cQ ha).2.2.1 hl).2; rw [hq] at this; cases this
   rw [lhs, eU, eU];rw [a3] at hl;simp only [nK] at hl;simp [St.upd, cG, hl]
  | false =>
   rw [(h.loc j).1 hl];unfold eV;rw [iF ds (fun k => (cM c all ops ks k).f.wL) (fun k => (h.loc k).1) (fun k => (h.loc k).2) ((List.range ops.length).filter E) st st rfl,
    iF ds (fun k => (cM c all ops ks k).f.wL) (fun k => (h.loc k).1) (fun k => (h.loc k).2) _ st st rfl, List.filter_filter, List.filter_filter]
   congr 2;refine List.filter_congr fun k _ => ?_;by_cases hkj : k = j
   ·subst hkj; simp [hl]
   ·simp [hkj]
 ·cases hl : (cM c all ops ks j).f.wO with
  | true =>
   have lhs : (eV st ds ops.length (fun k => E k || decide (k = j))).obj = (U ds ((List.range j).filter (fun k => (cM c all ops ks k).f.wO) |>.foldl (U ds) st) j).obj := by
    unfold eV;rw [gG ds (fun k => (cM c all ops ks k).f.wO) (fun k => (h.obj k).1) (fun k => (h.obj k).2) _ st st rfl, List.filter_filter];rw [fV ops.length j hj _ (fun k => (cM c all ops ks k).f.wO)]
    ·rw [List.foldl_append, List.foldl_cons, List.foldl_nil]
    ·intro k hk;by_cases hkj : k = j
     ·subst hkj; simp [hl]
     ·simp only [hkj, decide_false, Bool.or_false];rw [Bool.and_comm];refine h.seen hE hj hnj hready (fun k => (cM c all ops ks k).f.wO) (fun k hk hkj hq => ⟨fun _ => eI fun ha => ?_, fun _ => eI fun ha => ?_⟩) k hk
      ·have := ((cQ ha).2.2.2.2.1 hq).2; rw [hl] at this; cases this
      ·have := ((cQ ha).2.2.2.2.1 hl).2; rw [hq] at this; cases this
   rw [lhs, eU, eU];rw [a3] at hl;simp only [nK] at hl;simp [St.upd, cG, hl]
  | false =>
   rw [(h.obj j).1 hl];unfold eV;rw [gG ds (fun k => (cM c all ops ks k).f.wO) (fun k => (h.obj k).1) (fun k => (h.obj k).2) ((List.range ops.length).filter E) st st rfl,
    gG ds (fun k => (cM c all ops ks k).f.wO) (fun k => (h.obj k).1) (fun k => (h.obj k).2) _ st st rfl, List.filter_filter, List.filter_filter]
   congr 2;refine List.filter_congr fun k _ => ?_;by_cases hkj : k = j
   ·subst hkj; simp [hl]
   ·simp [hkj]
theorem lT {ops : List Oper} {listed : Array Bool} {i : Nat} : i ∈ Region.ready .any ops.toArray listed ↔ ∃ o, ops[i]? = some o ∧ listed.getD i true = false ∧ ∀ e ∈ o.after.toList, Region.binds .any e = true → listed.getD e.on false = true := by
 unfold Region.ready;simp only [List.mem_filter, List.mem_range, List.size_toArray, Bool.and_eq_true, Bool.not_eq_true', List.getElem?_toArray];constructor
 ·rintro ⟨h1, h2, h3⟩;rw [List.getElem?_eq_getElem h1] at h3;simp only [Option.map_some, Option.getD_some] at h3;refine ⟨_, List.getElem?_eq_getElem h1, h2, fun e he hb => ?_⟩;rw [Array.all_eq_true'] at h3;have := h3 e (by simpa using he);simpa [hb] using this
 ·rintro ⟨o, h1, h2, h3⟩;refine ⟨(List.getElem?_eq_some_iff.1 h1).1, h2, ?_⟩;rw [h1];simp only [Option.map_some, Option.getD_some];rw [Array.all_eq_true'];intro e he;cases hb : Region.binds .any e with
  | false => simp
  | true => simp [h3 e (by simpa using he) hb]
def EP (π : List Nat) (listed : Array Bool) (p : Nat) : Bool := listed.getD (π.getD p 0) false
abbrev Yo (all : List Oper) (π : List Nat) (i j : Nat) : Bool := gQ all (π.getD i 0) (π.getD j 0)
theorem yN {π : List Nat} {listed : Array Bool} (hE : gP (gQ all) (fun k => listed.getD k false)) : gP (Yo all π) (EP π listed) := fun i j h1 h2 => hE _ _ h1 h2
theorem wU {listed : Array Bool} (hE : gP (gQ all) (fun k => listed.getD k false)) {j : Nat} {o : Oper} (ho : all[j]? = some o) (hr : ∀ e ∈ o.after.toList, Region.binds .any e = true → listed.getD e.on false = true) : ∀ i, gQ all i j = true → listed.getD i false = true := by
 intro i hw;obtain ⟨e, he, hb, h1⟩ := Al ho hw;rcases h1 with rfl | ⟨_, h1⟩
 ·exact hr e he hb
 ·exact hE i e.on (hr e he hb) h1
theorem Ap {n : Nat} {E E' : Nat → Bool} (h : ∀ k, k < n → E k = E' k) : eV st ds n E = eV st ds n E' := by
 unfold eV;rw [List.filter_congr fun k hk => h k (List.mem_range.1 hk)]
theorem mX {listed : Array Bool} {n i : Nat} (hsz : listed.size = n) (hlt : i < n) (k : Nat) : (listed.setIfInBounds i true).getD k false = (listed.getD k false || decide (k = i)) := by
 simp only [Array.getD_eq_getD_getElem?, Array.getElem?_setIfInBounds];by_cases hk : i = k
 ·subst hk; simp [hsz, hlt]
 ·have : ¬ k = i := fun e => hk e.symm;simp [hk, this]
theorem At {listed : Array Bool} {i : Nat} (hsz : listed.size = all.length) (hlt : i < all.length) (hE : gP (gQ all) (fun k => listed.getD k false)) (hrd : ∀ j, gQ all j i = true → listed.getD j false = true) : gP (gQ all) (fun k => (listed.setIfInBounds i true).getD k false) := by
 intro a b hb hw;simp only [mX hsz hlt, Bool.or_eq_true, decide_eq_true_eq] at hb ⊢;rcases hb with hb | rfl
 ·exact .inl (hE a b hb hw)
 ·exact .inl (hrd a hw)
theorem Ga {listed : Array Bool} {n i fuel : Nat} (hsz : listed.size = n) (hlt : i < n) (hni : listed.getD i false = false) (hc : ((List.range n).filter fun k => !listed.getD k false).length = fuel + 1) : ((List.range n).filter fun k => !(listed.setIfInBounds i true).getD k false).length = fuel := by
 have e1 : ((List.range n).filter fun k => !(listed.setIfInBounds i true).getD k false) = ((List.range n).filter fun k => !listed.getD k false).filter (fun k => decide (k ≠ i)) := by
  rw [List.filter_filter];refine List.filter_congr fun k _ => ?_;rw [mX hsz hlt];cases listed.getD k false <;> simp
 rw [e1];have hnd : ((List.range n).filter fun k => !listed.getD k false).Nodup := List.Pairwise.filter _ List.nodup_range;have hmem : i ∈ ((List.range n).filter fun k => !listed.getD k false) := by
  rw [List.mem_filter, List.mem_range];exact ⟨hlt, by simp [hni]⟩
 have : ((List.range n).filter fun k => !listed.getD k false).filter (fun k => decide (k ≠ i)) = ((List.range n).filter fun k => !listed.getD k false).erase i := by
  rw [List.Nodup.erase_eq_filter hnd];refine List.filter_congr fun k _ => ?_;simp [bne];cases hk : decide (k = i) <;> simp_all
 rw [this, List.length_erase_of_mem hmem, hc];rfl
theorem Br {listed : Array Bool} (hedge : ∀ (k : Nat) (o : Oper), all[k]? = some o → ∀ e ∈ o.after.toList, Region.binds .any e = true → e.on < k) (hsz : listed.size = all.length) (hne : ((List.range all.length).filter fun k => !listed.getD k false) ≠ []) : ∃ i, i ∈ Region.ready .any all.toArray listed := by
 obtain ⟨k, hk⟩ := List.exists_mem_of_ne_nil _ hne;have eY : ∀ m k, k ≤ m → k ∈ ((List.range all.length).filter fun k => !listed.getD k false) → ∃ i, i ∈ Region.ready .any all.toArray listed := by
  intro m;induction m with
  | zero =>
   intro k hkm hk;have hk0 : k = 0 := by omega
   subst hk0;rw [List.mem_filter, List.mem_range] at hk;have ho := List.getElem?_eq_getElem hk.1;refine ⟨0, lT.2 ⟨_, ho, ?_, fun e he hb => ?_⟩⟩
   ·have hs : listed[0]? = some listed[0] := Array.getElem?_eq_getElem (by omega);have := hk.2;simp [Array.getD_eq_getD_getElem?, hs] at this ⊢;exact this
   ·have := hedge 0 _ ho e he hb; omega
  | succ m ihm =>
   intro k hkm hk;rw [List.mem_filter, List.mem_range] at hk;have ho := List.getElem?_eq_getElem hk.1;by_cases hall : ∀ e ∈ all[k].after.toList, Region.binds .any e = true → listed.getD e.on false = true
   ·refine ⟨k, lT.2 ⟨_, ho, ?_, hall⟩⟩;have hs : listed[k]? = some listed[k] := Array.getElem?_eq_getElem (by omega);have := hk.2;simp [Array.getD_eq_getD_getElem?, hs] at this ⊢;exact this
   ·have : ∃ e, e ∈ all[k].after.toList ∧ Region.binds .any e = true ∧ listed.getD e.on false ≠ true := by
     refine Classical.byContradiction fun hno => hall fun e he hb => Classical.byContradiction fun hn => hno ⟨e, he, hb, hn⟩
    obtain ⟨e, he, hb, hl⟩ := this;have hlt := hedge k _ ho e he hb;refine ihm e.on (by omega) ?_;rw [List.mem_filter, List.mem_range];exact ⟨by omega, by simpa using hl⟩
 exact eY k k (Nat.le_refl _) hk
theorem Sz (l : List Delta) (s : St) : (l.foldl St.upd s).n = s.n := by
 induction l generalizing s with
 | nil => rfl
 | cons d l ih => rw [List.foldl_cons, ih]; rfl
theorem Me (n : Nat) (E : Nat → Bool) : (eV st ds n E).n = st.n := by unfold eV; rw [oO]
theorem Kc {o : Oper} {i : Nat} {listed : Array Bool} {fuel : Nat} {w0 w : World} {g0 g : Gh} {tmps : Array Value} {S : St} {K : St → Prop} {Q : Exit → St → Prop} (h1 : all[i]? = some o) (hf : Fr w0 g0 w g) (hok : Ok w g S (aY tmps)) (hn : tmps.size = S.n) (hgo : uK P all o S K)
  (hnext : ∀ (w' : World) (g' : Gh) (tmps' : Array Value) (S' : St), K S' → Fr w0 g0 w' g' → Ok w' g' S' (aY tmps') → tmps'.size = S'.n → wpAny P .any all.toArray (sZ w0 g0 Q) fuel (listed.setIfInBounds i true) ⟨tmps', []⟩ w') :
  wpOp P all.toArray (sZ w0 g0 Q) i (wpAny P .any all.toArray (sZ w0 g0 Q) fuel (listed.setIfInBounds i true)) ⟨tmps, []⟩ w := by
 have hgo := hgo w g tmps hok hn;unfold wpOp;simp only [List.getElem?_toArray, h1];split
 ·rename_i hw;left;refine zK (Oper.wp_mono (fun a w' => ?_) (hgo.1 hw)) fun e a w' hF => hF.elim;rintro ⟨hdf, st', g', hk, hf', hok', hn'⟩;obtain ⟨tmps', dfs⟩ := a;simp only at hdf;subst hdf;exact hnext w' g' tmps' st' hk (hf.trans hf') hok' hn'
 ·rename_i hw;obtain ⟨st', g', hk, hf', hok', hn'⟩ := hgo.2 (by simpa using hw);have hds := iD ⟨tmps, []⟩ o.dst undef;have hsz2 := lD ⟨tmps, []⟩ o.dst undef;generalize hA : (⟨tmps, []⟩ : Act).put o.dst undef = A at *;obtain ⟨tmps', dfs⟩ := A;simp only at hds hsz2 hok';subst hds;exact hnext w g' tmps' st' hk (hf.trans hf') hok' (by rw [hsz2]; exact hn')
section
variable {π : List Nat}
theorem Ord.place (ho : Ord all π) {i : Nat} {o : Oper} (h1 : all[i]? = some o) : ∃ p : Nat, p < (cW π all).length ∧ π[p]? = some i ∧ π.getD p 0 = i ∧ (cW π all)[p]? = some o ∧ ∀ q, q < (cW π all).length → (π.getD q 0 = i ↔ q = p) := by
 have hlt := (List.getElem?_eq_some_iff.1 h1).1;obtain ⟨p, p1, p2⟩ := ho.all_ i hlt;have hpl : ∀ q, q < (cW π all).length → ∃ y, π[q]? = some y := fun q hq => ⟨_, List.getElem?_eq_getElem (by rw [ho.len]; rw [ho.get.1] at hq; exact hq)⟩;refine ⟨p, by rw [ho.get.1]; exact p1, p2, by simp [List.getD, p2], by rw [ho.get.2, p2]; exact h1, fun q hq => ⟨fun e => ?_, fun e => by rw [e]; simp [List.getD, p2]⟩⟩;obtain ⟨y, hy⟩ := hpl q hq;have e' : y = i := by simpa [List.getD, hy] using e
 subst e';exact (List.getElem?_inj (by rw [ho.len]; rw [ho.get.1] at hq; exact hq) ho.nodup).1 (hy.trans p2.symm)
theorem Jt (ho : Ord all π) {listed : Array Bool} (hsz : listed.size = all.length) {i p : Nat} (hlt : i < all.length) (hp : ∀ q, q < (cW π all).length → (π.getD q 0 = i ↔ q = p)) (q : Nat) (hq : q < (cW π all).length) : EP π (listed.setIfInBounds i true) q = (EP π listed q || decide (q = p)) := by
 unfold EP;rw [mX hsz hlt];congr 1;have := hp q hq;by_cases h : q = p
 ·simp [h, this.2 h] at this ⊢;exact this
 ·have : ¬ π.getD q 0 = i := fun e => h (this.1 e);rw [decide_eq_false this, decide_eq_false h]
theorem Jf (hord : Ord all π) (hedge : ∀ (k : Nat) (o : Oper), all[k]? = some o → ∀ e ∈ o.after.toList, Region.binds .any e = true → e.on < k) (h : DrawFacts P c all (Yo all π) (cW π all) ks st ds) {w0 : World} {g0 : Gh} {Q : Exit → St → Prop} (hQ : Q .normal (ds.foldl St.upd st)) : ∀ (fuel : Nat) (listed : Array Bool) (w : World) (g : Gh) (tmps : Array Value), listed.size = all.length → gP (gQ all) (fun k => listed.getD k false) →
  (∀ (p : Nat) (k : DK), ks[p]? = some k → k.isNd = true → EP π listed p = true) → ((List.range all.length).filter fun k => !listed.getD k false).length = fuel → Fr w0 g0 w g → Ok w g (eV st ds (cW π all).length (EP π listed)) (aY tmps) → tmps.size = st.n → wpAny P .any all.toArray (sZ w0 g0 Q) fuel listed ⟨tmps, []⟩ w := by
 have ends : ∀ (listed : Array Bool) (w : World) (g : Gh) (tmps : Array Value), listed.size = all.length → ((List.range all.length).filter fun k => !listed.getD k false) = [] → Fr w0 g0 w g → Ok w g (eV st ds (cW π all).length (EP π listed)) (aY tmps) → tmps.size = st.n → sZ w0 g0 Q .normal ⟨tmps, []⟩ w := by
  intro listed w g tmps hsz hnil hf hok hn;have e : eV st ds (cW π all).length (EP π listed) = ds.foldl St.upd st := by
   unfold eV;have : (List.range (cW π all).length).filter (EP π listed) = List.range (cW π all).length := by
    rw [List.filter_eq_self];intro k hk;rw [List.mem_range, hord.get.1] at hk;rw [List.filter_eq_nil_iff] at hnil;have hkp : k < π.length := by rw [hord.len]; exact hk
    have hy : π[k]? = some π[k] := List.getElem?_eq_getElem hkp;have := hnil π[k] (List.mem_range.2 (hord.lt hy));unfold EP;simp only [List.getD, hy, Option.getD_some];simpa using this
   rw [this, eN ds st _ (by rw [h.dlen]; exact Nat.le_refl _), ← h.dlen, List.take_length]
  rw [e] at hok;exact ⟨rfl, _, g, hQ, hf, hok, by rw [Sz]; exact hn⟩
 intro fuel;induction fuel with
 | zero =>
  intro listed w g tmps hsz hE hnds hc hf hok hn;have hnil := List.eq_nil_of_length_eq_zero hc;refine ⟨?_, ends listed w g tmps hsz hnil hf hok hn⟩;rw [List.eq_nil_iff_forall_not_mem];intro i hi;rw [lT] at hi;obtain ⟨o, h1, h2, h3⟩ := hi;have hlt := (List.getElem?_eq_some_iff.1 h1).1;rw [List.filter_eq_nil_iff] at hnil;have := hnil i (by simpa using hlt);have hs : listed[i]? = some listed[i] := Array.getElem?_eq_getElem (by omega);simp [Array.getD_eq_getD_getElem?, hs] at this h2;rw [this] at h2; cases h2
 | succ fuel ih =>
  intro listed w g tmps hsz hE hnds hc hf hok hn;refine ⟨fun hnil => ?_, fun i hi => ?_⟩
  ·exfalso;have hne : ((List.range all.length).filter fun k => !listed.getD k false) ≠ [] := by intro e; rw [e] at hc; simp at hc
   obtain ⟨i, hi⟩ := Br hedge hsz hne;rw [hnil] at hi;cases hi
  ·rw [lT] at hi;obtain ⟨o, h1, h2, h3⟩ := hi;have hlt := (List.getElem?_eq_some_iff.1 h1).1;have hs : listed[i]? = some listed[i] := Array.getElem?_eq_getElem (by omega);have hni : listed.getD i false = false := by simp [Array.getD_eq_getD_getElem?, hs] at h2 ⊢; exact h2
   have hrd := wU hE h1 h3;obtain ⟨p, p1, p2, p3, p4, p5⟩ := hord.place h1;have hnp : EP π listed p = false := by unfold EP; rw [p3]; exact hni
   have hrp : ∀ q, Yo all π q p = true → EP π listed q = true := fun q hq => hrd _ (by rw [← p3]; exact hq);obtain ⟨o', kk, s0, a1, a2, a3, a4, _, a5⟩ := h.at p1;rw [p4] at a1;simp at a1;subst a1;have hkn : kk.isNd = false := by
    cases hk : kk.isNd with
    | false => rfl
    | true => have := hnds p kk a2 hk; rw [hnp] at this; cases this
   have hag := h.agree (yN hE) p1 hnp hrp;rw [a3] at hag;have hnext := h.next (yN hE) p1 hnp hrp;refine Kc h1 hf hok (by rw [hn, Me]) (a5 hkn _ hag) ?_;rintro w' g' tmps' S' rfl hf' hok' hn';have hUd : U ds (eV st ds (cW π all).length (EP π listed)) p = (eV st ds (cW π all).length (EP π listed)).upd (cG (kP c o.dst o.op kk) (gX kk) s0) := by
    simp only [U, List.getD, a4, Option.getD_some]
   have hst : (eV st ds (cW π all).length (EP π listed)).upd (cG (kP c o.dst o.op kk) (gX kk) s0) = eV st ds (cW π all).length (EP π (listed.setIfInBounds i true)) := by
    rw [← hUd, ← hnext];exact Ap fun q hq => (Jt hord hsz hlt p5 q hq).symm
   rw [hst] at hok' hn';refine ih _ w' g' tmps' (by rw [Array.size_setIfInBounds]; exact hsz) (At hsz hlt hE hrd) (fun q k hk hkn => ?_) (Ga hsz hlt hni hc) hf' hok' (by rw [hn', Me]);have hq : q < (cW π all).length := by rw [← h.len]; exact (List.getElem?_eq_some_iff.1 hk).1
   rw [Jt hord hsz hlt p5 q hq, hnds q k hk hkn]; rfl
end
theorem Ik (ops : List Oper) : cW (List.range ops.length) ops = ops := by
 refine List.ext_getElem? fun p => ?_;have := (pG (all := ops) (π := List.range ops.length) fun i hi => List.mem_range.1 hi).2 p;rw [this];by_cases hp : p < ops.length
 ·rw [List.getElem?_range hp]; rfl
 ·rw [List.getElem?_eq_none (by simpa using hp), List.getElem?_eq_none (by omega)]; rfl
theorem Ie (n : Nat) (π : List Nat) : EP π (Array.replicate n false) = fun _ => false := by
 funext k;unfold EP;simp only [Array.getD_eq_getD_getElem?, Array.getElem?_replicate];split <;> rfl
theorem Dx (st : St) (ds : List Delta) (n : Nat) : eV st ds n (fun _ => false) = st := by
 unfold eV;rw [List.filter_eq_nil_iff.2 (fun k _ => by simp)];rfl
theorem vI (n : Nat) : gP (gQ all) (fun k => (Array.replicate n false).getD k false) := by
 intro i j hj;simp only [Array.getD_eq_getD_getElem?, Array.getElem?_replicate] at hj;split at hj <;> cases hj
theorem yC (n : Nat) : ((List.range n).filter fun k => !(Array.replicate n false).getD k false).length = n := by
 rw [List.filter_eq_self.2 (fun k _ => ?_), List.length_range];simp only [Array.getD_eq_getD_getElem?, Array.getElem?_replicate];split <;> rfl
theorem Hr {c : Cfg} {id : Nat} {ops : List Oper} (ks : List DK) {Q : Exit → St → Prop} {st : St} (hm : P.follows .mixedOrders = true) (hok : qU c ops ks = true) (h : ∀ K : St → Prop, (∀ s, Q .normal s → K s) → fA P c ops ops ks st K) : fM P (.region id ops.toArray true) Q st := by
 intro w0 g0 w g tmps hf hokk hn;unfold qU at hok;simp only [Bool.and_eq_true] at hok;obtain ⟨hok, hnd⟩ := hok;rw [List.all_eq_true] at hnd;have hwf : ∀ k ∈ ks, Jw (gX k) = true ∧ k.isNd = false := by
  have h2 := hok;unfold qS at h2;simp only [Bool.and_eq_true, List.all_eq_true] at h2;exact fun k hk => ⟨h2.1.1.1.2 k hk, by simpa using hnd k hk⟩
 obtain ⟨ss, e, hc, hQ⟩ := xY ops ks st (Q .normal) hwf (h _ fun _ h => h);have hc' : Chain P c ops (cW (List.range ops.length) ops) ks st ss e := by rw [Ik]; exact hc
 obtain ⟨hord, hedge, hfacts, he⟩ := Jg hok hc';subst he;refine wp_region_any hm ?_;refine Jf hord hedge hfacts hQ ops.toArray.size _ w.drew g tmps (by simp) ?_ (fun p k hk hkn => ?_) ?_ (hf.trans (Fr.drew w g)) ?_ hn
 ·rw [List.size_toArray]; exact vI _
 ·have := (hwf k (List.mem_of_getElem? hk)).2; rw [hkn] at this; cases this
 ·rw [List.size_toArray, yC]
 ·rw [List.size_toArray, Ie, Dx];exact hokk.drew
end
end
end Go.Vm

