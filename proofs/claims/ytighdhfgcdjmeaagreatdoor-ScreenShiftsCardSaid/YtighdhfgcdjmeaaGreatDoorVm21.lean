import Derived.Test.YtighdhfgcdjmeaaGreatDoorVm19
import Derived.Orders
namespace Go.Vm
open Go
set_option linter.all false
section
variable {P : Program}
def pH (acc : List Nat) (after : List Edge) : Nat := after.foldl (fun s e => if Region.binds .any e then s ||| 2 ^ e.on ||| acc.getD e.on 0 else s) 0
def kZ : List Oper → List Nat → List Nat
 | [], acc => acc
 | o :: r, acc => kZ r (acc ++ [pH acc o.after.toList])
theorem uE (acc : List Nat) : ∀ (after : List Edge) (s i : Nat), (after.foldl (fun s e => if Region.binds .any e then s ||| 2 ^ e.on ||| acc.getD e.on 0 else s) s).testBit i = true → s.testBit i = true ∨ ∃ e ∈ after, Region.binds .any e = true ∧ (e.on = i ∨ (acc.getD e.on 0).testBit i = true)
 | [], s, i, h => .inl h
 | e :: r, s, i, h => by
  simp only [List.foldl_cons] at h;rcases uE acc r _ i h with h1 | ⟨e', he', h1⟩
  ·split at h1
   ·rename_i hb;rw [Nat.testBit_or, Nat.testBit_or, Nat.testBit_two_pow] at h1;simp only [Bool.or_eq_true, decide_eq_true_eq] at h1;rcases h1 with (h1 | h1) | h1
    ·exact .inl h1
    ·exact .inr ⟨e, by simp, hb, .inl h1⟩
    ·exact .inr ⟨e, by simp, hb, .inr h1⟩
   ·exact .inl h1
  ·exact .inr ⟨e', by simp [he'], h1⟩
theorem vB : ∀ (r : List Oper) (acc : List Nat), (kZ r acc).take acc.length = acc ∧ (kZ r acc).length = acc.length + r.length
 | [], acc => by simp [kZ]
 | o :: r, acc => by
  obtain ⟨h1, h2⟩ := vB r (acc ++ [pH acc o.after.toList]);simp only [kZ];simp only [List.length_append, List.length_singleton] at h1 h2;refine ⟨?_, by rw [h2]; simp; omega⟩;have := congrArg (List.take acc.length) h1;rw [List.take_take, Nat.min_eq_left (by omega)] at this;rw [this];simp
theorem vJ : ∀ (r : List Oper) (acc : List Nat) (k : Nat) (o : Oper), r[k]? = some o → (kZ r acc)[acc.length + k]? = some (pH ((kZ r acc).take (acc.length + k)) o.after.toList)
 | [], acc, k, o, h => by simp at h
 | o' :: r, acc, 0, o, h => by
  simp at h;subst h;simp only [kZ, Nat.add_zero];obtain ⟨h1, h2⟩ := vB r (acc ++ [pH acc o'.after.toList]);simp only [List.length_append, List.length_singleton] at h1;have e1 : (kZ r (acc ++ [pH acc o'.after.toList])).take acc.length = acc := by
   have := congrArg (List.take acc.length) h1;rw [List.take_take, Nat.min_eq_left (by omega)] at this;rw [this]; simp
  rw [e1];have := congrArg (fun l => l[acc.length]?) h1;simp only [List.getElem?_take, Nat.lt_succ_self, if_true] at this;rw [this];simp
 | o' :: r, acc, k + 1, o, h => by
  simp only [kZ];have := vJ r (acc ++ [pH acc o'.after.toList]) k o (by simpa using h);simp only [List.length_append, List.length_singleton] at this;rw [show acc.length + 1 + k = acc.length + (k + 1) by omega] at this;exact this
def fT (ops : List Oper) (i j : Nat) : Bool := ((kZ ops []).getD j 0).testBit i
theorem Cz {ops : List Oper} {i j : Nat} {o : Oper} (ho : ops[j]? = some o) (h : fT ops i j = true) : ∃ e ∈ o.after.toList, Region.binds .any e = true ∧ (e.on = i ∨ (e.on < j ∧ fT ops i e.on = true)) := by
 unfold fT at h;have hg := vJ ops [] j o ho;simp only [List.length_nil, Nat.zero_add] at hg;rw [List.getD, hg, Option.getD_some] at h;rcases uE _ _ _ _ h with h1 | ⟨e, he, hb, h1⟩
 ·simp at h1
 ·refine ⟨e, he, hb, ?_⟩;rcases h1 with h1 | h1
  ·exact .inl h1
  ·refine .inr ?_;rw [List.getD, List.getElem?_take] at h1;split at h1
   ·rename_i hlt;exact ⟨hlt, h1⟩
   ·simp at h1
structure FP where
 ws : List Nat
 rs : List Nat
 f : Fl
 t : Bool
 a : Bool
def FP.apart (a b : FP) : Bool :=
 a.ws.all (fun t => !b.ws.contains t && !b.rs.contains t) && b.ws.all (fun t => !a.rs.contains t) &&
 !(a.f.wL && (b.f.rL || b.f.wL)) && !(b.f.wL && a.f.rL) && !(a.f.wO && (b.f.rO || b.f.wO)) && !(b.f.wO && a.f.rO && !(a.t && b.a))
def oJ (c : Cfg) (ops : List Oper) (o : Oper) (k : DK) : FP := ⟨jF c o.dst o.op k, lC c ops o k, gD k, oY c o.dst o.op k, Ha c o.dst o.op k⟩
def Tz (c : Cfg) (all ops : List Oper) (ks : List DK) : List FP := (ops.zip ks).map fun p => oJ c all p.1 p.2
def Cy (f : Fl) : Bool := (!f.wL || f.rL) && (!f.wO || f.rO)
def bC (π : List Nat) (ops : List Oper) : List Oper := π.filterMap fun i => ops[i]?
def tP : List Nat → Bool
 | [] => true
 | a :: l => !l.contains a && tP l
def lS (c : Cfg) (all : List Oper) (π : List Nat) (ks : List DK) : Bool :=
 ks.length == all.length && ks.all (fun k => Cy (gD k)) && all.zipIdx.all (fun p => p.1.after.toList.all fun e => !Region.binds .any e || decide (e.on < p.2)) && (π.length == all.length && ((List.range all.length).all (fun i => π.contains i) && (tP π && π.all fun i => decide (i < all.length)))) &&
 (Tz c all (bC π all) ks).zipIdx.all fun q => (Tz c all (bC π all) ks).zipIdx.all fun p => !decide (p.2 < q.2) || fT all (π.getD p.2 0) (π.getD q.2 0) || p.1.apart q.1
def sT (c : Cfg) (ops : List Oper) (ks : List DK) : Bool := lS c ops (List.range ops.length) ks && ks.all fun k => !k.isNd
def wP (c : Cfg) (ops : List Oper) (π : List Nat) (j : Nat) (ks : List DK) : Bool :=
 lS c ops π ks && ks.zipIdx.all (fun p => p.1.isNd == decide (p.2 = j)) && (List.range ops.length).all (fun p => !decide (j < p) || fT ops (π.getD j 0) (π.getD p 0)) && ((bC π ops)[j]?).any fun o => o.guard.isNone
def eF (P : Program) (c : Cfg) (all : List Oper) : List Oper → List DK → St → (St → Prop) → Prop
 | [], _, st, K => K st
 | o :: r, k :: ks, st, K => bL o st ∧ match o.guard with
  | none => mQ P c o.dst o.op k st fun s => eF P c all r ks s K
  | some (j, want) => match bA all j with
   | some t => match qL (st.env t) want with
    | some b => (b = want → mQ P c o.dst o.op k st fun s => eF P c all r ks s K) ∧ (b = !want → eF P c all r ks (st.put o.dst .und) K)
    | none => False
   | none => False
 | _ :: _, [], _, _ => False
inductive Chain (P : Program) (c : Cfg) (all : List Oper) : List Oper → List DK → St → List St → St → Prop
 | nil (ks : List DK) (st : St) : Chain P c all [] ks st [] st
 | cons (o : Oper) (r : List Oper) (k : DK) (ks : List DK) (st s : St) (ss : List St) (e : St) (h : Step P c all o k st s) (hr : Chain P c all r ks s ss e) : Chain P c all (o :: r) (k :: ks) st (s :: ss) e
theorem vK {f : Fl} (h : Cy f = true) : (f.wL = true → f.rL = true) ∧ (f.wO = true → f.rO = true) := by
 obtain ⟨a, b, x, y⟩ := f;simp only [Cy] at h;cases a <;> cases b <;> cases x <;> cases y <;> simp_all
theorem rY {c : Cfg} {all : List Oper} : ∀ (r : List Oper) (ks : List DK) (st : St) (K : St → Prop), (∀ k ∈ ks, Cy (gD k) = true ∧ k.isNd = false) → eF P c all r ks st K → ∃ ss e, Chain P c all r ks st ss e ∧ K e
 | [], ks, st, K, _, h => ⟨[], st, .nil ks st, h⟩
 | _ :: _, [], _, _, _, h => h.elim
 | o :: r, k :: ks, st, K, hw, h => by
  obtain ⟨hd, h⟩ := h;have hs : ∃ s, eF P c all r ks s K ∧ Step P c all o k st s := by
   refine Fc (hw k (by simp)).2 (vK (hw k (by simp)).1) hd ?_;split at h
   ·rename_i hg; rw [hg]; exact h
   ·rename_i j want hg;rw [hg];split at h
    ·rename_i t ht;split at h
     ·rename_i b hb;exact ⟨t, b, ht, hb, h.1, h.2⟩
     ·exact h.elim
    ·exact h.elim
  obtain ⟨s, h1, h2⟩ := hs;obtain ⟨ss, e, h3, h4⟩ := rY r ks s K (fun k hk => hw k (by simp [hk])) h1;exact ⟨s :: ss, e, .cons o r k ks st s ss e h2 h3, h4⟩
theorem Chain.append {c : Cfg} {all A B : List Oper} {ka kb : List DK} {st s e : St} {ss tt : List St} (h : Chain P c all A ka st ss s) (hl : ka.length = A.length) (g : Chain P c all B kb s tt e) : Chain P c all (A ++ B) (ka ++ kb) st (ss ++ tt) e := by
 induction h with
 | nil ks st => obtain rfl := List.length_eq_zero_iff.1 hl; exact g
 | cons o r k ks st s ss e' h hr ih => exact .cons o _ k _ st s _ e h (ih (by simpa using hl) g)
theorem Av {c : Cfg} {all : List Oper} {oc : Oper} {B : List Oper} {kb : List DK} : ∀ (A : List Oper) (ka : List DK) (st : St) (K : St → Prop), ka.length = A.length → (∀ k ∈ ka ++ kb, Cy (gD k) = true ∧ k.isNd = false) → oc.guard = none → eF P c all (A ++ oc :: B) (ka ++ .nd :: kb) st K →
  ∃ ssA eA Q, Chain P c all A ka st ssA eA ∧ bL oc eA ∧ Hd P oc.dst oc.op eA Q ∧ ∀ r σ0, Q r σ0 → ∃ ssB e, Chain P c all B kb (({ eA with obj := σ0 } : St).put oc.dst (.d r)) ssB e ∧ K e
 | [], [], st, K, _, hw, hg, h => by
  obtain ⟨hd, h⟩ := h;rw [hg] at h;obtain ⟨Q, h1, h2⟩ := h;exact ⟨[], st, Q, .nil [] st, hd, h1, fun r σ0 hq => rY B kb _ K (fun k hk => hw k (by simpa using hk)) (h2 r σ0 hq)⟩
 | o :: A, k :: ka, st, K, hl, hw, hg, h => by
  obtain ⟨hd, h⟩ := h;have hs : ∃ s, eF P c all (A ++ oc :: B) (ka ++ .nd :: kb) s K ∧ Step P c all o k st s := by
   refine Fc (hw k (by simp)).2 (vK (hw k (by simp)).1) hd ?_;split at h
   ·rename_i hg; rw [hg]; exact h
   ·rename_i j want hg;rw [hg];split at h
    ·rename_i t ht;split at h
     ·rename_i b hb;exact ⟨t, b, ht, hb, h.1, h.2⟩
     ·exact h.elim
    ·exact h.elim
  obtain ⟨s, h1, h2⟩ := hs;obtain ⟨ssA, eA, Q, h3, h4⟩ := Av A ka s K (by simpa using hl) (fun k hk => hw k (List.mem_cons_of_mem _ hk)) hg h1;exact ⟨s :: ssA, eA, Q, .cons o A k ka st s ssA eA h2 h3, h4⟩
 | [], _ :: _, _, _, hl, _, _, _ => by simp at hl
 | _ :: _, [], _, _, hl, _, _, _ => by simp at hl
end
end Go.Vm
namespace Go.Vm
open Go
set_option linter.all false
section
variable {P : Program}
theorem St.ext' {a b : St} (h1 : a.n = b.n) (h2 : ∀ t, a.env t = b.env t) (h3 : a.loc = b.loc) (h4 : a.obj = b.obj) : a = b := by
 cases a; cases b;simp only at h1 h3 h4;subst h1; subst h3; subst h4;congr 1;exact funext h2
def U (ds : List Delta) (s : St) (k : Nat) : St := s.upd (ds.getD k ⟨[], none, none⟩)
def dl (c : Cfg) : List Oper → List DK → List St → List Delta
 | o :: r, k :: ks, s :: ss => cC (jF c o.dst o.op k) (gD k) s :: dl c r ks ss
 | _, _, _ => []
theorem vQ {c : Cfg} {B : List Oper} {kb : List DK} {tt : List St} : ∀ (A : List Oper) (ka : List DK) (ss : List St), ka.length = A.length → ss.length = A.length → dl c (A ++ B) (ka ++ kb) (ss ++ tt) = dl c A ka ss ++ dl c B kb tt
 | [], [], [], _, _ => rfl
 | o :: A, k :: ka, s :: ss, h1, h2 => by simp only [List.cons_append, dl]; rw [vQ A ka ss (by simpa using h1) (by simpa using h2)]
 | [], _ :: _, _, h, _ => by simp at h
 | [], [], _ :: _, _, h => by simp at h
 | _ :: _, [], _, h, _ => by simp at h
 | _ :: _, _ :: _, [], _, h => by simp at h
theorem Chain.len {c : Cfg} {all : List Oper} {r : List Oper} {ks : List DK} {st : St} {ss : List St} {e : St} (h : Chain P c all r ks st ss e) : ss.length = r.length := by
 induction h with
 | nil ks st => rfl
 | cons o r k ks st s ss e h hr ih => simp [ih]
theorem jL {c : Cfg} {all : List Oper} {r : List Oper} {ks : List DK} {st : St} {ss : List St} {e : St} (h : Chain P c all r ks st ss e) : (dl c r ks ss).length = r.length ∧ e = (dl c r ks ss).foldl St.upd st ∧
  ∀ (k : Nat) (o : Oper) (kk : DK), r[k]? = some o → ks[k]? = some kk → ∃ s, (dl c r ks ss)[k]? = some (cC (jF c o.dst o.op kk) (gD kk) s) ∧
   (Ha c o.dst o.op kk = true → ∃ J, s.obj = (((dl c r ks ss).take k).foldl St.upd st).obj ++ J) ∧
   (kk.isNd = false → ∀ st', AgreeD (lC c all o kk) (gD kk) (oY c o.dst o.op kk) (((dl c r ks ss).take k).foldl St.upd st) st' → sE P all o st' (· = st'.upd (cC (jF c o.dst o.op kk) (gD kk) s))) := by
 induction h with
 | nil ks st => exact ⟨by simp [dl], by simp [dl], fun k o kk h => by simp at h⟩
 | cons o r k ks st s ss e h hr ih =>
  obtain ⟨h1, h2, h3⟩ := ih;refine ⟨by simp [dl, h1], ?_, fun i o' kk a1 a2 => ?_⟩
  ·simp only [dl, List.foldl_cons, ← h.self];exact h2
  ·match i with
   | 0 =>
    simp at a1 a2;subst a1; subst a2;exact ⟨s, by simp [dl], fun e => by simpa using h.app e, fun hn st' ha => h.go hn st' (by simpa using ha)⟩
   | i + 1 =>
    obtain ⟨s', b1, b0, b2⟩ := h3 i o' kk (by simpa using a1) (by simpa using a2);refine ⟨s', by simpa [dl] using b1, fun e => by simpa [dl, ← h.self] using b0 e, fun hn st' ha => b2 hn st' ?_⟩;simp only [dl, List.take_succ_cons, List.foldl_cons, ← h.self] at ha;exact ha
theorem eV (ds : List Delta) (st : St) : ∀ k, k ≤ ds.length → (List.range k).foldl (U ds) st = (ds.take k).foldl St.upd st
 | 0, _ => by simp
 | k + 1, h => by
  rw [List.range_succ, List.foldl_append, eV ds st k (by omega), List.take_succ_eq_append_getElem (by omega), List.foldl_append];simp only [List.foldl_cons, List.foldl_nil, U];congr 1;simp [List.getD, List.getElem?_eq_getElem (show k < ds.length by omega)]
theorem iD (ds : List Delta) (p : Nat → Bool) (t : Nat) (hp : ∀ k, p k = false → ∀ s, (U ds s k).env t = s.env t) (hq : ∀ k, ∀ s s' : St, s.env t = s'.env t → (U ds s k).env t = (U ds s' k).env t) : ∀ (L : List Nat) (s s' : St), s.env t = s'.env t → (L.foldl (U ds) s).env t = ((L.filter p).foldl (U ds) s').env t
 | [], s, s', h => h
 | k :: L, s, s', h => by
  simp only [List.foldl_cons, List.filter_cons];cases hk : p k with
  | true => simp only [if_true, List.foldl_cons]; exact iD ds p t hp hq L _ _ (hq k s s' h)
  | false => simp only [Bool.false_eq_true, if_false]; exact iD ds p t hp hq L _ _ (by rw [hp k hk]; exact h)
theorem iP (ds : List Delta) (p : Nat → Bool) (hp : ∀ k, p k = false → ∀ s, (U ds s k).loc = s.loc) (hq : ∀ k, ∀ s s' : St, s.loc = s'.loc → (U ds s k).loc = (U ds s' k).loc) : ∀ (L : List Nat) (s s' : St), s.loc = s'.loc → (L.foldl (U ds) s).loc = ((L.filter p).foldl (U ds) s').loc
 | [], s, s', h => h
 | k :: L, s, s', h => by
  simp only [List.foldl_cons, List.filter_cons];cases hk : p k with
  | true => simp only [if_true, List.foldl_cons]; exact iP ds p hp hq L _ _ (hq k s s' h)
  | false => simp only [Bool.false_eq_true, if_false]; exact iP ds p hp hq L _ _ (by rw [hp k hk]; exact h)
theorem gT (ds : List Delta) (p : Nat → Bool) (hp : ∀ k, p k = false → ∀ s, (U ds s k).obj = s.obj) (hq : ∀ k, ∀ s s' : St, s.obj = s'.obj → (U ds s k).obj = (U ds s' k).obj) : ∀ (L : List Nat) (s s' : St), s.obj = s'.obj → (L.foldl (U ds) s).obj = ((L.filter p).foldl (U ds) s').obj
 | [], s, s', h => h
 | k :: L, s, s', h => by
  simp only [List.foldl_cons, List.filter_cons];cases hk : p k with
  | true => simp only [if_true, List.foldl_cons]; exact gT ds p hp hq L _ _ (hq k s s' h)
  | false => simp only [Bool.false_eq_true, if_false]; exact gT ds p hp hq L _ _ (by rw [hp k hk]; exact h)
theorem oU (ds : List Delta) : ∀ (L : List Nat) (s : St), (L.foldl (U ds) s).n = s.n
 | [], _ => rfl
 | k :: L, s => by rw [List.foldl_cons, oU ds L]; rfl
theorem gZ (n j : Nat) (hj : j ≤ n) (p q : Nat → Bool) (h : ∀ k, k < n → p k = (decide (k < j) && q k)) : (List.range n).filter p = (List.range j).filter q := by
 have e : List.range n = List.range j ++ (List.range (n - j)).map (j + ·) := by
  rw [← List.range_add]; congr 1; omega
 rw [e, List.filter_append];have h1 : (List.range j).filter p = (List.range j).filter q := List.filter_congr fun k hk => by
  rw [List.mem_range] at hk;rw [h k (by omega)];simp [hk]
 have h2 : ((List.range (n - j)).map (j + ·)).filter p = [] := by
  rw [List.filter_eq_nil_iff];intro k hk;obtain ⟨i, hi, rfl⟩ := List.mem_map.1 hk;rw [List.mem_range] at hi;rw [h _ (by omega)];have : ¬ (j + i < j) := by omega
  simp [this]
 rw [h1, h2, List.append_nil]
theorem fV (n j : Nat) (hj : j < n) (p q : Nat → Bool) (h : ∀ k, k < n → p k = ((decide (k < j) && q k) || decide (k = j))) : (List.range n).filter p = (List.range j).filter q ++ [j] := by
 have : (List.range n).filter p = (List.range (j + 1)).filter p := gZ n (j + 1) hj p p fun k hk => by
  rw [h k hk];by_cases h1 : k < j
  ·simp [h1, show k < j + 1 by omega]
  ·by_cases h2 : k = j
   ·simp [h2]
   ·simp [h1, h2]
 rw [this, List.range_succ, List.filter_append];congr 1
 ·exact List.filter_congr fun k hk => by
   rw [List.mem_range] at hk;rw [h k (by omega)];simp [hk, show ¬ k = j by omega]
 ·simp [h j hj]
structure DrawFacts (P : Program) (c : Cfg) (all : List Oper) (wt : Nat → Nat → Bool) (ops : List Oper) (ks : List DK) (st : St) (ds : List Delta) : Prop where
 len : ks.length = ops.length
 dlen : ds.length = ops.length
 apart : ∀ (i j : Nat) (oi oj : Oper) (ki kj : DK), ops[i]? = some oi → ks[i]? = some ki → ops[j]? = some oj → ks[j]? = some kj → i < j → wt i j = false → (oJ c all oi ki).apart (oJ c all oj kj) = true
 step : ∀ (k : Nat) (o : Oper) (kk : DK), ops[k]? = some o → ks[k]? = some kk → ∃ s, ds[k]? = some (cC (jF c o.dst o.op kk) (gD kk) s) ∧
   (Ha c o.dst o.op kk = true → ∃ J, s.obj = ((ds.take k).foldl St.upd st).obj ++ J) ∧
   (kk.isNd = false → ∀ st', AgreeD (lC c all o kk) (gD kk) (oY c o.dst o.op kk) ((ds.take k).foldl St.upd st) st' → sE P all o st' (· = st'.upd (cC (jF c o.dst o.op kk) (gD kk) s)))
theorem xA {c : Cfg} {all ops : List Oper} {ks : List DK} {i : Nat} {o : Oper} {k : DK} (ho : ops[i]? = some o) (hk : ks[i]? = some k) : (Tz c all ops ks)[i]? = some (oJ c all o k) := by
 simp only [Tz, List.getElem?_map, Option.map_eq_some_iff];exact ⟨(o, k), List.getElem?_zip_eq_some.2 ⟨ho, hk⟩, rfl⟩
structure Ord (all : List Oper) (π : List Nat) : Prop where
 len : π.length = all.length
 all_ : ∀ i, i < all.length → ∃ p : Nat, p < all.length ∧ π[p]? = some i
 nodup : π.Nodup
 lt_ : ∀ i ∈ π, i < all.length
theorem qS : ∀ {l : List Nat}, tP l = true → l.Nodup
 | [], _ => List.nodup_nil
 | a :: l, h => by
  simp only [tP, Bool.and_eq_true, Bool.not_eq_true'] at h;exact List.nodup_cons.2 ⟨by simpa using h.1, qS h.2⟩
theorem Ord.lt {all : List Oper} {π : List Nat} (h : Ord all π) {p i : Nat} (hp : π[p]? = some i) : i < all.length := h.lt_ i (List.mem_of_getElem? hp)
theorem Ord.of {all : List Oper} {π : List Nat} (h1 : π.length = all.length) (h2 : ∀ i, i < all.length → π.contains i = true) (h3 : tP π = true) (h4 : ∀ i ∈ π, i < all.length) : Ord all π :=
 ⟨h1, fun i hi => by
  obtain ⟨p, hp⟩ := List.mem_iff_getElem?.1 (by simpa using h2 i hi : i ∈ π);exact ⟨p, by have := (List.getElem?_eq_some_iff.1 hp).1; omega, hp⟩, qS h3, h4⟩
theorem pF {all : List Oper} : ∀ {π : List Nat}, (∀ i ∈ π, i < all.length) → (bC π all).length = π.length ∧ ∀ p : Nat, (bC π all)[p]? = (π[p]?).bind (all[·]?)
 | [], _ => ⟨rfl, fun p => by simp [bC]⟩
 | i :: π, h => by
  obtain ⟨h1, h2⟩ := pF (π := π) fun j hj => h j (by simp [hj]);have hlt := h i (by simp);have hi : all[i]? = some all[i] := List.getElem?_eq_getElem hlt;have e : bC (i :: π) all = all[i] :: bC π all := by simp [bC, hi]
  rw [e];refine ⟨by simp [h1], fun p => ?_⟩;cases p with
  | zero => simp [hi]
  | succ p => simp [h2 p]
theorem Ord.get {all : List Oper} {π : List Nat} (h : Ord all π) : (bC π all).length = all.length ∧ ∀ p : Nat, (bC π all)[p]? = (π[p]?).bind (all[·]?) := by
 have := pF (all := all) (π := π) fun i hi => by
  obtain ⟨p, hp⟩ := List.mem_iff_getElem?.1 hi;exact h.lt hp
 exact ⟨by rw [this.1, h.len], this.2⟩
theorem tA {c : Cfg} {all : List Oper} {π : List Nat} {ks : List DK} {st e : St} {ss : List St} (hok : lS c all π ks = true) (hc : Chain P c all (bC π all) ks st ss e) :
  Ord all π ∧ (∀ (k : Nat) (o : Oper), all[k]? = some o → ∀ e ∈ o.after.toList, Region.binds .any e = true → e.on < k) ∧ DrawFacts P c all (fun i j => fT all (π.getD i 0) (π.getD j 0)) (bC π all) ks st (dl c (bC π all) ks ss) ∧ e = (dl c (bC π all) ks ss).foldl St.upd st := by
 obtain ⟨h1, h2, h3⟩ := jL hc;unfold lS at hok;simp only [Bool.and_eq_true] at hok;obtain ⟨⟨⟨⟨g1, g2⟩, g3⟩, g0, g5, g6, g7⟩, g4⟩ := hok;have hord : Ord all π := by
  rw [List.all_eq_true] at g5 g7;exact Ord.of (by simpa using g0) (fun i hi => g5 i (List.mem_range.2 hi)) g6 fun i hi => by simpa using g7 i hi
 refine ⟨hord, fun k o ho e he hb => ?_, ⟨by rw [hord.get.1]; simpa using g1, h1, fun i j oi oj ki kj a1 a2 a3 a4 hij hw => ?_, h3⟩, h2⟩
 ·rw [List.all_eq_true] at g3;have hm : (o, k) ∈ all.zipIdx := List.mem_iff_getElem?.2 ⟨k, by simp [ho]⟩;have := g3 _ hm;rw [List.all_eq_true] at this;have := this e he;simpa [hb] using this
 ·rw [List.all_eq_true] at g4;have hmj : (oJ c all oj kj, j) ∈ (Tz c all (bC π all) ks).zipIdx := List.mem_iff_getElem?.2 ⟨j, by simp [xA a3 a4]⟩;have hmi : (oJ c all oi ki, i) ∈ (Tz c all (bC π all) ks).zipIdx := List.mem_iff_getElem?.2 ⟨i, by simp [xA a1 a2]⟩;have := g4 _ hmj;rw [List.all_eq_true] at this;have := this _ hmi;have e : (!decide (i < j)) = false := by simp [hij]
  rw [e, Bool.false_or] at this;have hw' : fT all (π.getD i 0) (π.getD j 0) = false := hw;rw [hw', Bool.false_or] at this;exact this
theorem cR {a b : FP} (h : a.apart b = true) : (∀ t, t ∈ a.ws → t ∉ b.ws ∧ t ∉ b.rs) ∧ (∀ t, t ∈ b.ws → t ∉ a.rs) ∧ (a.f.wL = true → b.f.rL = false ∧ b.f.wL = false) ∧ (b.f.wL = true → a.f.rL = false) ∧ (a.f.wO = true → b.f.rO = false ∧ b.f.wO = false) ∧ (b.f.wO = true → a.f.rO = false ∨ (a.t = true ∧ b.a = true)) := by
 unfold FP.apart at h;simp only [Bool.and_eq_true, List.all_eq_true, Bool.not_eq_true', Bool.and_eq_false_iff, Bool.or_eq_false_iff] at h;obtain ⟨⟨⟨⟨⟨h1, h2⟩, h3⟩, h4⟩, h5⟩, h6⟩ := h;refine ⟨fun t ht => ?_, fun t ht => ?_, fun hw => ?_, fun hw => ?_, fun hw => ?_, fun hw => ?_⟩
 ·have := h1 t ht; simpa using this
 ·have := h2 t ht; simpa using this
 ·rcases h3 with h | h
  ·rw [hw] at h; cases h
  ·exact h
 ·rcases h4 with h | h
  ·rw [hw] at h; cases h
  ·exact h
 ·rcases h5 with h | h
  ·rw [hw] at h; cases h
  ·exact h
 ·rcases h6 with (h | h) | h
  ·rw [hw] at h; cases h
  ·exact .inl h
  ·exact .inr (by simpa using h)
section
variable {c : Cfg} {all ops : List Oper} {wt : Nat → Nat → Bool} {ks : List DK} {st : St} {ds : List Delta}
def dT (st : St) (ds : List Delta) (n : Nat) (E : Nat → Bool) : St := ((List.range n).filter E).foldl (U ds) st
def cO (c : Cfg) (all ops : List Oper) (ks : List DK) (k : Nat) : FP := ((Tz c all ops ks)[k]?).getD ⟨[], [], ⟨false, false, false, false⟩, false, false⟩
theorem DrawFacts.at (h : DrawFacts P c all wt ops ks st ds) {k : Nat} (hk : k < ops.length) : ∃ o kk s, ops[k]? = some o ∧ ks[k]? = some kk ∧ cO c all ops ks k = oJ c all o kk ∧ ds[k]? = some (cC (jF c o.dst o.op kk) (gD kk) s) ∧
  (Ha c o.dst o.op kk = true → ∃ J, s.obj = ((ds.take k).foldl St.upd st).obj ++ J) ∧
  (kk.isNd = false → ∀ st', AgreeD (lC c all o kk) (gD kk) (oY c o.dst o.op kk) ((ds.take k).foldl St.upd st) st' → sE P all o st' (· = st'.upd (cC (jF c o.dst o.op kk) (gD kk) s))) := by
 have ho : ops[k]? = some ops[k] := List.getElem?_eq_getElem hk;have hk2 : k < ks.length := by rw [h.len]; exact hk
 have hkk : ks[k]? = some ks[k] := List.getElem?_eq_getElem hk2;obtain ⟨s, h1, h0, h2⟩ := h.step k _ _ ho hkk;exact ⟨_, _, s, ho, hkk, by simp [cO, xA ho hkk], h1, h0, h2⟩
theorem DrawFacts.sep (h : DrawFacts P c all wt ops ks st ds) {i j : Nat} (hij : i < j) (hj : j < ops.length) (hw : wt i j = false) : (cO c all ops ks i).apart (cO c all ops ks j) = true := by
 obtain ⟨oi, ki, _, a1, a2, a3, _⟩ := h.at (show i < ops.length by omega);obtain ⟨oj, kj, _, b1, b2, b3, _⟩ := h.at hj;rw [a3, b3];exact h.apart i j oi oj ki kj a1 a2 b1 b2 hij hw
theorem DrawFacts.env (h : DrawFacts P c all wt ops ks st ds) (t k : Nat) : ((cO c all ops ks k).ws.contains t = false → ∀ s, (U ds s k).env t = s.env t) ∧ (∀ s s' : St, s.env t = s'.env t → (U ds s k).env t = (U ds s' k).env t) := by
 by_cases hk : k < ops.length
 ·obtain ⟨o, kk, s0, a1, a2, a3, a4, _⟩ := h.at hk;have e : ∀ s : St, (U ds s k).env t = if t ∈ jF c o.dst o.op kk then s0.env t else s.env t := fun s => by
   simp only [U, List.getD, a4, Option.getD_some];exact jK _ _ _ _ _
  refine ⟨fun hc s => ?_, fun s s' hs => ?_⟩
  ·rw [a3] at hc;have : t ∉ jF c o.dst o.op kk := by simpa [oJ] using hc
   rw [e, if_neg this]
  ·rw [e, e, hs]
 ·have : ∀ s : St, U ds s k = s := fun s => by
   simp only [U, List.getD, List.getElem?_eq_none (show ds.length ≤ k by rw [h.dlen]; omega), Option.getD_none];rfl
  exact ⟨fun _ s => by rw [this], fun s s' hs => by rw [this, this]; exact hs⟩
theorem DrawFacts.loc (h : DrawFacts P c all wt ops ks st ds) (k : Nat) : ((cO c all ops ks k).f.wL = false → ∀ s, (U ds s k).loc = s.loc) ∧ (∀ s s' : St, s.loc = s'.loc → (U ds s k).loc = (U ds s' k).loc) := by
 by_cases hk : k < ops.length
 ·obtain ⟨o, kk, s0, a1, a2, a3, a4, _⟩ := h.at hk;have e : ∀ s : St, (U ds s k).loc = if (gD kk).wL then s0.loc else s.loc := fun s => by
   simp only [U, List.getD, a4, Option.getD_some, St.upd, cC];split <;> rfl
  refine ⟨fun hc s => ?_, fun s s' hs => ?_⟩
  ·rw [a3] at hc;rw [e, if_neg (by simpa [oJ] using hc)]
  ·rw [e, e, hs]
 ·have : ∀ s : St, U ds s k = s := fun s => by
   simp only [U, List.getD, List.getElem?_eq_none (show ds.length ≤ k by rw [h.dlen]; omega), Option.getD_none];rfl
  exact ⟨fun _ s => by rw [this], fun s s' hs => by rw [this, this]; exact hs⟩
theorem DrawFacts.obj (h : DrawFacts P c all wt ops ks st ds) (k : Nat) : ((cO c all ops ks k).f.wO = false → ∀ s, (U ds s k).obj = s.obj) ∧ (∀ s s' : St, s.obj = s'.obj → (U ds s k).obj = (U ds s' k).obj) := by
 by_cases hk : k < ops.length
 ·obtain ⟨o, kk, s0, a1, a2, a3, a4, _⟩ := h.at hk;have e : ∀ s : St, (U ds s k).obj = if (gD kk).wO then s0.obj else s.obj := fun s => by
   simp only [U, List.getD, a4, Option.getD_some, St.upd, cC];split <;> rfl
  refine ⟨fun hc s => ?_, fun s s' hs => ?_⟩
  ·rw [a3] at hc;rw [e, if_neg (by simpa [oJ] using hc)]
  ·rw [e, e, hs]
 ·have : ∀ s : St, U ds s k = s := fun s => by
   simp only [U, List.getD, List.getElem?_eq_none (show ds.length ≤ k by rw [h.dlen]; omega), Option.getD_none];rfl
  exact ⟨fun _ s => by rw [this], fun s s' hs => by rw [this, this]; exact hs⟩
def gA (wt : Nat → Nat → Bool) (E : Nat → Bool) : Prop := ∀ i j, E j = true → wt i j = true → E i = true
theorem DrawFacts.seen (h : DrawFacts P c all wt ops ks st ds) {E : Nat → Bool} (hE : gA wt E) {j : Nat} (hj : j < ops.length) (hnj : E j = false) (hready : ∀ i, wt i j = true → E i = true) (q : Nat → Bool)
  (hq : ∀ k, k < ops.length → k ≠ j → q k = true → (k < j → (cO c all ops ks k).apart (cO c all ops ks j) = false) ∧ (j < k → (cO c all ops ks j).apart (cO c all ops ks k) = false)) :
  ∀ k, k < ops.length → (E k && q k) = (decide (k < j) && q k) := by
 intro k hk;cases hqk : q k with
 | false => simp
 | true =>
  simp only [Bool.and_true];by_cases hkj : k = j
  ·subst hkj; simp [hnj]
  ·obtain ⟨h1, h2⟩ := hq k hk hkj hqk;by_cases hlt : k < j
   ·have : wt k j = true := by
     cases hw : wt k j with
     | true => rfl
     | false => have := h.sep hlt hj hw; rw [h1 hlt] at this; cases this
    simp [hlt, hready k this]
   ·have hgt : j < k := by omega
    have hw : wt j k = true := by
     cases hw : wt j k with
     | true => rfl
     | false => have := h.sep hgt hk hw; rw [h2 hgt] at this; cases this
    cases hek : E k with
    | false => simp [hlt]
    | true => have := hE j k hek hw; rw [hnj] at this; cases this
theorem eO {a b : FP} (h : ¬ (a.apart b = true)) : a.apart b = false := by simpa using h
theorem DrawFacts.env_seen (h : DrawFacts P c all wt ops ks st ds) {E : Nat → Bool} (hE : gA wt E) {j : Nat} (hj : j < ops.length) (hnj : E j = false) (hready : ∀ i, wt i j = true → E i = true) {t : Nat} (ht : t ∈ (cO c all ops ks j).rs) (hws : t ∈ (cO c all ops ks j).ws → t ∈ (cO c all ops ks j).rs) :
  ∀ k, k < ops.length → (E k && (cO c all ops ks k).ws.contains t) = (decide (k < j) && (cO c all ops ks k).ws.contains t) := by
 refine h.seen hE hj hnj hready (fun k => (cO c all ops ks k).ws.contains t) fun k hk hkj hq => ?_;have hm : t ∈ (cO c all ops ks k).ws := by simpa using hq
 refine ⟨fun _ => eO fun ha => ?_, fun _ => eO fun ha => ?_⟩
 ·exact ((cR ha).1 t hm).2 ht
 ·exact (cR ha).2.1 t hm ht
theorem DrawFacts.obj_pre (h : DrawFacts P c all wt ops ks st ds) {E : Nat → Bool} (hE : gA wt E) {j : Nat} (hj : j < ops.length) (hnj : E j = false) (hready : ∀ i, wt i j = true → E i = true) (hl : (cO c all ops ks j).f.rO = true) : ∃ J, (dT st ds ops.length E).obj = ((ds.take j).foldl St.upd st).obj ++ J := by
 have hdl := h.dlen
 let W : Nat → Bool := fun k => (cO c all ops ks k).f.wO
 have fold : ∀ (L : List Nat), (L.foldl (U ds) st).obj = ((L.filter W).foldl (U ds) st).obj := fun L => gT ds W (fun k => (h.obj k).1) (fun k => (h.obj k).2) L st st rfl
 -- who writes and fT for nobody outside E
 have below : ∀ m, m < ops.length → (m = j ∨ (E m = true ∧ W m = true)) → ∀ k, k < m → W k = true → E k = true := by
  intro m hm hc k hk hw;rcases hc with rfl | ⟨he, hwm⟩
  ·cases hwt : wt k m with
   | true => exact hready k hwt
   | false => have := ((cR (h.sep hk hm hwt)).2.2.2.2.1 hw).1; rw [hl] at this; cases this
  ·cases hwt : wt k m with
   | true => exact hE k m he hwt
   | false => have := ((cR (h.sep hk hm hwt)).2.2.2.2.1 hw).2; rw [show (cO c all ops ks m).f.wO = true from hwm] at this; cases this
 have chain : ∀ m, m < ops.length → (m = j ∨ (E m = true ∧ W m = true)) → (((List.range m).filter E).foldl (U ds) st).obj = ((ds.take m).foldl St.upd st).obj := by
  intro m hm hc;rw [← eV ds st m (by omega), fold, fold (List.range m), List.filter_filter];congr 2;refine List.filter_congr fun k hk => ?_;rw [List.mem_range] at hk;cases hw : W k with
  | false => simp
  | true => simp [below m hm hc k hk hw]
 have go : ∀ n, j + n ≤ ops.length → ∃ J, (((List.range (j + n)).filter E).foldl (U ds) st).obj = ((ds.take j).foldl St.upd st).obj ++ J := by
  intro n;induction n with
  | zero => intro _; exact ⟨[], by rw [Nat.add_zero, chain j hj (.inl rfl), List.append_nil]⟩
  | succ n ih =>
   intro hn;obtain ⟨J, hJ⟩ := ih (by omega);rw [show j + (n + 1) = j + n + 1 by omega, List.range_succ, List.filter_append, List.foldl_append];cases he : E (j + n) with
   | false => simp only [List.filter_cons, he, List.filter_nil, List.foldl_nil]; exact ⟨J, hJ⟩
   | true =>
    simp only [List.filter_cons, he, List.filter_nil, if_true, List.foldl_cons, List.foldl_nil];have hne : n ≠ 0 := by rintro rfl; rw [Nat.add_zero, hnj] at he; cases he
    cases hw : W (j + n) with
    | false => rw [(h.obj (j + n)).1 hw]; exact ⟨J, hJ⟩
    | true =>
     have hap : (cO c all ops ks j).apart (cO c all ops ks (j + n)) = true := by
      cases hwt : wt j (j + n) with
      | true => have := hE j (j + n) he hwt; rw [hnj] at this; cases this
      | false => exact h.sep (by omega) (by omega) hwt
     have ha : (cO c all ops ks (j + n)).a = true := by
      rcases (cR hap).2.2.2.2.2 hw with e | e
      ·rw [hl] at e; cases e
      ·exact e.2
     obtain ⟨o, kk, s0, a1, a2, a3, a4, a0, _⟩ := h.at (show j + n < ops.length by omega);rw [a3] at ha;obtain ⟨J', hJ'⟩ := a0 ha;have hwk : (gD kk).wO = true := by have := hw; simp only [W, a3, oJ] at this; exact this
     have e : ∀ s : St, (U ds s (j + n)).obj = s0.obj := fun s => by
      simp only [U, List.getD, a4, Option.getD_some, St.upd, cC, hwk, if_true]
     rw [e, hJ', ← chain (j + n) (by omega) (.inr ⟨he, hw⟩), hJ];exact ⟨J ++ J', by rw [List.append_assoc]⟩
 obtain ⟨J, hJ⟩ := go (ops.length - j) (by omega);rw [show j + (ops.length - j) = ops.length by omega] at hJ;exact ⟨J, hJ⟩
theorem DrawFacts.agree (h : DrawFacts P c all wt ops ks st ds) {E : Nat → Bool} (hE : gA wt E) {j : Nat} (hj : j < ops.length) (hnj : E j = false) (hready : ∀ i, wt i j = true → E i = true) : AgreeD (cO c all ops ks j).rs (cO c all ops ks j).f (cO c all ops ks j).t ((ds.take j).foldl St.upd st) (dT st ds ops.length E) := by
 have hdl := h.dlen;refine ⟨?_, fun t ht => ?_, fun hl => ?_, fun hl => ?_⟩
 ·rw [← eV ds st j (by omega)];unfold dT;rw [oU, oU]
 ·rw [← eV ds st j (by omega)];unfold dT;rw [iD ds (fun k => (cO c all ops ks k).ws.contains t) t (fun k => (h.env t k).1) (fun k => (h.env t k).2) ((List.range ops.length).filter E) st st rfl,
   iD ds (fun k => (cO c all ops ks k).ws.contains t) t (fun k => (h.env t k).1) (fun k => (h.env t k).2) (List.range j) st st rfl, List.filter_filter]
  rw [gZ ops.length j (by omega) _ (fun k => (cO c all ops ks k).ws.contains t)];intro k hk;rw [Bool.and_comm];exact h.env_seen hE hj hnj hready ht (fun _ => ht) k hk
 ·rw [← eV ds st j (by omega)];unfold dT;rw [iP ds (fun k => (cO c all ops ks k).f.wL) (fun k => (h.loc k).1) (fun k => (h.loc k).2) ((List.range ops.length).filter E) st st rfl,
   iP ds (fun k => (cO c all ops ks k).f.wL) (fun k => (h.loc k).1) (fun k => (h.loc k).2) (List.range j) st st rfl, List.filter_filter]
  rw [gZ ops.length j (by omega) _ (fun k => (cO c all ops ks k).f.wL)];intro k hk;rw [Bool.and_comm];refine h.seen hE hj hnj hready (fun k => (cO c all ops ks k).f.wL) (fun k hk hkj hq => ⟨fun _ => eO fun ha => ?_, fun _ => eO fun ha => ?_⟩) k hk
  ·have := ((cR ha).2.2.1 hq).1; rw [hl] at this; cases this
  ·have := (cR ha).2.2.2.1 hq; rw [hl] at this; cases this
 ·refine ⟨fun ht => ?_, h.obj_pre hE hj hnj hready hl⟩;rw [← eV ds st j (by omega)];unfold dT;rw [gT ds (fun k => (cO c all ops ks k).f.wO) (fun k => (h.obj k).1) (fun k => (h.obj k).2) ((List.range ops.length).filter E) st st rfl,
   gT ds (fun k => (cO c all ops ks k).f.wO) (fun k => (h.obj k).1) (fun k => (h.obj k).2) (List.range j) st st rfl, List.filter_filter]
  rw [gZ ops.length j (by omega) _ (fun k => (cO c all ops ks k).f.wO)];intro k hk;rw [Bool.and_comm];refine h.seen hE hj hnj hready (fun k => (cO c all ops ks k).f.wO) (fun k hk hkj hq => ⟨fun _ => eO fun ha => ?_, fun _ => eO fun ha => ?_⟩) k hk
  ·have := ((cR ha).2.2.2.2.1 hq).1; rw [hl] at this; cases this
  ·rcases (cR ha).2.2.2.2.2 hq with this | ⟨this, _⟩
   ·rw [hl] at this; cases this
   ·rw [ht] at this; cases this
theorem DrawFacts.next (h : DrawFacts P c all wt ops ks st ds) {E : Nat → Bool} (hE : gA wt E) {j : Nat} (hj : j < ops.length) (hnj : E j = false) (hready : ∀ i, wt i j = true → E i = true) :
  dT st ds ops.length (fun k => E k || decide (k = j)) = U ds (dT st ds ops.length E) j := by
 obtain ⟨o, kk, s0, a1, a2, a3, a4, _, a5⟩ := h.at hj;have hwsrs : ∀ t, t ∈ (cO c all ops ks j).ws → t ∈ (cO c all ops ks j).rs := fun t ht => by
  rw [a3] at ht ⊢;simp only [oJ, lC] at ht ⊢;simp [ht]
 have eU : ∀ s : St, U ds s j = s.upd (cC (jF c o.dst o.op kk) (gD kk) s0) := fun s => by simp only [U, List.getD, a4, Option.getD_some]
 refine St.ext' ?_ (fun t => ?_) ?_ ?_
 ·rw [eU]; unfold dT; rw [oU]; show _ = ((List.range ops.length).filter E |>.foldl (U ds) st).n; rw [oU]
 ·by_cases ht : t ∈ (cO c all ops ks j).ws
  ·have lhs : (dT st ds ops.length (fun k => E k || decide (k = j))).env t = s0.env t := by
    unfold dT;rw [iD ds (fun k => (cO c all ops ks k).ws.contains t) t (fun k => (h.env t k).1) (fun k => (h.env t k).2) _ st st rfl, List.filter_filter];rw [fV ops.length j hj _ (fun k => (cO c all ops ks k).ws.contains t)]
    ·rw [List.foldl_append, List.foldl_cons, List.foldl_nil, eU, jK];rw [a3] at ht;exact if_pos ht
    ·intro k hk;have hs := h.env_seen hE hj hnj hready (hwsrs t ht) (hwsrs t) k hk;by_cases hkj : k = j
     ·subst hkj;simp [ht]
     ·simp only [hkj, decide_false, Bool.or_false];rw [Bool.and_comm];exact hs
   rw [lhs, eU, jK];rw [a3] at ht;exact (if_pos ht).symm
  ·have hc : (cO c all ops ks j).ws.contains t = false := by simpa using ht
   rw [(h.env t j).1 hc];unfold dT;rw [iD ds (fun k => (cO c all ops ks k).ws.contains t) t (fun k => (h.env t k).1) (fun k => (h.env t k).2) ((List.range ops.length).filter E) st st rfl,
    iD ds (fun k => (cO c all ops ks k).ws.contains t) t (fun k => (h.env t k).1) (fun k => (h.env t k).2) _ st st rfl, List.filter_filter, List.filter_filter]
   congr 2;refine List.filter_congr fun k _ => ?_;by_cases hkj : k = j
   ·subst hkj; simp [ht]
   ·simp [hkj]
 ·cases hl : (cO c all ops ks j).f.wL with
  | true =>
   have lhs : (dT st ds ops.length (fun k => E k || decide (k = j))).loc = (U ds ((List.range j).filter (fun k => (cO c all ops ks k).f.wL) |>.foldl (U ds) st) j).loc := by
    unfold dT;rw [iP ds (fun k => (cO c all ops ks k).f.wL) (fun k => (h.loc k).1) (fun k => (h.loc k).2) _ st st rfl, List.filter_filter];rw [fV ops.length j hj _ (fun k => (cO c all ops ks k).f.wL)]
    ·rw [List.foldl_append, List.foldl_cons, List.foldl_nil]
    ·intro k hk;by_cases hkj : k = j
     ·subst hkj; simp [hl]
     ·simp only [hkj, decide_false, Bool.or_false];rw [Bool.and_comm];refine h.seen hE hj hnj hready (fun k => (cO c all ops ks k).f.wL) (fun k hk hkj hq => ⟨fun _ => eO fun ha => ?_, fun _ => eO fun ha => ?_⟩) k hk
      ·have := ((cR ha).2.2.1 hq).2; rw [hl] at this; cases this
      ·have := ((cR ha).2.2.1 hl).2; rw [hq] at this; cases this
   rw [lhs, eU, eU];rw [a3] at hl;simp only [oJ] at hl;simp [St.upd, cC, hl]
  | false =>
   rw [(h.loc j).1 hl];unfold dT;rw [iP ds (fun k => (cO c all ops ks k).f.wL) (fun k => (h.loc k).1) (fun k => (h.loc k).2) ((List.range ops.length).filter E) st st rfl,
    iP ds (fun k => (cO c all ops ks k).f.wL) (fun k => (h.loc k).1) (fun k => (h.loc k).2) _ st st rfl, List.filter_filter, List.filter_filter]
   congr 2;refine List.filter_congr fun k _ => ?_;by_cases hkj : k = j
   ·subst hkj; simp [hl]
   ·simp [hkj]
 ·cases hl : (cO c all ops ks j).f.wO with
  | true =>
   have lhs : (dT st ds ops.length (fun k => E k || decide (k = j))).obj = (U ds ((List.range j).filter (fun k => (cO c all ops ks k).f.wO) |>.foldl (U ds) st) j).obj := by
    unfold dT;rw [gT ds (fun k => (cO c all ops ks k).f.wO) (fun k => (h.obj k).1) (fun k => (h.obj k).2) _ st st rfl, List.filter_filter];rw [fV ops.length j hj _ (fun k => (cO c all ops ks k).f.wO)]
    ·rw [List.foldl_append, List.foldl_cons, List.foldl_nil]
    ·intro k hk;by_cases hkj : k = j
     ·subst hkj; simp [hl]
     ·simp only [hkj, decide_false, Bool.or_false];rw [Bool.and_comm];refine h.seen hE hj hnj hready (fun k => (cO c all ops ks k).f.wO) (fun k hk hkj hq => ⟨fun _ => eO fun ha => ?_, fun _ => eO fun ha => ?_⟩) k hk
      ·have := ((cR ha).2.2.2.2.1 hq).2; rw [hl] at this; cases this
      ·have := ((cR ha).2.2.2.2.1 hl).2; rw [hq] at this; cases this
   rw [lhs, eU, eU];rw [a3] at hl;simp only [oJ] at hl;simp [St.upd, cC, hl]
  | false =>
   rw [(h.obj j).1 hl];unfold dT;rw [gT ds (fun k => (cO c all ops ks k).f.wO) (fun k => (h.obj k).1) (fun k => (h.obj k).2) ((List.range ops.length).filter E) st st rfl,
    gT ds (fun k => (cO c all ops ks k).f.wO) (fun k => (h.obj k).1) (fun k => (h.obj k).2) _ st st rfl, List.filter_filter, List.filter_filter]
   congr 2;refine List.filter_congr fun k _ => ?_;by_cases hkj : k = j
   ·subst hkj; simp [hl]
   ·simp [hkj]
theorem jG {ops : List Oper} {listed : Array Bool} {i : Nat} : i ∈ Region.ready .any ops.toArray listed ↔ ∃ o, ops[i]? = some o ∧ listed.getD i true = false ∧ ∀ e ∈ o.after.toList, Region.binds .any e = true → listed.getD e.on false = true := by
 unfold Region.ready;simp only [List.mem_filter, List.mem_range, List.size_toArray, Bool.and_eq_true, Bool.not_eq_true', List.getElem?_toArray];constructor
 ·rintro ⟨h1, h2, h3⟩;rw [List.getElem?_eq_getElem h1] at h3;simp only [Option.map_some, Option.getD_some] at h3;refine ⟨_, List.getElem?_eq_getElem h1, h2, fun e he hb => ?_⟩;rw [Array.all_eq_true'] at h3;have := h3 e (by simpa using he);simpa [hb] using this
 ·rintro ⟨o, h1, h2, h3⟩;refine ⟨(List.getElem?_eq_some_iff.1 h1).1, h2, ?_⟩;rw [h1];simp only [Option.map_some, Option.getD_some];rw [Array.all_eq_true'];intro e he;cases hb : Region.binds .any e with
  | false => simp
  | true => simp [h3 e (by simpa using he) hb]
def EP (π : List Nat) (listed : Array Bool) (p : Nat) : Bool := listed.getD (π.getD p 0) false
abbrev Ub (all : List Oper) (π : List Nat) (i j : Nat) : Bool := fT all (π.getD i 0) (π.getD j 0)
theorem iX {π : List Nat} {listed : Array Bool} (hE : gA (fT all) (fun k => listed.getD k false)) : gA (Ub all π) (EP π listed) := fun i j h1 h2 => hE _ _ h1 h2
theorem oP {listed : Array Bool} (hE : gA (fT all) (fun k => listed.getD k false)) {j : Nat} {o : Oper} (ho : all[j]? = some o) (hr : ∀ e ∈ o.after.toList, Region.binds .any e = true → listed.getD e.on false = true) : ∀ i, fT all i j = true → listed.getD i false = true := by
 intro i hw;obtain ⟨e, he, hb, h1⟩ := Cz ho hw;rcases h1 with rfl | ⟨_, h1⟩
 ·exact hr e he hb
 ·exact hE i e.on (hr e he hb) h1
theorem mK {n : Nat} {E E' : Nat → Bool} (h : ∀ k, k < n → E k = E' k) : dT st ds n E = dT st ds n E' := by
 unfold dT;rw [List.filter_congr fun k hk => h k (List.mem_range.1 hk)]
theorem nF {listed : Array Bool} {n i : Nat} (hsz : listed.size = n) (hlt : i < n) (k : Nat) : (listed.setIfInBounds i true).getD k false = (listed.getD k false || decide (k = i)) := by
 simp only [Array.getD_eq_getD_getElem?, Array.getElem?_setIfInBounds];by_cases hk : i = k
 ·subst hk; simp [hsz, hlt]
 ·have : ¬ k = i := fun e => hk e.symm;simp [hk, this]
theorem mY {listed : Array Bool} {i : Nat} (hsz : listed.size = all.length) (hlt : i < all.length) (hE : gA (fT all) (fun k => listed.getD k false)) (hrd : ∀ j, fT all j i = true → listed.getD j false = true) : gA (fT all) (fun k => (listed.setIfInBounds i true).getD k false) := by
 intro a b hb hw;simp only [nF hsz hlt, Bool.or_eq_true, decide_eq_true_eq] at hb ⊢;rcases hb with hb | rfl
 ·exact .inl (hE a b hb hw)
 ·exact .inl (hrd a hw)
theorem oX {listed : Array Bool} {n i fuel : Nat} (hsz : listed.size = n) (hlt : i < n) (hni : listed.getD i false = false) (hc : ((List.range n).filter fun k => !listed.getD k false).length = fuel + 1) : ((List.range n).filter fun k => !(listed.setIfInBounds i true).getD k false).length = fuel := by
 have e1 : ((List.range n).filter fun k => !(listed.setIfInBounds i true).getD k false) = ((List.range n).filter fun k => !listed.getD k false).filter (fun k => decide (k ≠ i)) := by
  rw [List.filter_filter];refine List.filter_congr fun k _ => ?_;rw [nF hsz hlt];cases listed.getD k false <;> simp
 rw [e1];have hnd : ((List.range n).filter fun k => !listed.getD k false).Nodup := List.Pairwise.filter _ List.nodup_range;have hmem : i ∈ ((List.range n).filter fun k => !listed.getD k false) := by
  rw [List.mem_filter, List.mem_range];exact ⟨hlt, by simp [hni]⟩
 have : ((List.range n).filter fun k => !listed.getD k false).filter (fun k => decide (k ≠ i)) = ((List.range n).filter fun k => !listed.getD k false).erase i := by
  rw [List.Nodup.erase_eq_filter hnd];refine List.filter_congr fun k _ => ?_;simp [bne];cases hk : decide (k = i) <;> simp_all
 rw [this, List.length_erase_of_mem hmem, hc];rfl
theorem sP {listed : Array Bool} (hedge : ∀ (k : Nat) (o : Oper), all[k]? = some o → ∀ e ∈ o.after.toList, Region.binds .any e = true → e.on < k) (hsz : listed.size = all.length) (hne : ((List.range all.length).filter fun k => !listed.getD k false) ≠ []) : ∃ i, i ∈ Region.ready .any all.toArray listed := by
 obtain ⟨k, hk⟩ := List.exists_mem_of_ne_nil _ hne;have least : ∀ m k, k ≤ m → k ∈ ((List.range all.length).filter fun k => !listed.getD k false) → ∃ i, i ∈ Region.ready .any all.toArray listed := by
  intro m;induction m with
  | zero =>
   intro k hkm hk;have hk0 : k = 0 := by omega
   subst hk0;rw [List.mem_filter, List.mem_range] at hk;have ho := List.getElem?_eq_getElem hk.1;refine ⟨0, jG.2 ⟨_, ho, ?_, fun e he hb => ?_⟩⟩
   ·have hs : listed[0]? = some listed[0] := Array.getElem?_eq_getElem (by omega);have := hk.2;simp [Array.getD_eq_getD_getElem?, hs] at this ⊢;exact this
   ·have := hedge 0 _ ho e he hb; omega
  | succ m ihm =>
   intro k hkm hk;rw [List.mem_filter, List.mem_range] at hk;have ho := List.getElem?_eq_getElem hk.1;by_cases hall : ∀ e ∈ all[k].after.toList, Region.binds .any e = true → listed.getD e.on false = true
   ·refine ⟨k, jG.2 ⟨_, ho, ?_, hall⟩⟩;have hs : listed[k]? = some listed[k] := Array.getElem?_eq_getElem (by omega);have := hk.2;simp [Array.getD_eq_getD_getElem?, hs] at this ⊢;exact this
   ·have : ∃ e, e ∈ all[k].after.toList ∧ Region.binds .any e = true ∧ listed.getD e.on false ≠ true := by
     refine Classical.byContradiction fun hno => hall fun e he hb => Classical.byContradiction fun hn => hno ⟨e, he, hb, hn⟩
    obtain ⟨e, he, hb, hl⟩ := this;have hlt := hedge k _ ho e he hb;refine ihm e.on (by omega) ?_;rw [List.mem_filter, List.mem_range];exact ⟨by omega, by simpa using hl⟩
 exact least k k (Nat.le_refl _) hk
theorem Tc (l : List Delta) (s : St) : (l.foldl St.upd s).n = s.n := by
 induction l generalizing s with
 | nil => rfl
 | cons d l ih => rw [List.foldl_cons, ih]; rfl
theorem pW (n : Nat) (E : Nat → Bool) : (dT st ds n E).n = st.n := by unfold dT; rw [oU]
theorem tV {o : Oper} {i : Nat} {listed : Array Bool} {fuel : Nat} {w0 w : World} {g0 g : Gh} {tmps : Array Value} {S : St} {K : St → Prop} {Q : Exit → St → Prop} (h1 : all[i]? = some o) (hf : Fr w0 g0 w g) (hok : Ok w g S (aU tmps)) (hn : tmps.size = S.n) (hgo : sE P all o S K)
  (hnext : ∀ (w' : World) (g' : Gh) (tmps' : Array Value) (S' : St), K S' → Fr w0 g0 w' g' → Ok w' g' S' (aU tmps') → tmps'.size = S'.n → wpAny P .any all.toArray (rQ w0 g0 Q) fuel (listed.setIfInBounds i true) ⟨tmps', []⟩ w') :
  wpOp P all.toArray (rQ w0 g0 Q) i (wpAny P .any all.toArray (rQ w0 g0 Q) fuel (listed.setIfInBounds i true)) ⟨tmps, []⟩ w := by
 have hgo := hgo w g tmps hok hn;unfold wpOp;simp only [List.getElem?_toArray, h1];split
 ·rename_i hw;left;refine zN (Oper.wp_mono (fun a w' => ?_) (hgo.1 hw)) fun e a w' hF => hF.elim;rintro ⟨hdf, st', g', hk, hf', hok', hn'⟩;obtain ⟨tmps', dfs⟩ := a;simp only at hdf;subst hdf;exact hnext w' g' tmps' st' hk (hf.trans hf') hok' hn'
 ·rename_i hw;obtain ⟨st', g', hk, hf', hok', hn'⟩ := hgo.2 (by simpa using hw);have hds := iQ ⟨tmps, []⟩ o.dst undef;have hsz2 := kM ⟨tmps, []⟩ o.dst undef;generalize hA : (⟨tmps, []⟩ : Act).put o.dst undef = A at *;obtain ⟨tmps', dfs⟩ := A;simp only at hds hsz2 hok';subst hds;exact hnext w g' tmps' st' hk (hf.trans hf') hok' (by rw [hsz2]; exact hn')
section
variable {π : List Nat}
theorem Ord.place (ho : Ord all π) {i : Nat} {o : Oper} (h1 : all[i]? = some o) : ∃ p : Nat, p < (bC π all).length ∧ π[p]? = some i ∧ π.getD p 0 = i ∧ (bC π all)[p]? = some o ∧ ∀ q, q < (bC π all).length → (π.getD q 0 = i ↔ q = p) := by
 have hlt := (List.getElem?_eq_some_iff.1 h1).1;obtain ⟨p, p1, p2⟩ := ho.all_ i hlt;have hpl : ∀ q, q < (bC π all).length → ∃ y, π[q]? = some y := fun q hq => ⟨_, List.getElem?_eq_getElem (by rw [ho.len]; rw [ho.get.1] at hq; exact hq)⟩;refine ⟨p, by rw [ho.get.1]; exact p1, p2, by simp [List.getD, p2], by rw [ho.get.2, p2]; exact h1, fun q hq => ⟨fun e => ?_, fun e => by rw [e]; simp [List.getD, p2]⟩⟩;obtain ⟨y, hy⟩ := hpl q hq;have e' : y = i := by simpa [List.getD, hy] using e
 subst e';exact (List.getElem?_inj (by rw [ho.len]; rw [ho.get.1] at hq; exact hq) ho.nodup).1 (hy.trans p2.symm)
theorem pL (ho : Ord all π) {listed : Array Bool} (hsz : listed.size = all.length) {i p : Nat} (hlt : i < all.length) (hp : ∀ q, q < (bC π all).length → (π.getD q 0 = i ↔ q = p)) (q : Nat) (hq : q < (bC π all).length) : EP π (listed.setIfInBounds i true) q = (EP π listed q || decide (q = p)) := by
 unfold EP;rw [nF hsz hlt];congr 1;have := hp q hq;by_cases h : q = p
 ·simp [h, this.2 h] at this ⊢;exact this
 ·have : ¬ π.getD q 0 = i := fun e => h (this.1 e);rw [decide_eq_false this, decide_eq_false h]
theorem yN (hord : Ord all π) (hedge : ∀ (k : Nat) (o : Oper), all[k]? = some o → ∀ e ∈ o.after.toList, Region.binds .any e = true → e.on < k) (h : DrawFacts P c all (Ub all π) (bC π all) ks st ds) {w0 : World} {g0 : Gh} {Q : Exit → St → Prop} (hQ : Q .normal (ds.foldl St.upd st)) : ∀ (fuel : Nat) (listed : Array Bool) (w : World) (g : Gh) (tmps : Array Value), listed.size = all.length → gA (fT all) (fun k => listed.getD k false) →
  (∀ (p : Nat) (k : DK), ks[p]? = some k → k.isNd = true → EP π listed p = true) → ((List.range all.length).filter fun k => !listed.getD k false).length = fuel → Fr w0 g0 w g → Ok w g (dT st ds (bC π all).length (EP π listed)) (aU tmps) → tmps.size = st.n → wpAny P .any all.toArray (rQ w0 g0 Q) fuel listed ⟨tmps, []⟩ w := by
 have ends : ∀ (listed : Array Bool) (w : World) (g : Gh) (tmps : Array Value), listed.size = all.length → ((List.range all.length).filter fun k => !listed.getD k false) = [] → Fr w0 g0 w g → Ok w g (dT st ds (bC π all).length (EP π listed)) (aU tmps) → tmps.size = st.n → rQ w0 g0 Q .normal ⟨tmps, []⟩ w := by
  intro listed w g tmps hsz hnil hf hok hn;have e : dT st ds (bC π all).length (EP π listed) = ds.foldl St.upd st := by
   unfold dT;have : (List.range (bC π all).length).filter (EP π listed) = List.range (bC π all).length := by
    rw [List.filter_eq_self];intro k hk;rw [List.mem_range, hord.get.1] at hk;rw [List.filter_eq_nil_iff] at hnil;have hkp : k < π.length := by rw [hord.len]; exact hk
    have hy : π[k]? = some π[k] := List.getElem?_eq_getElem hkp;have := hnil π[k] (List.mem_range.2 (hord.lt hy));unfold EP;simp only [List.getD, hy, Option.getD_some];simpa using this
   rw [this, eV ds st _ (by rw [h.dlen]; exact Nat.le_refl _), ← h.dlen, List.take_length]
  rw [e] at hok;exact ⟨rfl, _, g, hQ, hf, hok, by rw [Tc]; exact hn⟩
 intro fuel;induction fuel with
 | zero =>
  intro listed w g tmps hsz hE hnds hc hf hok hn;have hnil := List.eq_nil_of_length_eq_zero hc;refine ⟨?_, ends listed w g tmps hsz hnil hf hok hn⟩;rw [List.eq_nil_iff_forall_not_mem];intro i hi;rw [jG] at hi;obtain ⟨o, h1, h2, h3⟩ := hi;have hlt := (List.getElem?_eq_some_iff.1 h1).1;rw [List.filter_eq_nil_iff] at hnil;have := hnil i (by simpa using hlt);have hs : listed[i]? = some listed[i] := Array.getElem?_eq_getElem (by omega);simp [Array.getD_eq_getD_getElem?, hs] at this h2;rw [this] at h2; cases h2
 | succ fuel ih =>
  intro listed w g tmps hsz hE hnds hc hf hok hn;refine ⟨fun hnil => ?_, fun i hi => ?_⟩
  ·exfalso;have hne : ((List.range all.length).filter fun k => !listed.getD k false) ≠ [] := by intro e; rw [e] at hc; simp at hc
   obtain ⟨i, hi⟩ := sP hedge hsz hne;rw [hnil] at hi;cases hi
  ·rw [jG] at hi;obtain ⟨o, h1, h2, h3⟩ := hi;have hlt := (List.getElem?_eq_some_iff.1 h1).1;have hs : listed[i]? = some listed[i] := Array.getElem?_eq_getElem (by omega);have hni : listed.getD i false = false := by simp [Array.getD_eq_getD_getElem?, hs] at h2 ⊢; exact h2
   have hrd := oP hE h1 h3;obtain ⟨p, p1, p2, p3, p4, p5⟩ := hord.place h1;have hnp : EP π listed p = false := by unfold EP; rw [p3]; exact hni
   have hrp : ∀ q, Ub all π q p = true → EP π listed q = true := fun q hq => hrd _ (by rw [← p3]; exact hq);obtain ⟨o', kk, s0, a1, a2, a3, a4, _, a5⟩ := h.at p1;rw [p4] at a1;simp at a1;subst a1;have hkn : kk.isNd = false := by
    cases hk : kk.isNd with
    | false => rfl
    | true => have := hnds p kk a2 hk; rw [hnp] at this; cases this
   have hag := h.agree (iX hE) p1 hnp hrp;rw [a3] at hag;have hnext := h.next (iX hE) p1 hnp hrp;refine tV h1 hf hok (by rw [hn, pW]) (a5 hkn _ hag) ?_;rintro w' g' tmps' S' rfl hf' hok' hn';have hUd : U ds (dT st ds (bC π all).length (EP π listed)) p = (dT st ds (bC π all).length (EP π listed)).upd (cC (jF c o.dst o.op kk) (gD kk) s0) := by
    simp only [U, List.getD, a4, Option.getD_some]
   have hst : (dT st ds (bC π all).length (EP π listed)).upd (cC (jF c o.dst o.op kk) (gD kk) s0) = dT st ds (bC π all).length (EP π (listed.setIfInBounds i true)) := by
    rw [← hUd, ← hnext];exact mK fun q hq => (pL hord hsz hlt p5 q hq).symm
   rw [hst] at hok' hn';refine ih _ w' g' tmps' (by rw [Array.size_setIfInBounds]; exact hsz) (mY hsz hlt hE hrd) (fun q k hk hkn => ?_) (oX hsz hlt hni hc) hf' hok' (by rw [hn', pW]);have hq : q < (bC π all).length := by rw [← h.len]; exact (List.getElem?_eq_some_iff.1 hk).1
   rw [pL hord hsz hlt p5 q hq, hnds q k hk hkn]; rfl
theorem Qd (hord : Ord all π) (hedge : ∀ (k : Nat) (o : Oper), all[k]? = some o → ∀ e ∈ o.after.toList, Region.binds .any e = true → e.on < k) {j : Nat} {oc : Oper} {eA : St} {dsA : List Delta} {QQ : D → List (List D) → Prop} {w0 : World} {g0 : Gh} {Q : Exit → St → Prop}
  (hj : (bC π all)[j]? = some oc) (hkj : ks[j]? = some .nd) (hnd : ∀ (p : Nat) (k : DK), ks[p]? = some k → k.isNd = true → p = j) (hw : ∀ p, j < p → p < (bC π all).length → Ub all π j p = true) (hg : oc.guard = none) (hd : bL oc eA) (hQQ : Hd P oc.dst oc.op eA QQ) (heA : dsA.foldl St.upd st = eA)
  (hfam : ∀ r σ0, QQ r σ0 → ∃ ds, DrawFacts P c all (Ub all π) (bC π all) ks st ds ∧ Q .normal (ds.foldl St.upd st) ∧ ds.take j = dsA ∧ ds[j]? = some (cC (jF c oc.dst oc.op .nd) (gD .nd) (({ eA with obj := σ0 } : St).put oc.dst (.d r)))) :
  ∀ (fuel : Nat) (listed : Array Bool) (w : World) (g : Gh) (tmps : Array Value), listed.size = all.length → gA (fT all) (fun k => listed.getD k false) → EP π listed j = false → ((List.range all.length).filter fun k => !listed.getD k false).length = fuel → Fr w0 g0 w g →
  (∃ ds, DrawFacts P c all (Ub all π) (bC π all) ks st ds ∧ ds.take j = dsA ∧ Ok w g (dT st ds (bC π all).length (EP π listed)) (aU tmps)) → tmps.size = st.n → wpAny P .any all.toArray (rQ w0 g0 Q) fuel listed ⟨tmps, []⟩ w := by
 have hjl : j < (bC π all).length := (List.getElem?_eq_some_iff.1 hj).1;have below : ∀ (listed : Array Bool), gA (fT all) (fun k => listed.getD k false) → EP π listed j = false → ∀ p, p < (bC π all).length → EP π listed p = true → p < j := by
  intro listed hE hnj p hp he;rcases Nat.lt_trichotomy p j with h | rfl | h
  ·exact h
  ·rw [hnj] at he; cases he
  ·have := iX (π := π) hE j p he (hw p h hp);rw [hnj] at this; cases this
 have same : ∀ (E : Nat → Bool) (ds ds' : List Delta), (∀ p, p < (bC π all).length → E p = true → p < j) → ds.take j = ds'.take j → dT st ds (bC π all).length E = dT st ds' (bC π all).length E := by
  intro E ds ds' hE ht;unfold dT;have hU : ∀ k, k < j → ∀ s, U ds s k = U ds' s k := by
   intro k hk s;unfold U;have := congrArg (fun l => l[k]?) ht;simp only [List.getElem?_take, hk, if_true] at this;simp only [List.getD, this]
  have : ∀ (L : List Nat) (s : St), (∀ k ∈ L, k < j) → L.foldl (U ds) s = L.foldl (U ds') s := by
   intro L;induction L with
   | nil => intro s _; rfl
   | cons k L ih => intro s hL; rw [List.foldl_cons, List.foldl_cons, hU k (hL k (by simp)), ih _ fun q hq => hL q (by simp [hq])]
  exact this _ _ fun k hk => by
   rw [List.mem_filter, List.mem_range] at hk;exact hE k hk.1 hk.2
 intro fuel;induction fuel with
 | zero =>
  intro listed w g tmps hsz hE hnj hc;exfalso;have hnil := List.eq_nil_of_length_eq_zero hc;rw [List.filter_eq_nil_iff] at hnil;have hjp : j < π.length := by rw [hord.len]; rw [hord.get.1] at hjl; exact hjl
  have hy : π[j]? = some π[j] := List.getElem?_eq_getElem hjp;have := hnil π[j] (List.mem_range.2 (hord.lt hy));unfold EP at hnj;simp only [List.getD, hy, Option.getD_some] at hnj;rw [hnj] at this;simp at this
 | succ fuel ih =>
  rintro listed w g tmps hsz hE hnj hc hf ⟨ds, h, htk, hok⟩ hn;refine ⟨fun hnil => ?_, fun i hi => ?_⟩
  ·exfalso;have hne : ((List.range all.length).filter fun k => !listed.getD k false) ≠ [] := by intro e; rw [e] at hc; simp at hc
   obtain ⟨i, hi⟩ := sP hedge hsz hne;rw [hnil] at hi;cases hi
  ·rw [jG] at hi;obtain ⟨o, h1, h2, h3⟩ := hi;have hlt := (List.getElem?_eq_some_iff.1 h1).1;have hs : listed[i]? = some listed[i] := Array.getElem?_eq_getElem (by omega);have hni : listed.getD i false = false := by simp [Array.getD_eq_getD_getElem?, hs] at h2 ⊢; exact h2
   have hrd := oP hE h1 h3;obtain ⟨p, p1, p2, p3, p4, p5⟩ := hord.place h1;have hnp : EP π listed p = false := by unfold EP; rw [p3]; exact hni
   have hrp : ∀ q, Ub all π q p = true → EP π listed q = true := fun q hq => hrd _ (by rw [← p3]; exact hq);have hle : p ≤ j := by
    rcases Nat.lt_or_ge j p with hlt | hge
    ·have := hrp j (hw p hlt p1); rw [hnj] at this; cases this
    ·exact hge
   obtain ⟨o', kk, s0, a1, a2, a3, a4, _, a5⟩ := h.at p1;rw [p4] at a1;simp at a1;subst a1;have hag := h.agree (iX hE) p1 hnp hrp;rw [a3] at hag;by_cases hpj : p = j
   ·subst hpj;rw [hj] at p4;simp at p4;subst p4;rw [hkj] at a2;simp at a2;subst a2;have hA : Agree (lC c all oc .nd) (gD .nd) eA (dT st ds (bC π all).length (EP π listed)) := by
     have := hag;rw [htk, heA] at this;exact AgreeD.toA this
    refine tV h1 hf hok (by rw [hn, pW]) (Ps hg hd hQQ hA) ?_;rintro w' g' tmps' S' ⟨r, σ0, hq, rfl⟩ hf' hok' hn';obtain ⟨ds', h', hQ', htk', hdj⟩ := hfam r σ0 hq;have hnext := h'.next (iX hE) p1 hnp hrp;have e0 := same (EP π listed) ds ds' (below listed hE hnj) (htk.trans htk'.symm);have hst : ({ dT st ds (bC π all).length (EP π listed) with obj := σ0 } : St).put oc.dst (.d r) = dT st ds' (bC π all).length (EP π (listed.setIfInBounds i true)) := by
     rw [mK (pL hord hsz hlt p5), hnext, ← e0];simp only [U, List.getD, hdj, Option.getD_some];exact Kn.symm
    rw [hst] at hok' hn';refine yN hord hedge h' hQ' fuel _ w' g' tmps' (by rw [Array.size_setIfInBounds]; exact hsz) (mY hsz hlt hE hrd) (fun q k hk hkn => ?_) (oX hsz hlt hni hc) hf' hok' (by rw [hn', pW]);have hq := hnd q k hk hkn;subst hq;rw [pL hord hsz hlt p5 _ p1]; simp
   ·have hkn : kk.isNd = false := by
     cases hk : kk.isNd with
     | false => rfl
     | true => exact absurd (hnd p kk a2 hk) hpj
    have hnext := h.next (iX hE) p1 hnp hrp;refine tV h1 hf hok (by rw [hn, pW]) (a5 hkn _ hag) ?_;rintro w' g' tmps' S' rfl hf' hok' hn';have hUd : U ds (dT st ds (bC π all).length (EP π listed)) p = (dT st ds (bC π all).length (EP π listed)).upd (cC (jF c o.dst o.op kk) (gD kk) s0) := by
     simp only [U, List.getD, a4, Option.getD_some]
    have hst : (dT st ds (bC π all).length (EP π listed)).upd (cC (jF c o.dst o.op kk) (gD kk) s0) = dT st ds (bC π all).length (EP π (listed.setIfInBounds i true)) := by
     rw [← hUd, ← hnext];exact mK fun q hq => (pL hord hsz hlt p5 q hq).symm
    rw [hst] at hok' hn';refine ih _ w' g' tmps' (by rw [Array.size_setIfInBounds]; exact hsz) (mY hsz hlt hE hrd) ?_ (oX hsz hlt hni hc) hf' ⟨ds, h, htk, hok'⟩ (by rw [hn', pW]);rw [pL hord hsz hlt p5 j hjl, hnj];have : ¬ j = p := fun e => hpj e.symm;simp [this]
end
theorem Jw (ops : List Oper) : bC (List.range ops.length) ops = ops := by
 refine List.ext_getElem? fun p => ?_;have := (pF (all := ops) (π := List.range ops.length) fun i hi => List.mem_range.1 hi).2 p;rw [this];by_cases hp : p < ops.length
 ·rw [List.getElem?_range hp]; rfl
 ·rw [List.getElem?_eq_none (by simpa using hp), List.getElem?_eq_none (by omega)]; rfl
theorem sK (n : Nat) (π : List Nat) : EP π (Array.replicate n false) = fun _ => false := by
 funext k;unfold EP;simp only [Array.getD_eq_getD_getElem?, Array.getElem?_replicate];split <;> rfl
theorem vV (st : St) (ds : List Delta) (n : Nat) : dT st ds n (fun _ => false) = st := by
 unfold dT;rw [List.filter_eq_nil_iff.2 (fun k _ => by simp)];rfl
theorem oC (n : Nat) : gA (fT all) (fun k => (Array.replicate n false).getD k false) := by
 intro i j hj;simp only [Array.getD_eq_getD_getElem?, Array.getElem?_replicate] at hj;split at hj <;> cases hj
theorem qT (n : Nat) : ((List.range n).filter fun k => !(Array.replicate n false).getD k false).length = n := by
 rw [List.filter_eq_self.2 (fun k _ => ?_), List.length_range];simp only [Array.getD_eq_getD_getElem?, Array.getElem?_replicate];split <;> rfl
theorem Na {c : Cfg} {id : Nat} {ops : List Oper} (ks : List DK) {Q : Exit → St → Prop} {st : St} (hm : P.follows .mixedOrders = true) (hok : sT c ops ks = true) (h : ∀ K : St → Prop, (∀ s, Q .normal s → K s) → eF P c ops ops ks st K) : fH P (.region id ops.toArray true) Q st := by
 intro w0 g0 w g tmps hf hokk hn;unfold sT at hok;simp only [Bool.and_eq_true] at hok;obtain ⟨hok, hnd⟩ := hok;rw [List.all_eq_true] at hnd;have hwf : ∀ k ∈ ks, Cy (gD k) = true ∧ k.isNd = false := by
  have h2 := hok;unfold lS at h2;simp only [Bool.and_eq_true, List.all_eq_true] at h2;exact fun k hk => ⟨h2.1.1.1.2 k hk, by simpa using hnd k hk⟩
 obtain ⟨ss, e, hc, hQ⟩ := rY ops ks st (Q .normal) hwf (h _ fun _ h => h);have hc' : Chain P c ops (bC (List.range ops.length) ops) ks st ss e := by rw [Jw]; exact hc
 obtain ⟨hord, hedge, hfacts, he⟩ := tA hok hc';subst he;refine wp_region_any hm ?_;refine yN hord hedge hfacts hQ ops.toArray.size _ w.drew g tmps (by simp) ?_ (fun p k hk hkn => ?_) ?_ (hf.trans (Fr.drew w g)) ?_ hn
 ·rw [List.size_toArray]; exact oC _
 ·have := (hwf k (List.mem_of_getElem? hk)).2; rw [hkn] at this; cases this
 ·rw [List.size_toArray, qT]
 ·rw [List.size_toArray, sK, vV];exact hokk.drew
theorem Hj {c : Cfg} {id : Nat} {ops : List Oper} (π : List Nat) (j : Nat) (ks : List DK) {Q : Exit → St → Prop} {st : St} (hm : P.follows .mixedOrders = true) (hok : wP c ops π j ks = true) (h : ∀ K : St → Prop, (∀ s, Q .normal s → K s) → eF P c ops (bC π ops) ks st K) : fH P (.region id ops.toArray true) Q st := by
 intro w0 g0 w g tmps hf hokk hn;unfold wP at hok;simp only [Bool.and_eq_true, List.all_eq_true] at hok;obtain ⟨⟨⟨hok, hks⟩, hw⟩, hjg⟩ := hok;have hnd : ∀ (p : Nat) (k : DK), ks[p]? = some k → k.isNd = decide (p = j) := fun p k hk => by
  have := hks (k, p) (List.mem_iff_getElem?.2 ⟨p, by simp [hk]⟩);simpa using this
 obtain ⟨oc, hj, hg⟩ : ∃ oc, (bC π ops)[j]? = some oc ∧ oc.guard = none := by
  cases ho : (bC π ops)[j]? with
  | none => rw [ho] at hjg; simp at hjg
  | some oc => rw [ho] at hjg; exact ⟨oc, rfl, by simpa using hjg⟩
 have h2 := hok;unfold lS at h2;simp only [Bool.and_eq_true, List.all_eq_true] at h2;have hlen : ks.length = (bC π ops).length := by
  have hl : ks.length = ops.length := by simpa using h2.1.1.1.1
  have hord : Ord ops π := Ord.of (by simpa using h2.1.2.1) (fun i hi => h2.1.2.2.1 i (List.mem_range.2 hi)) h2.1.2.2.2.1 fun i hi => by simpa using h2.1.2.2.2.2 i hi
  rw [hord.get.1, hl]
 have hjl : j < (bC π ops).length := (List.getElem?_eq_some_iff.1 hj).1;obtain ⟨kk, hkk⟩ : ∃ kk, ks[j]? = some kk := ⟨_, List.getElem?_eq_getElem (by rw [hlen]; exact hjl)⟩;have hkn : kk = .nd := by
  have := hnd j kk hkk;simp at this;cases kk <;> first | rfl | simp [DK.isNd] at this
 subst hkn;have hspl : bC π ops = (bC π ops).take j ++ oc :: (bC π ops).drop (j + 1) := by
  obtain ⟨_, e⟩ := List.getElem?_eq_some_iff.1 hj;rw [← e, List.getElem_cons_drop, List.take_append_drop]
 have hspk : ks = ks.take j ++ .nd :: ks.drop (j + 1) := by
  obtain ⟨_, e⟩ := List.getElem?_eq_some_iff.1 hkk;rw [← e, List.getElem_cons_drop, List.take_append_drop]
 have hla : (ks.take j).length = ((bC π ops).take j).length := by rw [List.length_take, List.length_take, hlen]
 have hwf : ∀ k ∈ ks.take j ++ ks.drop (j + 1), Cy (gD k) = true ∧ k.isNd = false := by
  intro k hk;rcases List.mem_append.1 hk with hk | hk
  ·obtain ⟨p, hp⟩ := List.mem_iff_getElem?.1 hk;rw [List.getElem?_take] at hp;split at hp
   ·rename_i hpj;exact ⟨h2.1.1.1.2 k (List.mem_of_getElem? hp), by rw [hnd p k hp]; simp; omega⟩
   ·cases hp
  ·obtain ⟨p, hp⟩ := List.mem_iff_getElem?.1 hk;rw [List.getElem?_drop] at hp;exact ⟨h2.1.1.1.2 k (List.mem_of_getElem? hp), by rw [hnd _ k hp]; simp; omega⟩
 have hv := h (Q .normal) fun _ h => h;rw [hspl, hspk] at hv;obtain ⟨ssA, eA, QQ, hcA, hdc, hQQ, hB⟩ := Av _ _ st _ hla hwf hg hv;have hssA := hcA.len;have key : ∀ r σ0, QQ r σ0 → ∃ ssB e, Chain P c ops (bC π ops) ks st (ssA ++ (({ eA with obj := σ0 } : St).put oc.dst (.d r)) :: ssB) e ∧ Q .normal e := by
  intro r σ0 hq;obtain ⟨ssB, e, hb, hQe⟩ := hB r σ0 hq;refine ⟨ssB, e, ?_, hQe⟩;have hstep : Step P c ops oc .nd eA (({ eA with obj := σ0 } : St).put oc.dst (.d r)) := ⟨Kn.symm, fun e => (by cases e), fun e => (by cases e)⟩;have := hcA.append hla (.cons oc _ .nd _ eA _ ssB e hstep hb);rw [← hspl, ← hspk] at this;exact this
 have heA := (jL hcA).2.1;have hdl : ∀ sω ssB, (dl c (bC π ops) ks (ssA ++ sω :: ssB)).take j = dl c ((bC π ops).take j) (ks.take j) ssA ∧ (dl c (bC π ops) ks (ssA ++ sω :: ssB))[j]? = some (cC (jF c oc.dst oc.op .nd) (gD .nd) sω) := by
  intro sω ssB;have hlA : (dl c ((bC π ops).take j) (ks.take j) ssA).length = j := by
   rw [(jL hcA).1, List.length_take]; omega
  have e : dl c (bC π ops) ks (ssA ++ sω :: ssB) = dl c ((bC π ops).take j) (ks.take j) ssA ++ cC (jF c oc.dst oc.op .nd) (gD .nd) sω :: dl c ((bC π ops).drop (j + 1)) (ks.drop (j + 1)) ssB := by
   have := vQ (c := c) (B := oc :: (bC π ops).drop (j + 1)) (kb := .nd :: ks.drop (j + 1)) (tt := sω :: ssB) ((bC π ops).take j) (ks.take j) ssA hla hssA;rw [← hspl, ← hspk] at this;rw [this]; rfl
  rw [e];refine ⟨List.take_left' hlA, by rw [List.getElem?_append_right (by omega), hlA]; simp⟩
 obtain ⟨r0, σ00, hq0⟩ : ∃ r σ0, QQ r σ0 := by
  have := hQQ;unfold Hd at this;split at this
  ·exact this.2.2
  ·exact this.elim
 obtain ⟨ssB0, e0, hc0, _⟩ := key r0 σ00 hq0;obtain ⟨hord, hedge, hfacts0, _⟩ := tA hok hc0;refine wp_region_any hm ?_;refine Qd hord hedge (dsA := dl c ((bC π ops).take j) (ks.take j) ssA) hj hkk (fun p k hk hkn => ?_) (fun p hp hpl => ?_) hg hdc hQQ heA.symm (fun r σ0 hq => ?_) ops.toArray.size _ w.drew g tmps (by simp) ?_ ?_ ?_ (hf.trans (Fr.drew w g)) ⟨_, hfacts0, (hdl _ _).1, ?_⟩ hn
 ·rw [hnd p k hk] at hkn; simpa using hkn
 ·have := hw p (List.mem_range.2 (by rw [hord.get.1] at hpl; exact hpl));have e : (!decide (j < p)) = false := by simp [hp]
  rw [e, Bool.false_or] at this;exact this
 ·obtain ⟨ssB, e, hc, hQe⟩ := key r σ0 hq;obtain ⟨_, _, hf', rfl⟩ := tA hok hc;exact ⟨_, hf', hQe, (hdl _ _).1, (hdl _ _).2⟩
 ·rw [List.size_toArray]; exact oC _
 ·rw [List.size_toArray, sK]
 ·rw [List.size_toArray, qT]
 ·rw [List.size_toArray, sK, vV];exact hokk.drew
end
end
end Go.Vm

