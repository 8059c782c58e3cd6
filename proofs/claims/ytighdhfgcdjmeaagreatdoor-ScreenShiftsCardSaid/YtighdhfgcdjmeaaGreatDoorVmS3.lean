import Derived.Test.YtighdhfgcdjmeaaGreatDoorVm4
import Derived.Laws.AppendOwn
namespace Go.Vm
open Go
set_option linter.all false
theorem Ok.below {w w' : World} {g : Gh} {st : St} {val : Nat → Value} (h : Ok w g st val) (hb : RowKit.Below w.heap.size w w') : Ok w' g st val := by
 have hk : ∀ (hd : Holder) (b : Nat) (q : List Nat), g.X b = some (hd, q) → w'.heap[b]? = w.heap[b]? ∧ (∀ o, g.M b o = none → g.M b o = none) ∧ g.X b = some (hd, q) := fun hd b q hx => ⟨hb.block b (h.xlt b _ hx), fun _ h => h, hx⟩;exact ⟨fun b o c hc => (hb.cell (p := ⟨b, o, none⟩) (h.mlt hc)).trans (h.mem b o c hc), fun b t hx => Nat.lt_of_lt_of_le (h.xlt b t hx) hb.size,
  fun t => (h.slot t).keep (fun _ _ _ h => h) (fun _ _ h => h) (fun _ _ h => h) (hk _), h.ll, fun n b cs h1 h2 => (h.loc n b cs h1 h2).keep (fun _ _ _ h => h) (fun _ _ h => h) (hk _), h.ol,
  fun n b cs h1 h2 => (h.obj n b cs h1 h2).keep (fun _ _ _ h => h) (fun _ _ h => h) (hk _)⟩
theorem Fr.below {w w' : World} (g : Gh) (hb : RowKit.Below w.heap.size w w') : Fr w g w' g :=
 ⟨hb.os, hb.tape, hb.output, hb.size, fun b hb' hx => ⟨hb.block b hb', hx, fun _ => rfl⟩, fun _ _ _ h => h, fun _ _ h => h⟩
theorem Ok.res {w : World} {g : Gh} {st : St} {val : Nat → Value} (h : Ok w g st val) (hbl : g.bl = []) (r : D) (x : Value) (hr : R g.M g.bs r x) (ho : Own w g.M g.bs g.X (.slot 0) [] r x) : Ok w g (St.ofRes r st.obj) (fun t => if t = 0 then x else undef) := by
 refine ⟨h.mem, h.xlt, fun t => ?_, by simp [St.ofRes, hbl], fun n b cs hn => by rw [hbl] at hn; simp at hn, h.ol, h.obj⟩;by_cases ht : t = 0
 ·subst ht;exact ⟨hr, ho⟩
 ·simp only [ht, if_false, St.ofRes, bZ];rw [List.getElem?_eq_none (by simp; omega)];exact ⟨.any _, .flat _ _ _ rfl⟩
end Go.Vm
namespace Go.Vm
open Go
set_option linter.all false
theorem Ok.objRes {w w' : World} {g : Gh} {st : St} {val : Nat → Value} (h : Ok w g st val) (hbl : g.bl = []) (hb : RowKit.Below w.heap.size w w') (G n : Nat) (cur : Array Value) (E : TypeId) (cs : List D)
  (hG : w.heap.size ≤ G) (hh : w'.heap[G]? = some (.cells cur E (0, 0))) (hl : cur.size = cs.length) (hn : n ≤ cs.length) (hm : n ≤ maxLen)
  (hr : ∀ (M : Mem) (bs : List Nat) (i : Nat) (d : D) (x : Value), cs[i]? = some d → cur[i]? = some x → R M bs d x ∧ d.flat = true ∧ x.oneCell' = true) :
  ∃ g', g'.bl = [] ∧ Fr w g w' g' ∧ Ok w' g' (St.ofRes (.slo st.obj.length 0 n n) (st.obj ++ [cs])) (fun t => if t = 0 then .slice (some ⟨G, 0, none⟩) n n else undef) := by
 have hG2 : G < w'.heap.size := (Array.getElem?_eq_some_iff.1 hh).1;have hMG : ∀ o, g.M G o = none := by
  intro o;cases hc' : g.M G o with
  | none => rfl
  | some c => have := h.mlt hc'; omega
 have hXG : g.X G = none := by
  cases hc' : g.X G with
  | none => rfl
  | some c => have := h.xlt G c hc'; omega
 have h' := h.below hb
 let g' : Gh := { M := g.M, X := fun b => if b = G then some (.obj st.obj.length, []) else g.X b, bl := g.bl, bs := g.bs ++ [G] }
 have hbs : ∀ (n b : Nat), g.bs[n]? = some b → g'.bs[n]? = some b := fun n b hb => by
  show (g.bs ++ [G])[n]? = _
  rw [List.getElem?_append_left (by exact (List.getElem?_eq_some_iff.1 hb).1)]; exact hb
 have hkk : ∀ (hd : Holder) (b : Nat) (q : List Nat), g.X b = some (hd, q) → w'.heap[b]? = w'.heap[b]? ∧ (∀ o, g.M b o = none → g'.M b o = none) ∧ g'.X b = some (hd, q) := by
  intro hd b q hq;have hbG : b ≠ G := by rintro rfl; rw [hXG] at hq; cases hq
  refine ⟨rfl, fun o ho => ho, ?_⟩;show (if b = G then _ else g.X b) = _
  rw [if_neg hbG]; exact hq
 have hnew : (g.bs ++ [G])[st.obj.length]? = some G := by rw [← h.ol]; simp
 refine ⟨g', hbl, ⟨hb.os, hb.tape, hb.output, hb.size, fun b hb' hx' => ⟨hb.block b hb', ?_, fun o => rfl⟩, fun _ _ _ h => h, hbs⟩, ⟨h'.mem, fun b t hx => ?_, fun t => ?_, by simp [St.ofRes, g', hbl], fun m b cs hn' => by simp [g', hbl] at hn', by simp [St.ofRes, g', h.ol], fun m b ds a1 a2 => ?_⟩⟩
 ·show (if b = G then _ else g.X b) = none
  rw [if_neg (by omega)]; exact hx'
 ·change (if b = G then some (.obj st.obj.length, []) else g.X b) = some t at hx;by_cases hbG : b = G
  ·subst hbG; exact hG2
  ·rw [if_neg hbG] at hx;exact h'.xlt b t hx
 ·by_cases ht : t = 0
  ·subst ht;simp only [if_true];exact ⟨.slo _ 0 n n _ (fun _ => ⟨G, hnew, rfl⟩) (Nat.le_refl _) hm, .flat _ _ _ rfl⟩
  ·simp only [ht, if_false, St.ofRes, bZ];rw [List.getElem?_eq_none (by simp; omega)];exact ⟨.any _, .flat _ _ _ rfl⟩
 ·simp only [St.ofRes] at a2;by_cases hm' : m < st.obj.length
  ·have a1' : g.bs[m]? = some b := by
    change (g.bs ++ [G])[m]? = _ at a1;rw [List.getElem?_append_left (by rw [h.ol]; exact hm')] at a1; exact a1
   have a2' : st.obj[m]? = some ds := by rw [List.getElem?_append_left hm'] at a2; exact a2
   exact (h'.obj m b ds a1' a2').keep (fun _ _ _ h => h) hbs (hkk _)
  ·have hlt := (List.getElem?_eq_some_iff.1 a2).1;simp at hlt;have hm2 : m = st.obj.length := by omega
   subst hm2;have e1 : b = G := by
    change (g.bs ++ [G])[st.obj.length]? = _ at a1;rw [hnew] at a1; exact (Option.some.inj a1).symm
   have e2 : ds = cs := by simpa using a2.symm
   subst e1; subst e2;exact .inr ⟨cur, E, hh, hl, by show (if b = b then _ else g.X b) = _; rw [if_pos rfl], fun o => hMG o, fun i d x b1 b2 => by
    obtain ⟨r1, r2, r3⟩ := hr g.M g'.bs i d x b1 b2;exact ⟨r1, .flat _ _ _ r2, r3⟩⟩
theorem Ok.objRes0 {w w' : World} {g : Gh} {st : St} {val : Nat → Value} (h : Ok w g st val) (hbl : g.bl = []) (hb : RowKit.Below w.heap.size w w') (x : Option Addr) :
  ∃ g', g'.bl = [] ∧ Fr w g w' g' ∧ Ok w' g' (St.ofRes (.slo st.obj.length 0 0 0) (st.obj ++ [[]])) (fun t => if t = 0 then .slice x 0 0 else undef) := by
 have h' := h.below hb
 let g' : Gh := { M := g.M, X := g.X, bl := g.bl, bs := g.bs ++ [0] }
 have hbs : ∀ (n b : Nat), g.bs[n]? = some b → g'.bs[n]? = some b := fun n b hb => by
  show (g.bs ++ [0])[n]? = _
  rw [List.getElem?_append_left (by exact (List.getElem?_eq_some_iff.1 hb).1)]; exact hb
 have hkk : ∀ (hd : Holder) (b : Nat) (q : List Nat), g.X b = some (hd, q) → w'.heap[b]? = w'.heap[b]? ∧ (∀ o, g.M b o = none → g'.M b o = none) ∧ g'.X b = some (hd, q) := fun _ _ _ hq => ⟨rfl, fun o ho => ho, hq⟩;refine ⟨g', hbl, ⟨hb.os, hb.tape, hb.output, hb.size, fun b hb' hx' => ⟨hb.block b hb', hx', fun o => rfl⟩, fun _ _ _ h => h, hbs⟩, ⟨h'.mem, h'.xlt, fun t => ?_, by simp [St.ofRes, g', hbl], fun m b cs hn' => by simp [g', hbl] at hn', by simp [St.ofRes, g', h.ol], fun m b ds a1 a2 => ?_⟩⟩
 ·by_cases ht : t = 0
  ·subst ht;simp only [if_true];exact ⟨.slo _ 0 0 0 _ (fun h => absurd h (Nat.lt_irrefl _)) (Nat.le_refl _) (Nat.zero_le _), .flat _ _ _ rfl⟩
  ·simp only [ht, if_false, St.ofRes, bZ];rw [List.getElem?_eq_none (by simp; omega)];exact ⟨.any _, .flat _ _ _ rfl⟩
 ·simp only [St.ofRes] at a2;by_cases hm' : m < st.obj.length
  ·have a1' : g.bs[m]? = some b := by
    change (g.bs ++ [0])[m]? = _ at a1;rw [List.getElem?_append_left (by rw [h.ol]; exact hm')] at a1; exact a1
   have a2' : st.obj[m]? = some ds := by rw [List.getElem?_append_left hm'] at a2; exact a2
   exact (h'.obj m b ds a1' a2').keep (fun _ _ _ h => h) hbs (hkk _)
  ·have hlt := (List.getElem?_eq_some_iff.1 a2).1;simp at hlt;have hm2 : m = st.obj.length := by omega
   subst hm2;have e2 : ds = [] := by simpa using a2.symm
   exact .inl e2
theorem R.cellsOf {M : Mem} {bs : List Nat} {o : Bool} {es : List D} {v : Value} (h : R M bs (.sl o es) v) (h0 : es ≠ []) (h1 : ∀ d ∈ es, d.ncells = 1) :
  ∃ b off cap, v = .slice (some ⟨b, off, none⟩) es.length cap ∧ es.length ≤ cap ∧ cap ≤ maxLen ∧ ∀ (i : Nat) (d : D), es[i]? = some d → ∃ x, R M bs d x ∧ x.cells.size = 1 ∧ ∀ c, x.cells[0]? = some c → M b (off + i) = some c := by
 cases h with
 | nil o => exact absurd rfl h0
 | emp o a cap hm => exact absurd rfl h0
 | sl o es b off n cap k vs hl hn hk hc hm hr hs hx =>
  subst hn;refine ⟨b, off, cap, rfl, hc, hm, fun i d hd => ?_⟩;have hi : i < es.length := (List.getElem?_eq_some_iff.1 hd).1;have hv : vs[i]? = some (vs[i]'(by omega)) := List.getElem?_eq_getElem (by omega);obtain rfl : k = 1 := by rw [← hs i d hd]; exact h1 d (List.mem_of_getElem? hd)
  refine ⟨_, hr i d _ hd hv, (hx i _ hv).1, fun c hc' => ?_⟩;have := ((hx i _ hv).2 0 c hc').2;simpa using this
end Go.Vm

