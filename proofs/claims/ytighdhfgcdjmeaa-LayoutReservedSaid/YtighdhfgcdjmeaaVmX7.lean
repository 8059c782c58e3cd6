import Derived.Test.YtighdhfgcdjmeaaVm22
import Derived.Test.YtighdhfgcdjmeaaVmX6
namespace Go.Vm
open Go
set_option linter.all false

def Vc : List D → List D → Prop
  | [], [] => True
  | a :: r, b :: q => (b = a ∨ b = a.s1) ∧ Vc r q
  | _, _ => False
theorem Lo : ∀ {cs cs' : List D}, Vc cs cs' → cs'.length = cs.length ∧ ∀ (i : Nat) (d' : D), cs'[i]? = some d' → ∃ d, cs[i]? = some d ∧ (d' = d ∨ d' = d.s1)
  | [], [], _ => ⟨rfl, fun i d' h => by simp at h⟩
  | [], _ :: _, h => h.elim
  | _ :: _, [], h => h.elim
  | a :: r, b :: q, h => by
    obtain ⟨h1, h2⟩ := h;obtain ⟨l1, l2⟩ := Lo h2;refine ⟨by simp [l1], fun i d' h => ?_⟩
    match i with
    | 0 => simp at h; subst h; exact ⟨a, rfl, h1⟩
    | i + 1 => exact l2 i d' (by simpa using h)
theorem Ok.weakO {w : World} {g : Gh} {st : St} {val : Nat → Value} (h : Ok w g st val) (m : Nat) (cs cs' : List D) (hm : st.obj[m]? = some cs) (hw : Vc cs cs') : Ok w g { st with obj := st.obj.set m cs' } val := by
  obtain ⟨hl, hc⟩ := Lo hw;refine ⟨h.mem, h.xlt, h.slot, h.ll, h.loc, by simp [h.ol], fun n b cs2 h1 h2 => ?_⟩;rw [List.getElem?_set] at h2;split at h2
  · rename_i e
    subst e;split at h2
    · simp only [Option.some.injEq] at h2
      subst h2;rcases h.obj m b cs h1 hm with h0 | ⟨cur, E, m1, m2, m3, m4, m5⟩
      · left; subst h0; exact List.eq_nil_of_length_eq_zero hl
      · refine .inr ⟨cur, E, m1, by rw [hl]; exact m2, m3, m4, fun j d x a1 a2 => ?_⟩
        obtain ⟨d0, b1, b2⟩ := hc j d a1;obtain ⟨r1, r2, r3⟩ := m5 j d0 x b1 a2;rcases b2 with rfl | rfl
        · exact ⟨r1, r2, r3⟩
        · exact ⟨r1.s1, vU r1 r3, r3⟩
    · cases h2
  · exact h.obj n b cs2 h1 h2

theorem Ok.freezeLoc {w : World} {g : Gh} {st : St} {val : Nat → Value} (h : Ok w g st val) (t n : Nat) (cs : List D) (ht : st.env t = .lref n 0) (hn : st.loc[n]? = some cs) (hne : cs ≠ []) :
    ∃ g' : Gh, g'.bl = g.bl ∧ Fr w g w g' ∧ Ok w g' (({ st with loc := st.loc.set n [] } : St).set t (.d (.adr (cs.map D.s1)))) val := by
  have hnl := (List.getElem?_eq_some_iff.1 hn).1;have hsl := h.slot t;rw [ht] at hsl;obtain ⟨b, hb, hv⟩ := hsl;obtain ⟨cur, E, o1, o2, o3, o4, o5⟩ := (h.loc n b cs hb hn).resolve_left hne;have hM : g.M.le (fun b' o => if b' = b then cur[o]? else g.M b' o) := fun b' o c hc => by
    by_cases e : b' = b
    · subst e; rw [o4] at hc; cases hc
    · simp only [if_neg e]; exact hc
  have hk : ∀ (hd : Holder), hd ≠ .loc n → ∀ (b' : Nat) (q : List Nat), g.X b' = some (hd, q) → w.heap[b']? = w.heap[b']? ∧ (∀ o, g.M b' o = none → (if b' = b then cur[o]? else g.M b' o) = none) ∧ (if b' = b then none else g.X b') = some (hd, q) := by
    intro hd hne b' q hx;have : b' ≠ b := by intro e; subst e; rw [o3] at hx; simp only [Option.some.injEq, Prod.mk.injEq] at hx; exact hne hx.1.symm
    exact ⟨rfl, fun o ho => by rw [if_neg this]; exact ho, by rw [if_neg this]; exact hx⟩
  refine ⟨{ g with M := fun b' o => if b' = b then cur[o]? else g.M b' o, X := fun b' => if b' = b then none else g.X b' }, rfl, ⟨rfl, rfl, rfl, Nat.le_refl _, fun b' _ hx => ?_, hM, fun _ _ h => h⟩, ⟨fun b' o c hc => ?_, fun b' tg hx => ?_, fun u => ?_, by show g.bl.length = (st.loc.set n []).length; rw [List.length_set]; exact h.ll, fun m b' ds h1 h2 => ?_, h.ol, fun m b' ds h1 h2 => (h.obj m b' ds h1 h2).keep hM (fun _ _ h => h) (hk _ (by simp))⟩⟩
  · have : b' ≠ b := by intro e; subst e; rw [o3] at hx; cases hx
    exact ⟨rfl, by simp only [if_neg this]; exact hx, fun o => by simp only [if_neg this]⟩
  · simp only at hc
    by_cases e : b' = b
    · subst e
      rw [if_pos rfl] at hc;rw [cell_of_row w b' o cur E (0, 0) o1];exact hc
    · rw [if_neg e] at hc; exact h.mem b' o c hc
  · simp only at hx
    by_cases e : b' = b
    · rw [if_pos e] at hx; cases hx
    · rw [if_neg e] at hx; exact h.xlt b' tg hx
  · simp only [St.set]
    by_cases e : u = t
    · subst e
      simp only [if_true];refine ⟨?_, .flat _ _ _ rfl⟩;rw [hv];refine .adr _ b 0 cur.toList (by simp [o2]) (fun i d x a1 a2 => ?_) (fun i x a2 => ?_)
      · rw [List.getElem?_map, Option.map_eq_some_iff] at a1
        obtain ⟨d0, a1, rfl⟩ := a1;exact ((o5 i d0 x a1 (by simpa using a2)).1.s1).mono hM (fun _ _ h => h)
      · have hlt := (List.getElem?_eq_some_iff.1 a2).1
        rw [Array.length_toList, o2] at hlt;refine ⟨(o5 i _ x (List.getElem?_eq_getElem hlt) (by simpa using a2)).2.2, ?_⟩;simp only [if_true, Nat.zero_add];simpa using a2
    · simp only [e, if_false]
      exact (h.slot u).keep hM (fun _ _ h => h) (fun _ _ h => h) (hk _ (by simp))
  · have h2 : (st.loc.set n [])[m]? = some ds := h2
    rw [List.getElem?_set] at h2;split at h2
    · exact .inl (by have := h2; simp at this; exact this)
    · rename_i e
      exact (h.loc m b' ds h1 h2).keep hM (fun _ _ h => h) (hk _ (by simp; exact fun e' => e e'.symm))

theorem iU {P : Program} (t n : Nat) {cs : List D} {c : Code} {k : Nat} {l : List (Nat × Slot)} {loc obj : List (List D)} {Q : Exit → St → Prop} (ht : bU l t = .lref n 0) (hn : loc[n]? = some cs) (hne : cs ≠ [])
    (h : fM P c Q (St.mk' k ((t, .d (.adr (cs.map D.s1))) :: l) (loc.set n []) obj)) : fM P c Q (St.mk' k l loc obj) := by
  intro w0 g0 w g tmps hf hok hk;obtain ⟨g', _, hfr, hok'⟩ := hok.freezeLoc t n cs ht hn hne;exact h w0 g0 w g' tmps (hf.trans hfr) hok' hk

theorem Gm {P : Program} (m : Nat) (cs' : List D) {cs : List D} {c : Code} {n : Nat} {l : List (Nat × Slot)} {loc obj : List (List D)} {Q : Exit → St → Prop} (hm : obj[m]? = some cs) (hw : Vc cs cs')
    (h : fM P c Q (St.mk' n l loc (obj.set m cs'))) : fM P c Q (St.mk' n l loc obj) := by
  intro w0 g0 w g tmps hf hok hn;exact h w0 g0 w g tmps hf (hok.weakO m cs cs' hm hw) hn

theorem rJ {P : Program} (ts k : Nat) {c : Code} {n : Nat} {l : List (Nat × Slot)} {loc obj : List (List D)} {Q : Exit → St → Prop} (hs : bU l ts = .d (.sl true []))
    (h : fM P c Q (St.mk' n ((ts, .d (.xs k [])) :: l) loc obj)) : fM P c Q (St.mk' n l loc obj) := by
  intro w0 g0 w g tmps hf hok hn;have hsl := hok.slot ts;have hs' : (St.mk' n l loc obj).env ts = .d (.sl true []) := hs;rw [hs'] at hsl;obtain ⟨hO, _, a, m, cap, hv, hm, ha⟩ := yD (k := k) (es := []) (.inr (.inl ⟨rfl, rfl⟩)) hsl;have hR : R g.M g.bs (.xs k []) (aY tmps ts) := by
    rcases hO with ⟨_, a', e1⟩ | ⟨b, n', cap', cur, E, e1, o1, o2, o3, o4, o5, o6, o7, _⟩
    · rw [e1]; exact .xs k [] a' 0 0 rfl (Nat.le_refl _) (Nat.zero_le _) (fun _ => ⟨rfl, rfl⟩)
    · rw [e1]; exact .xs k [] _ _ _ o5 o6 o7 (by simp)
  have hok2 := hok.set ts (.d (.xs k [])) (aY tmps ts) ⟨hR, .xs _ _ _ _ hO⟩;have efun : (fun u => if u = ts then aY tmps ts else aY tmps u) = aY tmps := by
    funext u; by_cases hu : u = ts <;> simp [hu]
  rw [efun] at hok2;exact h w0 g0 w g tmps hf hok2 hn

end Go.Vm

