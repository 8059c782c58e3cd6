import Derived.Test.YtighdhfgcdjmeaaGreatDoorVm22
import Derived.Test.YtighdhfgcdjmeaaGreatDoorVmX6
namespace Go.Vm
open Go
set_option linter.all false

def Vo : List D → List D → Prop
  | [], [] => True
  | a :: r, b :: q => (b = a ∨ b = a.s1) ∧ Vo r q
  | _, _ => False
theorem Mf : ∀ {cs cs' : List D}, Vo cs cs' → cs'.length = cs.length ∧ ∀ (i : Nat) (d' : D), cs'[i]? = some d' → ∃ d, cs[i]? = some d ∧ (d' = d ∨ d' = d.s1)
  | [], [], _ => ⟨rfl, fun i d' h => by simp at h⟩
  | [], _ :: _, h => h.elim
  | _ :: _, [], h => h.elim
  | a :: r, b :: q, h => by
    obtain ⟨h1, h2⟩ := h;obtain ⟨l1, l2⟩ := Mf h2;refine ⟨by simp [l1], fun i d' h => ?_⟩
    match i with
    | 0 => simp at h; subst h; exact ⟨a, rfl, h1⟩
    | i + 1 => exact l2 i d' (by simpa using h)
theorem Ok.weakO {w : World} {g : Gh} {st : St} {val : Nat → Value} (h : Ok w g st val) (m : Nat) (cs cs' : List D) (hm : st.obj[m]? = some cs) (hw : Vo cs cs') : Ok w g { st with obj := st.obj.set m cs' } val := by
  obtain ⟨hl, hc⟩ := Mf hw;refine ⟨h.mem, h.xlt, h.slot, h.ll, h.loc, by simp [h.ol], fun n b cs2 h1 h2 => ?_⟩;rw [List.getElem?_set] at h2;split at h2
  · rename_i e
    subst e;split at h2
    · simp only [Option.some.injEq] at h2
      subst h2;rcases h.obj m b cs h1 hm with h0 | ⟨cur, E, m1, m2, m3, m4, m5⟩
      · left; subst h0; exact List.eq_nil_of_length_eq_zero hl
      · refine .inr ⟨cur, E, m1, by rw [hl]; exact m2, m3, m4, fun j d x a1 a2 => ?_⟩
        obtain ⟨d0, b1, b2⟩ := hc j d a1;obtain ⟨r1, r2, r3⟩ := m5 j d0 x b1 a2;rcases b2 with rfl | rfl
        · exact ⟨r1, r2, r3⟩
        · exact ⟨r1.s1, wF r1 r3, r3⟩
    · cases h2
  · exact h.obj n b cs2 h1 h2

theorem Fk {P : Program} (m : Nat) (cs' : List D) {cs : List D} {c : Code} {n : Nat} {l : List (Nat × Slot)} {loc obj : List (List D)} {Q : Exit → St → Prop} (hm : obj[m]? = some cs) (hw : Vo cs cs')
    (h : fH P c Q (St.mk' n l loc (obj.set m cs'))) : fH P c Q (St.mk' n l loc obj) := by
  intro w0 g0 w g tmps hf hok hn;exact h w0 g0 w g tmps hf (hok.weakO m cs cs' hm hw) hn

theorem sD {P : Program} (ts k : Nat) {c : Code} {n : Nat} {l : List (Nat × Slot)} {loc obj : List (List D)} {Q : Exit → St → Prop} (hs : bT l ts = .d (.sl true []))
    (h : fH P c Q (St.mk' n ((ts, .d (.xs k [])) :: l) loc obj)) : fH P c Q (St.mk' n l loc obj) := by
  intro w0 g0 w g tmps hf hok hn;have hsl := hok.slot ts;have hs' : (St.mk' n l loc obj).env ts = .d (.sl true []) := hs;rw [hs'] at hsl;obtain ⟨hO, _, a, m, cap, hv, hm, ha⟩ := yP (k := k) (es := []) (.inr (.inl ⟨rfl, rfl⟩)) hsl;have hR : R g.M g.bs (.xs k []) (aU tmps ts) := by
    rcases hO with ⟨_, a', e1⟩ | ⟨b, n', cap', cur, E, e1, o1, o2, o3, o4, o5, o6, o7, _⟩
    · rw [e1]; exact .xs k [] a' 0 0 rfl (Nat.le_refl _) (Nat.zero_le _) (fun _ => ⟨rfl, rfl⟩)
    · rw [e1]; exact .xs k [] _ _ _ o5 o6 o7 (by simp)
  have hok2 := hok.set ts (.d (.xs k [])) (aU tmps ts) ⟨hR, .xs _ _ _ _ hO⟩;have efun : (fun u => if u = ts then aU tmps ts else aU tmps u) = aU tmps := by
    funext u; by_cases hu : u = ts <;> simp [hu]
  rw [efun] at hok2;exact h w0 g0 w g tmps hf hok2 hn

end Go.Vm

