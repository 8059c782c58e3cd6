import Derived.Test.YtighdhfgcdjmeaaDoorVm22
import Derived.Test.YtighdhfgcdjmeaaDoorVmX6
namespace Go.Vm
open Go
set_option linter.all false

theorem vG {P : Program} (ts k : Nat) {c : Code} {n : Nat} {l : List (Nat × Slot)} {loc obj : List (List D)} {Q : Exit → St → Prop} (hs : bH l ts = .d (.sl true []))
    (h : fL P c Q (St.mk' n ((ts, .d (.xs k [])) :: l) loc obj)) : fL P c Q (St.mk' n l loc obj) := by
  intro w0 g0 w g tmps hf hok hn;have hsl := hok.slot ts;have hs' : (St.mk' n l loc obj).env ts = .d (.sl true []) := hs;rw [hs'] at hsl;obtain ⟨hO, _, a, m, cap, hv, hm, ha⟩ := wN (k := k) (es := []) (.inr (.inl ⟨rfl, rfl⟩)) hsl;have hR : R g.M g.bs (.xs k []) (aN tmps ts) := by
    rcases hO with ⟨_, a', e1⟩ | ⟨b, n', cap', cur, E, e1, o1, o2, o3, o4, o5, o6, o7, _⟩
    · rw [e1]; exact .xs k [] a' 0 0 rfl (Nat.le_refl _) (Nat.zero_le _) (fun _ => ⟨rfl, rfl⟩)
    · rw [e1]; exact .xs k [] _ _ _ o5 o6 o7 (by simp)
  have hok2 := hok.set ts (.d (.xs k [])) (aN tmps ts) ⟨hR, .xs _ _ _ _ hO⟩;have efun : (fun u => if u = ts then aN tmps ts else aN tmps u) = aN tmps := by
    funext u; by_cases hu : u = ts <;> simp [hu]
  rw [efun] at hok2;exact h w0 g0 w g tmps hf hok2 hn

end Go.Vm

