import Derived.Test.YtpfmpeaekgdgnaaGreatArAw
namespace Go.Proofs.YtpfmpeaekgdgnaaGreat
open Go Go.Vm
set_option maxRecDepth 20000
set_option linter.all false
set_option maxHeartbeats 8000000
end Go.Proofs.YtpfmpeaekgdgnaaGreat
namespace Go.Proofs.YtpfmpeaekgdgnaaGreat
open Go Go.Vm
set_option maxRecDepth 20000
set_option linter.all false
set_option maxHeartbeats 8000000
theorem Qa (most : Int) (σ τ : List (List D)) (hs : τ = σ ++ [[], jR σ.length (d0 most (σ.length + 2)), dA kR]) : ∃ m M d rk, σ.length + 1 = m ∧ d.x = newX most ∧ IX 0 m M d rk (newX most) τ :=
 ⟨_, _, d0 most (σ.length + 2), _, rfl, rfl, by rw [hs]; exact aDh most σ, XP.refl (d := newX most) (by simp [newX])⟩
theorem Bx {acts : List Act} (ha : ∀ a ∈ acts, a.name.size ≤ 9223372036854775807 ∧ a.value.size ≤ 9223372036854775807) {k : Nat} (hk : k < acts.length) : acts[k].name.size ≤ 9223372036854775807 ∧ acts[k].value.size ≤ 9223372036854775807 := ha _ (List.getElem_mem hk)
end Go.Proofs.YtpfmpeaekgdgnaaGreat

