import Derived.Test.YtpfmpeaekgdgnaaGreatWkAr17
namespace Go.Proofs.YtpfmpeaekgdgnaaGreat
open Go Go.Vm
set_option maxRecDepth 20000
set_option linter.all false
set_option maxHeartbeats 8000000
theorem new_ix (most : Int) (σ τ : List (List D)) (hs : τ = σ ++ [[], dcel σ.length (d0 most (σ.length + 2)), ncel rootN]) : ∃ m M d rk, σ.length + 1 = m ∧ d.x = newX most ∧ IX 0 m M d rk (newX most) τ :=
 ⟨_, _, d0 most (σ.length + 2), _, rfl, rfl, by rw [hs]; exact d0_IV most σ, XP.refl (d := newX most) (by simp [newX])⟩
end Go.Proofs.YtpfmpeaekgdgnaaGreat

