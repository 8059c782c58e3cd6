/- Walks: contracts of functions. Written by a program of ours out of annotations. -/
import Derived.Test.YtnlokhfcgaikiaaWkPlay2
namespace Go.Proofs.Ytnlokhfcgaikiaa
open Go Go.Vm
set_option maxRecDepth 20000
set_option linter.all false
set_option maxHeartbeats 8000000

theorem wlist_fn (w m M : Nat) (s : WS) (xs : List Tm) (σ : List (List D)) (hw : σ[w]? = some (dwh m s)) (hq : σ[m]? = some (dhp M s.h)) (hs : WOk s) (hne : w ≠ m) (hM : M < σ.length) (hp : xs.Perm s.h.ts) (hso : xs.Pairwise tlt) : Ct Try.prog 26 [.ref w 0] σ (fun r σ' => r = .sl true (xs.map d_Tm) ∧ σ' = σ) :=
  (pile_close hM hq (Sc.sl (Sc.map fun a => tm_scl _ _)) (wlist0_fn w m M s xs σ hw hq hs hne hM hp hso)).mono fun r σ' ⟨a, b⟩ => ⟨a, by rw [b]; exact obj_set_same hq⟩
theorem dwh_can (m : Nat) (s : WS) (n : Int) : dwh m (wcan s n).1 = dwh m s := by simp [dwh, wcan_most, wcan_last]
theorem dwh_due (m : Nat) (s : WS) (n : Int) : dwh m (wdue s n) = dwh m s := by simp [dwh, wdue_most, wdue_last]
theorem tm_beq (a b : Tm) : ((told a).token == b.token && (told a).deadline == b.deadline && (told a).job.kind == b.job.kind && (told a).job.node == b.job.node) = decide (a = b) := by
  rw [told_id, Bool.eq_iff_iff]
  simp only [Bool.and_eq_true, beq_iff_eq, decide_eq_true_eq]
  exact ⟨tm_ext, by rintro rfl; simp⟩
structure PSt where
  k : Nat
  s : WS
  x : RW

end Go.Proofs.Ytnlokhfcgaikiaa
