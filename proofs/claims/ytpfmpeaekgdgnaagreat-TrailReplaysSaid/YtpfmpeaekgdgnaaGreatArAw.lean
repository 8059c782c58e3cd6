import Derived.Test.YtpfmpeaekgdgnaaGreatWkAr16
namespace Go.Proofs.YtpfmpeaekgdgnaaGreat
open Go Go.Vm
set_option linter.all false
set_option maxHeartbeats 1000000
variable {k m M : Nat} {d : DS} {rk : Int → Nat} {σ : List (List D)} {x : RD}
theorem dJ {α β : Type} {p : α × β} {c : β} (h : p.2 = c) : p = (p.1, c) := by rw [← h]
end Go.Proofs.YtpfmpeaekgdgnaaGreat
namespace Go.Proofs.YtpfmpeaekgdgnaaGreat
open Go Go.Vm
set_option linter.all false
set_option maxHeartbeats 1000000
abbrev pB : ByteArray := ⟨#[112]⟩
def awA : ND := ⟨1, 2, pB, ⟨#[]⟩, [], [], [], -1, []⟩
def awB : ND := ⟨1, 2, pB, ⟨#[]⟩, [], [], [], 0, []⟩
def awR : ND := ⟨0, 2, ⟨#[114, 111, 111, 116]⟩, ⟨#[]⟩, [], [], [], -1, [1]⟩
def Zx : RD := ⟨3, 2, [kR, awA]⟩
def awY : RD := ⟨3, 2, [awR, awB]⟩
theorem aAc : fL pB = true := by decide
theorem aCx : addX (newX 3) 2 pB = (Zx, 1, 0) := by
 unfold addX;rw [aAc];rfl
theorem fX0 : aL Zx.l 0 = kR := rfl
theorem fX1 : aL Zx.l 1 = awA := rfl
theorem aCe {bel : Int → List Int} (h : ∀ id, bel id = id :: (aL Zx.l id).kids.flatMap bel) : insX Zx bel 0 0 1 = (awY, 0) := by
 have hb : bel 1 = [1] := by rw [h, fX1]; rfl
 have hw : jB Zx.l bel 0 1 = false := by unfold jB; rw [hb]; rfl
 unfold insX;rw [hw, fX0, fX1];rfl
theorem aEz {d : DS} {x : RD} (h : d.x = x) : d.l = x.l := by rw [← h]
end Go.Proofs.YtpfmpeaekgdgnaaGreat

