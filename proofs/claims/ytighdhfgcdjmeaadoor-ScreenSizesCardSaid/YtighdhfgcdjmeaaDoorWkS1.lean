import Derived.Test.YtighdhfgcdjmeaaDoorWkL21
namespace Go.Proofs.YtighdhfgcdjmeaaDoor
open Go Go.Vm
set_option maxRecDepth 20000
set_option linter.all false
set_option maxHeartbeats 8000000
def jK (s : ByteArray) (k : Nat) : Nat := (s.data[k]?.getD 0).toNat
def tF : Nat → ByteArray → ByteArray
 | 0, s => s
 | n + 1, s => if 0 < s.size ∧ jK s (s.size - 1) = 32 then tF n (s.extract 0 (s.size - 1)) else s
def sA (s : ByteArray) : ByteArray := tF s.size s
def jS (l : List ByteArray) : ByteArray := l.foldl (fun a s => a ++ (sA s ++ ⟨#[10]⟩)) ⟨#[]⟩
theorem rB (l : List ByteArray) (k : Nat) (h : k < l.length) : jS (l.take (k + 1)) = jS (l.take k) ++ (sA l[k] ++ ⟨#[10]⟩) := by
 unfold jS; rw [dQ l k h, List.foldl_append]; rfl
theorem mE : ∀ (n : Nat) (s : ByteArray), (tF n s).size ≤ s.size
 | 0, s => Nat.le_refl _
 | n + 1, s => by
  simp only [tF];split
  ·exact Nat.le_trans (mE n _) (by simp)
  ·exact Nat.le_refl _
theorem rP : ∀ (l : List ByteArray) (k : Nat), (∀ s ∈ l, s.size ≤ 1000) → k ≤ l.length → (jS (l.take k)).size ≤ k * 1001
 | l, 0, _, _ => by rw [List.take_zero]; exact Nat.le_refl _
 | l, k + 1, h, hk => by
  have ih := rP l k h (by omega);have h1 := mE (l[k]'(by omega)).size (l[k]'(by omega));have h2 := h (l[k]'(by omega)) (List.getElem_mem _);have h3 : (⟨#[10]⟩ : ByteArray).size = 1 := rfl;rw [rB l k (by omega)];simp only [ByteArray.size_append, h3];unfold sA;omega
end Go.Proofs.YtighdhfgcdjmeaaDoor

