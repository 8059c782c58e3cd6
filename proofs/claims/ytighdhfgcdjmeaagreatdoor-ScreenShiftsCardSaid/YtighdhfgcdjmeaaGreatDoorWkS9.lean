import Derived.Test.YtighdhfgcdjmeaaGreatDoorWkS8
namespace Go.Proofs.YtighdhfgcdjmeaaGreatDoor
open Go Go.Vm
set_option maxRecDepth 20000
set_option linter.all false
set_option maxHeartbeats 8000000
def Rm : TN := ⟨1, 2, ⟨#[112]⟩, ⟨#[]⟩, [], [], [⟨sU, 46⟩], [⟨2, 1, ⟨#[]⟩, ⟨#[97, 98]⟩, [], [], [], []⟩]⟩
def Zm : List EN := [⟨1, ⟨0, 0, 4, 2⟩⟩, ⟨2, ⟨0, 0, 0, 0⟩⟩]
abbrev Kd : ByteArray := ⟨#[97, 98, 46, 46, 32]⟩
abbrev Ji : ByteArray := ⟨#[46, 46, 46, 46, 32]⟩
theorem awG : TG Rm := by
 refine .mk _ ⟨⟨by decide, by unfold Sorted; decide +kernel⟩, ⟨by decide, by unfold Sorted; decide +kernel⟩, by decide +kernel, by decide⟩ fun k hk => ?_;obtain rfl : k = ⟨2, 1, ⟨#[]⟩, ⟨#[97, 98]⟩, [], [], [], []⟩ := by simpa [Rm] using hk
 exact .mk _ ⟨⟨by decide, by unfold Sorted; decide +kernel⟩, ⟨by decide, by unfold Sorted; decide +kernel⟩, by decide +kernel, by decide⟩ fun k hk => by cases hk
theorem awC : dJ Rm ≤ 2 := by rw [dF]; simp [Rm, dF]
theorem Tm : Dx (SI.ofL nE Zm) 2 Rm 5 2 = [Kd, Ji] := by decide +kernel
theorem Sd : kL [Kd, Ji] = ⟨#[97, 98, 46, 46, 10, 46, 46, 46, 46, 10]⟩ := by decide +kernel
theorem Ya : ofL nP [⟨sU, 46⟩] = [⟨sU, 46⟩] := by decide +kernel
abbrev awD : D := .agg [.v (.int .i64 1), .v (.int .i64 2), .v (.string ⟨#[112]⟩), .v (.string ⟨#[]⟩), .sl false [], .sl false [], .sl false [bS ⟨sU, 46⟩], .sl false [.agg [.v (.int .i64 2), .v (.int .i64 1), .v (.string ⟨#[]⟩), .v (.string ⟨#[97, 98]⟩), .sl false [], .sl false [], .sl false [], .sl false []]]]
theorem awX : gF Rm = awD := by simp [Rm]
theorem aAg : Zm.map bP = [.agg [D.int 1, D.int 0, D.int 0, D.int 4, D.int 2], .agg [D.int 2, D.int 0, D.int 0, D.int 0, D.int 0]] := rfl
theorem Wa (σ : List (List D)) : Ct Tryz.prog 16 [.sl false [bS ⟨sU, 46⟩]] σ (fun r σ' => r = .sl false [bS ⟨sU, 46⟩] ∧ σ' = σ) := (Cu [⟨sU, 46⟩] σ (by decide)).freeze fun r σ' h => by rw [Ya] at h; exact h
theorem Yd (σ : List (List D)) : Ct Tryz.prog 10 [awD, .sl false [.agg [D.int 1, D.int 0, D.int 0, D.int 4, D.int 2], .agg [D.int 2, D.int 0, D.int 0, D.int 0, D.int 0]], D.int 5, D.int 2] σ (fun r σ' => r = .sl false [D.str Kd, D.str Ji] ∧ σ' = σ) := by
 have h := Li 2 Rm Zm 5 2 σ (by omega) awG awC (by decide);rw [awX, aAg, Tm] at h;exact h
theorem Zg (σ : List (List D)) : Ct Tryz.prog 17 [.sl false [D.str Kd, D.str Ji]] σ (fun r σ' => r = .v (.string ⟨#[97, 98, 46, 46, 10, 46, 46, 46, 46, 10]⟩) ∧ σ' = σ) := by
 have h := Oz [Kd, Ji] σ (by decide) (by decide +kernel);rw [Sd] at h;exact h
theorem Jf  (σ : List (List D))  : Ct Tryz.prog 5 [] σ (fun r σ' => r = .bool true ∧ σ' = σ) := by
 refine zf (rs:=[.tmp 0]) Tryz.func5 Tryz.ntmps5 Tryz.results5 ?_;simp only [aQ];refine bV fun _ _ Z=>?_;simp[show List.range 2 = [0,1] from rfl,show List.range 1 = [0] from rfl];and_intros<;>(try omega);apply Z;refine bV fun _ _ Z=>?_;refine aB 2 fun _ Y=>?_;simp[show List.range 2 = [0,1] from rfl,show List.range 1 = [0] from rfl];and_intros<;>(try omega);apply Y;simp only [List.drop];refine aH fun _ Y=>?_;simp[show List.range 2 = [0,1] from rfl,show List.range 1 = [0] from rfl];refine dW (Wa _) ?_;apply Y;simp[show List.range 2 = [0,1] from rfl,show List.range 1 = [0] from rfl];and_intros<;>(try omega);apply Z;refine bV fun _ _ Z=>?_;refine aB 5 fun _ Y=>?_;simp[show List.range 2 = [0,1] from rfl,show List.range 1 = [0] from rfl];and_intros<;>(try omega);apply Y;simp only [List.drop];refine aH fun _ Y=>?_;simp[show List.range 2 = [0,1] from rfl,show List.range 1 = [0] from rfl];refine dW (Yd _) ?_;apply Y;simp[show List.range 2 = [0,1] from rfl,show List.range 1 = [0] from rfl];and_intros<;>(try omega);apply Z;refine zk [0,2] ?_;refine Du ⟨[],[],[],[],[]⟩ fun all hall _ Z=>?_;have ga3 : bA all 3 = some 18 := hall 3;have ga9 : bA all 9 = some 24 := hall 9;have ga15 : bA all 15 = some 30 := hall 15;refine aB 4 fun _ Y=>?_;simp[show List.range 2 = [0,1] from rfl,show List.range 1 = [0] from rfl,ga3,ga9,ga15];and_intros<;>(try omega);apply Y;simp only [List.drop];refine cJ 18 (by simp <;> rfl) ?_;refine ⟨fun g1 => ?_, fun g1 => ?_⟩
 ·try simp at g1
  refine aB 6 fun _ Y=>?_;simp[show List.range 2 = [0,1] from rfl,show List.range 1 = [0] from rfl,ga3,ga9,ga15];and_intros<;>(try omega);apply Y;simp only [List.drop];refine cJ 24 (by simp <;> rfl) ?_;refine ⟨fun g2 => ?_, fun g2 => ?_⟩
  ·try simp at g2
   refine aB 6 fun _ Y=>?_;simp[show List.range 2 = [0,1] from rfl,show List.range 1 = [0] from rfl,ga3,ga9,ga15];and_intros<;>(try omega);apply Y;simp only [List.drop];refine cJ 30 (by simp <;> rfl) ?_;refine ⟨fun g3 => ?_, fun g3 => ?_⟩
   ·try simp at g3
    refine aB 1 fun _ Y=>?_;simp[show List.range 2 = [0,1] from rfl,show List.range 1 = [0] from rfl,ga3,ga9,ga15];and_intros<;>(try omega);apply Y;simp only [List.drop];refine zg ga15 fun _ Y=>?_;simp[show List.range 2 = [0,1] from rfl,show List.range 1 = [0] from rfl,ga3,ga9,ga15];refine dW (Zg _) ?_;apply Y;simp[show List.range 2 = [0,1] from rfl,show List.range 1 = [0] from rfl,ga3,ga9,ga15];and_intros<;>(try omega);apply Z;apply aF;simp [aS]
   ·simp at g3
  ·simp at g2
 ·simp at g1
end Go.Proofs.YtighdhfgcdjmeaaGreatDoor

