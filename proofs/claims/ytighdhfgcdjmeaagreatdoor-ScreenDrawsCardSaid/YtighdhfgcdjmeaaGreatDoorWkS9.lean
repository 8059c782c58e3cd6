import Derived.Test.YtighdhfgcdjmeaaGreatDoorWkS8
namespace Go.Proofs.YtighdhfgcdjmeaaGreatDoor
open Go Go.Vm
set_option maxRecDepth 20000
set_option linter.all false
set_option maxHeartbeats 8000000
def Qj : TN := ⟨1, 2, ⟨#[112]⟩, ⟨#[]⟩, [], [], [⟨oH, 46⟩], [⟨2, 1, ⟨#[]⟩, ⟨#[97, 98]⟩, [], [], [], []⟩]⟩
def Xh : List EN := [⟨1, ⟨0, 0, 4, 2⟩⟩, ⟨2, ⟨0, 0, 0, 0⟩⟩]
abbrev Nb : ByteArray := ⟨#[97, 98, 46, 46, 32]⟩
abbrev Jq : ByteArray := ⟨#[46, 46, 46, 46, 32]⟩
theorem awG : TG Qj := by
 refine .mk _ ⟨⟨by decide, by unfold Sorted; decide +kernel⟩, ⟨by decide, by unfold Sorted; decide +kernel⟩, by decide +kernel, by decide⟩ fun k hk => ?_;obtain rfl : k = ⟨2, 1, ⟨#[]⟩, ⟨#[97, 98]⟩, [], [], [], []⟩ := by simpa [Qj] using hk
 exact .mk _ ⟨⟨by decide, by unfold Sorted; decide +kernel⟩, ⟨by decide, by unfold Sorted; decide +kernel⟩, by decide +kernel, by decide⟩ fun k hk => by cases hk
theorem awC : iM Qj ≤ 2 := by rw [fK]; simp [Qj, fK]
theorem Rv : mJ (SI.ofL nE Xh) 2 Qj 5 2 = [Nb, Jq] := by decide +kernel
theorem Rt : lJ [Nb, Jq] = ⟨#[97, 98, 46, 46, 10, 46, 46, 46, 46, 10]⟩ := by decide +kernel
theorem Yn : ofL nP [⟨oH, 46⟩] = [⟨oH, 46⟩] := by decide +kernel
abbrev awD : D := .agg [.v (.int .i64 1), .v (.int .i64 2), .v (.string ⟨#[112]⟩), .v (.string ⟨#[]⟩), .sl false [], .sl false [], .sl false [bR ⟨oH, 46⟩], .sl false [.agg [.v (.int .i64 2), .v (.int .i64 1), .v (.string ⟨#[]⟩), .v (.string ⟨#[97, 98]⟩), .sl false [], .sl false [], .sl false [], .sl false []]]]
theorem awX : iT Qj = awD := by simp [Qj]
theorem Yo : Xh.map cH = [.agg [D.int 1, D.int 0, D.int 0, D.int 4, D.int 2], .agg [D.int 2, D.int 0, D.int 0, D.int 0, D.int 0]] := rfl
theorem Ux (σ : List (List D)) : Ct Tryz.prog 16 [.sl false [bR ⟨oH, 46⟩]] σ (fun r σ' => r = .sl false [bR ⟨oH, 46⟩] ∧ σ' = σ) := (Bw [⟨oH, 46⟩] σ (by decide)).freeze fun r σ' h => by rw [Yn] at h; exact h
theorem Yl (σ : List (List D)) : Ct Tryz.prog 10 [awD, .sl false [.agg [D.int 1, D.int 0, D.int 0, D.int 4, D.int 2], .agg [D.int 2, D.int 0, D.int 0, D.int 0, D.int 0]], D.int 5, D.int 2] σ (fun r σ' => r = .sl false [D.str Nb, D.str Jq] ∧ σ' = σ) := by
 have h := zU 2 Qj Xh 5 2 σ (by omega) awG awC (by decide);rw [awX, Yo, Rv] at h;exact h
theorem Wr (σ : List (List D)) : Ct Tryz.prog 17 [.sl false [D.str Nb, D.str Jq]] σ (fun r σ' => r = .v (.string ⟨#[97, 98, 46, 46, 10, 46, 46, 46, 46, 10]⟩) ∧ σ' = σ) := by
 have h := Pv [Nb, Jq] σ (by decide) (by decide +kernel);rw [Rt] at h;exact h
theorem Iq  (σ : List (List D))  : Ct Tryz.prog 5 [] σ (fun r σ' => r = .bool true ∧ σ' = σ) := by
 refine zf (rs:=[.tmp 0]) Tryz.func5 Tryz.ntmps5 Tryz.results5 ?_;simp only [aU];refine bP fun _ _ Z=>?_;simp[show List.range 2 = [0,1] from rfl,show List.range 1 = [0] from rfl];and_intros<;>(try omega);apply Z;refine bP fun _ _ Z=>?_;refine aA 2 fun _ Y=>?_;simp[show List.range 2 = [0,1] from rfl,show List.range 1 = [0] from rfl];and_intros<;>(try omega);apply Y;simp only [List.drop];refine aI fun _ Y=>?_;simp[show List.range 2 = [0,1] from rfl,show List.range 1 = [0] from rfl];refine dO (Ux _) ?_;apply Y;simp[show List.range 2 = [0,1] from rfl,show List.range 1 = [0] from rfl];and_intros<;>(try omega);apply Z;refine bP fun _ _ Z=>?_;refine aA 5 fun _ Y=>?_;simp[show List.range 2 = [0,1] from rfl,show List.range 1 = [0] from rfl];and_intros<;>(try omega);apply Y;simp only [List.drop];refine aI fun _ Y=>?_;simp[show List.range 2 = [0,1] from rfl,show List.range 1 = [0] from rfl];refine dO (Yl _) ?_;apply Y;simp[show List.range 2 = [0,1] from rfl,show List.range 1 = [0] from rfl];and_intros<;>(try omega);apply Z;refine zk [0,2] ?_;refine oA ⟨[],[],[],[],[]⟩ fun all hall _ Z=>?_;have ga3 : aL all 3 = some 18 := hall 3;have ga9 : aL all 9 = some 24 := hall 9;have ga15 : aL all 15 = some 30 := hall 15;refine aA 4 fun _ Y=>?_;simp[show List.range 2 = [0,1] from rfl,show List.range 1 = [0] from rfl,ga3,ga9,ga15];and_intros<;>(try omega);apply Y;simp only [List.drop];refine aX 18 (by simp <;> rfl) ?_;refine ⟨fun g1 => ?_, fun g1 => ?_⟩
 ·try simp at g1
  refine aA 6 fun _ Y=>?_;simp[show List.range 2 = [0,1] from rfl,show List.range 1 = [0] from rfl,ga3,ga9,ga15];and_intros<;>(try omega);apply Y;simp only [List.drop];refine aX 24 (by simp <;> rfl) ?_;refine ⟨fun g2 => ?_, fun g2 => ?_⟩
  ·try simp at g2
   refine aA 6 fun _ Y=>?_;simp[show List.range 2 = [0,1] from rfl,show List.range 1 = [0] from rfl,ga3,ga9,ga15];and_intros<;>(try omega);apply Y;simp only [List.drop];refine aX 30 (by simp <;> rfl) ?_;refine ⟨fun g3 => ?_, fun g3 => ?_⟩
   ·try simp at g3
    refine aA 1 fun _ Y=>?_;simp[show List.range 2 = [0,1] from rfl,show List.range 1 = [0] from rfl,ga3,ga9,ga15];and_intros<;>(try omega);apply Y;simp only [List.drop];refine zg ga15 fun _ Y=>?_;simp[show List.range 2 = [0,1] from rfl,show List.range 1 = [0] from rfl,ga3,ga9,ga15];refine dO (Wr _) ?_;apply Y;simp[show List.range 2 = [0,1] from rfl,show List.range 1 = [0] from rfl,ga3,ga9,ga15];and_intros<;>(try omega);apply Z;apply aG;simp [aQ]
   ·simp at g3
  ·simp at g2
 ·simp at g1
end Go.Proofs.YtighdhfgcdjmeaaGreatDoor

