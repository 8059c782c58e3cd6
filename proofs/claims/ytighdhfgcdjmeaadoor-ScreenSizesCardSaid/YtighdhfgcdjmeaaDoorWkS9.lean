import Derived.Test.YtighdhfgcdjmeaaDoorWkS8
namespace Go.Proofs.YtighdhfgcdjmeaaDoor
open Go Go.Vm
set_option maxRecDepth 20000
set_option linter.all false
set_option maxHeartbeats 8000000
def Ob : TN := ⟨1, 2, ⟨#[112]⟩, ⟨#[]⟩, [], [], [⟨rR, 46⟩], [⟨2, 1, ⟨#[]⟩, ⟨#[97, 98]⟩, [], [], [], []⟩]⟩
def Vc : List EN := [⟨1, ⟨0, 0, 4, 2⟩⟩, ⟨2, ⟨0, 0, 0, 0⟩⟩]
abbrev Hm : ByteArray := ⟨#[97, 98, 46, 46, 32]⟩
abbrev Jg : ByteArray := ⟨#[46, 46, 46, 46, 32]⟩
theorem awG : TG Ob := by
 refine .mk _ ⟨⟨by decide, by unfold Sorted; decide +kernel⟩, ⟨by decide, by unfold Sorted; decide +kernel⟩, by decide +kernel, by decide⟩ fun k hk => ?_;obtain rfl : k = ⟨2, 1, ⟨#[]⟩, ⟨#[97, 98]⟩, [], [], [], []⟩ := by simpa [Ob] using hk
 exact .mk _ ⟨⟨by decide, by unfold Sorted; decide +kernel⟩, ⟨by decide, by unfold Sorted; decide +kernel⟩, by decide +kernel, by decide⟩ fun k hk => by cases hk
theorem awC : lH Ob ≤ 2 := by rw [lD]; simp [Ob, lD]
theorem Qb : sY (SI.ofL nE Vc) 2 Ob 5 2 = [Hm, Jg] := by decide +kernel
theorem Qk : jS [Hm, Jg] = ⟨#[97, 98, 46, 46, 10, 46, 46, 46, 46, 10]⟩ := by decide +kernel
theorem Tb : ofL nP [⟨rR, 46⟩] = [⟨rR, 46⟩] := by decide +kernel
abbrev Xw : D := .agg [.v (.int .i64 1), .v (.int .i64 2), .v (.string ⟨#[112]⟩), .v (.string ⟨#[]⟩), .sl false [], .sl false [], .sl false [bQ ⟨rR, 46⟩], .sl false [.agg [.v (.int .i64 2), .v (.int .i64 1), .v (.string ⟨#[]⟩), .v (.string ⟨#[97, 98]⟩), .sl false [], .sl false [], .sl false [], .sl false []]]]
theorem awX : oO Ob = Xw := by simp [Ob]
theorem Tp : Vc.map cL = [.agg [D.int 1, D.int 0, D.int 0, D.int 4, D.int 2], .agg [D.int 2, D.int 0, D.int 0, D.int 0, D.int 0]] := rfl
theorem Rj (σ : List (List D)) : Ct Tryd.prog 12 [.sl false [bQ ⟨rR, 46⟩]] σ (fun r σ' => r = .sl false [bQ ⟨rR, 46⟩] ∧ σ' = σ) := (zX [⟨rR, 46⟩] σ (by decide)).freeze fun r σ' h => by rw [Tb] at h; exact h
theorem Va (σ : List (List D)) : Ct Tryd.prog 11 [Xw, .sl false [.agg [D.int 1, D.int 0, D.int 0, D.int 4, D.int 2], .agg [D.int 2, D.int 0, D.int 0, D.int 0, D.int 0]], D.int 5, D.int 2] σ (fun r σ' => r = .sl false [D.str Hm, D.str Jg] ∧ σ' = σ) := by
 have h := wI 2 Ob Vc 5 2 σ (by omega) awG awC (by decide);rw [awX, Tp, Qb] at h;exact h
theorem Uz (σ : List (List D)) : Ct Tryd.prog 7 [.sl false [D.str Hm, D.str Jg]] σ (fun r σ' => r = .v (.string ⟨#[97, 98, 46, 46, 10, 46, 46, 46, 46, 10]⟩) ∧ σ' = σ) := by
 have h := Nb [Hm, Jg] σ (by decide) (by decide +kernel);rw [Qk] at h;exact h
theorem Hs  (σ : List (List D))  : Ct Tryd.prog 5 [] σ (fun r σ' => r = .bool true ∧ σ' = σ) := by
 refine zf (rs:=[.tmp 0]) Tryd.func5 Tryd.ntmps5 Tryd.results5 ?_;simp only [aU];refine cH fun _ _ Z=>?_;simp[show List.range 2 = [0,1] from rfl,show List.range 1 = [0] from rfl];and_intros<;>(try omega);apply Z;refine cH fun _ _ Z=>?_;refine aC 2 fun _ Y=>?_;simp[show List.range 2 = [0,1] from rfl,show List.range 1 = [0] from rfl];and_intros<;>(try omega);apply Y;simp only [List.drop];refine aI fun _ Y=>?_;simp[show List.range 2 = [0,1] from rfl,show List.range 1 = [0] from rfl];refine eV (Rj _) ?_;apply Y;simp[show List.range 2 = [0,1] from rfl,show List.range 1 = [0] from rfl];and_intros<;>(try omega);apply Z;refine cH fun _ _ Z=>?_;refine aC 5 fun _ Y=>?_;simp[show List.range 2 = [0,1] from rfl,show List.range 1 = [0] from rfl];and_intros<;>(try omega);apply Y;simp only [List.drop];refine aI fun _ Y=>?_;simp[show List.range 2 = [0,1] from rfl,show List.range 1 = [0] from rfl];refine eV (Va _) ?_;apply Y;simp[show List.range 2 = [0,1] from rfl,show List.range 1 = [0] from rfl];and_intros<;>(try omega);apply Z;refine zk [0,2] ?_;refine Cu ⟨[],[],[],[],[]⟩ fun all hall _ Z=>?_;have ga3 : aY all 3 = some 18 := hall 3;have ga9 : aY all 9 = some 24 := hall 9;have ga15 : aY all 15 = some 30 := hall 15;refine aC 4 fun _ Y=>?_;simp[show List.range 2 = [0,1] from rfl,show List.range 1 = [0] from rfl,ga3,ga9,ga15];and_intros<;>(try omega);apply Y;simp only [List.drop];refine cC 18 (by simp <;> rfl) ?_;refine ⟨fun g1 => ?_, fun g1 => ?_⟩
 ·try simp at g1
  refine aC 6 fun _ Y=>?_;simp[show List.range 2 = [0,1] from rfl,show List.range 1 = [0] from rfl,ga3,ga9,ga15];and_intros<;>(try omega);apply Y;simp only [List.drop];refine cC 24 (by simp <;> rfl) ?_;refine ⟨fun g2 => ?_, fun g2 => ?_⟩
  ·try simp at g2
   refine aC 6 fun _ Y=>?_;simp[show List.range 2 = [0,1] from rfl,show List.range 1 = [0] from rfl,ga3,ga9,ga15];and_intros<;>(try omega);apply Y;simp only [List.drop];refine cC 30 (by simp <;> rfl) ?_;refine ⟨fun g3 => ?_, fun g3 => ?_⟩
   ·try simp at g3
    refine aC 1 fun _ Y=>?_;simp[show List.range 2 = [0,1] from rfl,show List.range 1 = [0] from rfl,ga3,ga9,ga15];and_intros<;>(try omega);apply Y;simp only [List.drop];refine zg ga15 fun _ Y=>?_;simp[show List.range 2 = [0,1] from rfl,show List.range 1 = [0] from rfl,ga3,ga9,ga15];refine eV (Uz _) ?_;apply Y;simp[show List.range 2 = [0,1] from rfl,show List.range 1 = [0] from rfl,ga3,ga9,ga15];and_intros<;>(try omega);apply Z;apply aH;simp [bB]
   ·simp at g3
  ·simp at g2
 ·simp at g1
end Go.Proofs.YtighdhfgcdjmeaaDoor

