import Derived.Test.YtpfmpeaekgdgnaaGreatTrAw
import Derived.Test.YtpfmpeaekgdgnaaGreatWkAr18
namespace Go.Proofs.YtpfmpeaekgdgnaaGreat
open Go Go.Vm
set_option maxRecDepth 20000
set_option linter.all false
set_option maxHeartbeats 8000000
theorem Li  (σ : List (List D))  : Ct Tryz.prog 25 [] σ (fun r σ' => r = .bool true) := by
 refine zf (rs:=[.tmp 0]) Tryz.func25 Tryz.ntmps25 Tryz.results25 ?_;simp only [aN];have hat := True.intro;refine aY fun _ _ Z=>?_;simp[hat];and_intros<;>(try omega);apply Z;refine aY fun _ _ Z=>?_;refine aD fun _ Y=>?_;simp[hat];refine Ps (Jg 3 _) ?_;rintro _ τ0 ⟨hr9, hs9⟩;subst hr9;obtain ⟨m, M, dd, rk0, hm0, hx0, hi0⟩ := Qa _ _ _ hs9;rw [hm0];clear hs9 hm0;apply Y;simp[hat];and_intros<;>(try omega);apply Z;apply aE;refine aY fun _ _ Z=>?_;simp[hat];and_intros<;>(try omega);apply Z;refine zi ?_;refine ⟨fun c1=>?_,fun c1=>?_⟩
 ·simp at c1
 ·try simp at c1
  apply aG;apply aB;refine aY fun _ _ Z=>?_;refine aA 1 fun _ Y=>?_;simp[hat];and_intros<;>(try omega);apply Y;simp only [List.drop];refine aD fun _ Y=>?_;simp[hat];refine Ps (Sj m _) ?_;rintro _ τ ⟨hr9, hs9⟩;subst hr9;have hat : τ[τ0.length]? = some (eN m []) := by rw [hs9]; simp
  have hi : IX 0 m M dd rk0 (newX 3) τ := by rw [hs9]; exact hi0.app _
  have hoff := hi0.off (Nat.le_refl τ0.length);clear hs9;generalize τ0.length = l at *;obtain ⟨σ1, σ2, u1, u2, u3, u4, u5, u6⟩ := aCz hi hx0 hoff hat;apply Y;simp[hat];and_intros<;>(try omega);apply Z;apply aE;refine oE ⟨[],[],[],[],[]⟩ fun all hall _ Z=>?_;have ga2 : aT all 2 = some 14 := hall 2;refine aA 3 fun _ Y=>?_;simp[hat,ga2];and_intros<;>(try omega);apply Y;simp only [List.drop];refine aX 14 (by simp <;> rfl) ?_;refine ⟨fun g2 => ?_, fun g2 => ?_⟩
  ·simp at g2
  ·try simp at g2
   simp[hat,ga2];and_intros<;>(try omega);apply Z;refine zi ?_;refine ⟨fun c3=>?_,fun c3=>?_⟩
   ·simp at c3
   ·try simp at c3
    apply aG;apply aB;refine zk [0,2] ?_;refine aY fun _ _ Z=>?_;refine aA 1 fun _ Y=>?_;simp[hat];and_intros<;>(try omega);apply Y;simp only [List.drop];refine aD fun _ Y=>?_;simp[hat];refine bY (tT l m [] pB 1 0 σ1 _ hat u1 u2 (by decide)) ?_;apply Y;simp[hat];and_intros<;>(try omega);apply Z;refine aY fun _ _ Z=>?_;refine aA 2 fun _ Y=>?_;simp[hat];and_intros<;>(try omega);apply Y;simp only [List.drop];refine aD fun _ Y=>?_;simp[hat];refine bY (wT l m [Xz] 0 0 1 0 σ2 _ u4 u3 u5 (by decide)) ?_;apply Y;simp[hat];and_intros<;>(try omega);apply Z;refine zk [0,2,3,4,5] ?_;refine aY fun _ _ Z=>?_;refine aA 1 fun _ Y=>?_;simp[hat];and_intros<;>(try omega);apply Y;simp only [List.drop];refine aD fun _ Y=>?_;simp[hat];refine bY (Ay l m [Xz, op2] _ (by decide) u6) ?_;apply Y;simp[hat];and_intros<;>(try omega);apply Z;refine zk [0,3,4,5,6] ?_;refine oE ⟨[],[],[],[],[]⟩ fun all hall _ Z=>?_;have ga2 : aT all 2 = some 33 := hall 2;have ga6 : aT all 6 = some 37 := hall 6;have ga10 : aT all 10 = some 41 := hall 10;have ga15 : aT all 15 = some 46 := hall 15;have ga22 : aT all 22 = some 53 := hall 22;refine aA 3 fun _ Y=>?_;simp[hat,ga2,ga6,ga10,ga15,ga22];and_intros<;>(try omega);apply Y;simp only [List.drop];refine aX 33 (by simp <;> rfl) ?_;refine ⟨fun g4 => ?_, fun g4 => ?_⟩
    ·try simp at g4
     refine aA 4 fun _ Y=>?_;simp[hat,ga2,ga6,ga10,ga15,ga22];and_intros<;>(try omega);apply Y;simp only [List.drop];refine aX 37 (by simp <;> rfl) ?_;refine ⟨fun g5 => ?_, fun g5 => ?_⟩
     ·try simp at g5
      refine aA 4 fun _ Y=>?_;simp[hat,ga2,ga6,ga10,ga15,ga22];and_intros<;>(try omega);apply Y;simp only [List.drop];refine aX 41 (by simp <;> rfl) ?_;refine ⟨fun g6 => ?_, fun g6 => ?_⟩
      ·try simp at g6
       refine aA 5 fun _ Y=>?_;simp[hat,ga2,ga6,ga10,ga15,ga22];and_intros<;>(try omega);apply Y;simp only [List.drop];refine aX 46 (by simp <;> rfl) ?_;refine ⟨fun g7 => ?_, fun g7 => ?_⟩
       ·try simp at g7
        refine aA 7 fun _ Y=>?_;simp[hat,ga2,ga6,ga10,ga15,ga22];and_intros<;>(try omega);apply Y;simp only [List.drop];refine aX 53 (by simp <;> rfl) ?_;refine ⟨fun g8 => ?_, fun g8 => ?_⟩
        ·try simp at g8
         simp[hat,ga2,ga6,ga10,ga15,ga22];and_intros<;>(try omega);apply Z;apply aC;simp [aK]
        ·simp at g8
       ·simp at g7
      ·simp at g6
     ·simp at g5
    ·simp at g4
theorem LX.clear {k m M l : Nat} {d : DS} {rk : Int → Nat} {x : RD} {ops : List TOp} {σ τ : List (List D)} (h : LX k m M l d rk x ops σ) (hs : τ = σ.set l (eN m [])) : LX k m M l d rk x [] τ := by
 subst hs;exact ⟨h.ix.put h.off _, h.off, aI h.at_ _, Nat.zero_le _⟩
end Go.Proofs.YtpfmpeaekgdgnaaGreat

