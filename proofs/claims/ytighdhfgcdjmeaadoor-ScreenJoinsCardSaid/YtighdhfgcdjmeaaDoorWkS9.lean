import Derived.Test.YtighdhfgcdjmeaaDoorWkS8
namespace Go.Proofs.YtighdhfgcdjmeaaDoor
open Go Go.Vm
set_option maxRecDepth 20000
set_option linter.all false
set_option maxHeartbeats 8000000
def Lh : TN := ⟨1, 2, ⟨#[112]⟩, ⟨#[]⟩, [], [], [⟨pL, 46⟩], [⟨2, 1, ⟨#[]⟩, ⟨#[97, 98]⟩, [], [], [], []⟩]⟩
def Qd : List EN := [⟨1, ⟨0, 0, 4, 2⟩⟩, ⟨2, ⟨0, 0, 0, 0⟩⟩]
abbrev Gg : ByteArray := ⟨#[97, 98, 46, 46, 32]⟩
abbrev Ek : ByteArray := ⟨#[46, 46, 46, 46, 32]⟩
theorem Wz : TG Lh := by
 refine .mk _ ⟨⟨by decide, by unfold Sorted; decide +kernel⟩, ⟨by decide, by unfold Sorted; decide +kernel⟩, by decide +kernel, by decide⟩ fun k hk => ?_;obtain rfl : k = ⟨2, 1, ⟨#[]⟩, ⟨#[97, 98]⟩, [], [], [], []⟩ := by simpa [Lh] using hk
 exact .mk _ ⟨⟨by decide, by unfold Sorted; decide +kernel⟩, ⟨by decide, by unfold Sorted; decide +kernel⟩, by decide +kernel, by decide⟩ fun k hk => by cases hk
theorem Yb : rA Lh ≤ 2 := by rw [lW]; simp [Lh, lW]
theorem Lq : Av (SI.ofL nE Qd) 2 Lh 5 2 = [Gg, Ek] := by decide +kernel
theorem Ln : hC [Gg, Ek] = ⟨#[97, 98, 46, 46, 10, 46, 46, 46, 46, 10]⟩ := by decide +kernel
theorem Rv : ofL nP [⟨pL, 46⟩] = [⟨pL, 46⟩] := by decide +kernel
abbrev Tg : D := .agg [.v (.int .i64 1), .v (.int .i64 2), .v (.string ⟨#[112]⟩), .v (.string ⟨#[]⟩), .sl false [], .sl false [], .sl false [bT ⟨pL, 46⟩], .sl false [.agg [.v (.int .i64 2), .v (.int .i64 1), .v (.string ⟨#[]⟩), .v (.string ⟨#[97, 98]⟩), .sl false [], .sl false [], .sl false [], .sl false []]]]
theorem Xg : uQ Lh = Tg := by simp [Lh]
theorem Pu : Qd.map bX = [.agg [D.int 1, D.int 0, D.int 0, D.int 4, D.int 2], .agg [D.int 2, D.int 0, D.int 0, D.int 0, D.int 0]] := rfl
theorem Ny (σ : List (List D)) : Ct Tryd.prog 12 [.sl false [bT ⟨pL, 46⟩]] σ (fun r σ' => r = .sl false [bT ⟨pL, 46⟩] ∧ σ' = σ) := (Iw [⟨pL, 46⟩] σ (by decide)).freeze fun r σ' h => by rw [Rv] at h; exact h
theorem Rz (σ : List (List D)) : Ct Tryd.prog 11 [Tg, .sl false [.agg [D.int 1, D.int 0, D.int 0, D.int 4, D.int 2], .agg [D.int 2, D.int 0, D.int 0, D.int 0, D.int 0]], D.int 5, D.int 2] σ (fun r σ' => r = .sl false [D.str Gg, D.str Ek] ∧ σ' = σ) := by
 have h := Fx 2 Lh Qd 5 2 σ (by omega) Wz Yb (by decide);rw [Xg, Pu, Lq] at h;exact h
theorem Qs (σ : List (List D)) : Ct Tryd.prog 7 [.sl false [D.str Gg, D.str Ek]] σ (fun r σ' => r = .v (.string ⟨#[97, 98, 46, 46, 10, 46, 46, 46, 46, 10]⟩) ∧ σ' = σ) := by
 have h := uI [Gg, Ek] σ (by decide) (by decide +kernel);rw [Ln] at h;exact h
theorem Iv  (σ : List (List D))  : Ct Tryd.prog 5 [] σ (fun r σ' => r = .bool true ∧ σ' = σ) := by
 refine zf (rs:=[.tmp 0]) Tryd.func5 Tryd.ntmps5 Tryd.results5 ?_;simp only [aX];refine cN fun _ _ Z=>?_;simp[show List.range 2 = [0,1] from rfl,show List.range 1 = [0] from rfl];and_intros<;>(try omega);apply Z;refine cN fun _ _ Z=>?_;refine aA 2 fun _ Y=>?_;simp[show List.range 2 = [0,1] from rfl,show List.range 1 = [0] from rfl];and_intros<;>(try omega);apply Y;simp only [List.drop];refine aK fun _ Y=>?_;simp[show List.range 2 = [0,1] from rfl,show List.range 1 = [0] from rfl];refine fN (Ny _) ?_;apply Y;simp[show List.range 2 = [0,1] from rfl,show List.range 1 = [0] from rfl];and_intros<;>(try omega);apply Z;refine cN fun _ _ Z=>?_;refine aA 5 fun _ Y=>?_;simp[show List.range 2 = [0,1] from rfl,show List.range 1 = [0] from rfl];and_intros<;>(try omega);apply Y;simp only [List.drop];refine aK fun _ Y=>?_;simp[show List.range 2 = [0,1] from rfl,show List.range 1 = [0] from rfl];refine fN (Rz _) ?_;apply Y;simp[show List.range 2 = [0,1] from rfl,show List.range 1 = [0] from rfl];and_intros<;>(try omega);apply Z;refine zk [0,2] ?_;refine Iz ⟨[],[],[],[],[]⟩ fun all hall _ Z=>?_;have ga3 : aT all 3 = some 18 := hall 3;have ga9 : aT all 9 = some 24 := hall 9;have ga15 : aT all 15 = some 30 := hall 15;refine aA 4 fun _ Y=>?_;simp[show List.range 2 = [0,1] from rfl,show List.range 1 = [0] from rfl,ga3,ga9,ga15];and_intros<;>(try omega);apply Y;simp only [List.drop];refine cF 18 (by simp <;> rfl) ?_;refine ⟨fun g1 => ?_, fun g1 => ?_⟩
 ·try simp at g1
  refine aA 6 fun _ Y=>?_;simp[show List.range 2 = [0,1] from rfl,show List.range 1 = [0] from rfl,ga3,ga9,ga15];and_intros<;>(try omega);apply Y;simp only [List.drop];refine cF 24 (by simp <;> rfl) ?_;refine ⟨fun g2 => ?_, fun g2 => ?_⟩
  ·try simp at g2
   refine aA 6 fun _ Y=>?_;simp[show List.range 2 = [0,1] from rfl,show List.range 1 = [0] from rfl,ga3,ga9,ga15];and_intros<;>(try omega);apply Y;simp only [List.drop];refine cF 30 (by simp <;> rfl) ?_;refine ⟨fun g3 => ?_, fun g3 => ?_⟩
   ·try simp at g3
    refine aA 1 fun _ Y=>?_;simp[show List.range 2 = [0,1] from rfl,show List.range 1 = [0] from rfl,ga3,ga9,ga15];and_intros<;>(try omega);apply Y;simp only [List.drop];refine zg ga15 fun _ Y=>?_;simp[show List.range 2 = [0,1] from rfl,show List.range 1 = [0] from rfl,ga3,ga9,ga15];refine fN (Qs _) ?_;apply Y;simp[show List.range 2 = [0,1] from rfl,show List.range 1 = [0] from rfl,ga3,ga9,ga15];and_intros<;>(try omega);apply Z;apply aI;simp [bE]
   ·simp at g3
  ·simp at g2
 ·simp at g1
def oU (l : Ls) (k : Nat) : Ls := (l.take k).map (zD 30)
theorem Cc (l : Ls) (k : Nat) (h : k < l.length) : oU l (k + 1) = oU l k ++ [zD 30 l[k]] := by unfold oU; rw [fT l k h, List.map_append]; rfl
theorem qD (l : Ls) (k : Nat) : (oU l k).length ≤ k := by unfold oU; simp; omega
theorem pE (l : Ls) (k : Nat) : ∀ s ∈ oU l k, s.size ≤ 1000 := fun s hs => by
 obtain ⟨a, _, rfl⟩ := List.mem_map.1 hs;have := Gs 30 a;omega
theorem wK (l : Ls) (σ : List (List D)) (hl : l.length ≤ 9223372036854775807) : Ct Tryd.prog 3 [dl l] σ (fun r σ' => r = .bool true ∧ σ' = σ) := by
 refine zf (rs:=[.tmp 2]) Tryd.func3 Tryd.ntmps3 Tryd.results3 ?_;simp only [aX];refine zr ⟨[3,17],[],[],[],[]⟩ fun _ _ Z=>?_;simp (disch:=omega);and_intros<;>(try omega);apply Z;apply aG;refine zr ⟨[3,17],[],[],[],[]⟩ fun _ _ Z=>?_;refine aK fun _ Y=>?_;simp (disch:=omega);refine fN (Iv _) ?_;apply Y;simp (disch:=omega);and_intros<;>(try omega);apply Z;refine zi ?_;refine ⟨fun c1=>?_,fun c1=>?_⟩
 ·simp at c1
 ·try simp at c1
  apply aM;apply aC;refine zr ⟨[3,17],[],[],[],[]⟩ fun _ _ Z=>?_;simp (disch:=omega);and_intros<;>(try omega);apply Z;apply aG;refine zr ⟨[3,17],[],[],[],[]⟩ fun _ _ Z=>?_;simp (disch:=omega);and_intros<;>(try omega);apply Z;apply aU;refine zk [0,2,3,4] ?_;refine eS (fun (k : Nat) => [(4, .d (.v (.int .i64 (k : Int)))), (3, .d (.sl true ((oU l k).map D.str)))]) [3, 4, 7, 8, 9, 10, 11, 12, 13, 14, 15, 16, 17, 18, 19, 20, 21, 22, 23, 24] (fun (k : Nat) => k ≤ l.length ∧ k ≤ 10) (fun (k : Nat) => 10 - k) (0) (by simp <;> rfl) ?_ ?_ ?_
  ·simp [oU]
  ·simp
  rintro k ⟨hk, hk2⟩;simp only [List.cons_append, List.nil_append];have hlc := qD l k;apply aG;refine Iz ⟨[3,17],[],[],[],[]⟩ fun all hall _ Z=>?_;have ga4 : aT all 4 = some 11 := hall 4;refine aA 5 fun _ Y=>?_;simp (disch:=omega)[ga4];and_intros<;>(try omega);apply Y;simp only [List.drop];refine cF 11 (by simp <;> rfl) ?_;refine ⟨fun g2 => ?_, fun g2 => ?_⟩
  ·try simp at g2
   simp (disch:=omega)[ga4];and_intros<;>(try omega);apply Z;refine zi ?_;refine ⟨fun c3=>?_,fun c3=>?_⟩
   ·try simp at c3
    apply aM;apply aC;apply aG;apply aU;refine zk [0,2,3,4] ?_;refine zt ⟨[3,17],[],[],[],[]⟩ fun _ _ Z=>?_;refine aA 5 fun _ Y=>?_;simp (disch:=omega);and_intros<;>(try omega);apply Y;simp only [List.drop];refine aK fun _ Y=>?_;simp (disch:=omega);refine fN (Mw l[k] 30 _ (by omega)) ?_;apply Y;simp (disch:=omega);and_intros<;>(try omega);apply Z;apply bB;apply aC;refine zk [0,2,3,4] ?_;refine zt ⟨[3,17],[],[],[],[]⟩ fun _ _ Z=>?_;simp (disch:=omega);and_intros<;>(try omega);apply Z;refine cM (k + 1) ?_ ?_ (bV rfl ?_ (by simp) (by simp))
    ·omega
    ·try dsimp only
     omega
    ·simp (disch:=omega)[Cc]
   ·try simp at c3
    apply cL;apply cI;apply cK;apply bW;apply aC;refine zk [2,3] ?_;refine zr ⟨[3,17],[],[],[],[]⟩ fun _ _ Z=>?_;refine aA 1 fun _ Y=>?_;simp (disch:=omega);and_intros<;>(try omega);apply Y;simp only [List.drop];refine aK fun _ Y=>?_;simp (disch:=omega);have hlc := qD l k;refine fN (uI (oU l k) _ (by omega) (pE l k)) ?_;apply Y;refine aA 1 fun _ Y=>?_;simp (disch:=omega);and_intros<;>(try omega);apply Y;simp only [List.drop];refine aK fun _ Y=>?_;simp (disch:=omega);refine fN (uU (oU l k) _ (by omega) (pE l k)) ?_;apply Y;simp (disch:=omega);and_intros<;>(try omega);apply Z;apply aI;simp [bE]
  ·try simp at g2
   simp (disch:=omega)[ga4];and_intros<;>(try omega);apply Z;refine eE (t := false) (by simp) (fun h => by cases h) (fun _ => ?_);apply cL;apply cI;apply cK;apply bW;apply aC;refine zk [2,3] ?_;refine zr ⟨[3,17],[],[],[],[]⟩ fun _ _ Z=>?_;refine aA 1 fun _ Y=>?_;simp (disch:=omega);and_intros<;>(try omega);apply Y;simp only [List.drop];refine aK fun _ Y=>?_;simp (disch:=omega);have hlc := qD l k;refine fN (uI (oU l k) _ (by omega) (pE l k)) ?_;apply Y;refine aA 1 fun _ Y=>?_;simp (disch:=omega);and_intros<;>(try omega);apply Y;simp only [List.drop];refine aK fun _ Y=>?_;simp (disch:=omega);refine fN (uU (oU l k) _ (by omega) (pE l k)) ?_;apply Y;simp (disch:=omega);and_intros<;>(try omega);apply Z;apply aI;simp [bE]
end Go.Proofs.YtighdhfgcdjmeaaDoor

