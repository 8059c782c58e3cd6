import Derived.Test.YtighdhfgcdjmeaaDoorWkS9
namespace Go.Proofs.YtighdhfgcdjmeaaDoor
open Go Go.Vm
set_option maxRecDepth 20000
set_option linter.all false
set_option maxHeartbeats 8000000
theorem Ds (t : TN) (x y : Int) (was : Nat) : pQ t [] x y was = was := by
 unfold pQ;have : SI.fnd nE [] t.ID = false := rfl;simp [this]
theorem tJ : ∀ (n : Nat) (t : TN) (x y : Int) (was : Nat), iL [] n t x y was = was
 | 0, _, _, _, _ => rfl
 | n + 1, t, x, y, was => by
  simp only [iL, Ds];split
  ·rfl
  ·have hf : ∀ (ks : List TN) (a : Nat), ks.foldl (fun a k => iL [] n k x y a) a = a := fun ks => by
    induction ks with
    | nil => exact fun _ => rfl
    | cons k ks ih => exact fun a => by rw [List.foldl_cons, tJ n k x y a]; exact ih a
   exact hf _ _
def lZ (w : Nat) : ByteArray := ⟨(List.replicate w (32 : UInt8)).toArray⟩
theorem Iz (n : Nat) (t : TN) (w j : Nat) : Hh [] n t w j = lZ w := by
 unfold Hh zS lZ;congr 2;simp only [tJ];rw [List.map_const'];simp
theorem Fp (n : Nat) (t : TN) (wd hg : Int) : sY [] n t wd hg = List.replicate (gW hg 100) (lZ (gW wd 200)) := by
 unfold sY;simp only [Iz];rw [List.map_const'];simp
@[simp] theorem Oc (w : Nat) : (lZ w).size = w := by show (List.replicate w (32 : UInt8)).toArray.size = w; simp
theorem Eo (w k : Nat) (h : k < w) : (lZ w).data[k]?.getD 0 = 32 := by unfold lZ; simp [h]
theorem Cr (n : Nat) (t : TN) (wd hg : Int) (σ : List (List D)) (hn : n ≤ 1000) (hgt : TG t) (hct : lH t ≤ n) : Ct Tryd.prog 11 [oO t, .sl false [], D.int wd, D.int hg] σ (fun r σ' => r = dl (List.replicate (gW hg 100) (lZ (gW wd 200))) ∧ σ' = σ) := by
 have h := wI n t [] wd hg σ hn hgt hct (by simp);rw [show SI.ofL nE [] = [] from rfl, Fp] at h;exact h
theorem Nq {v : VN} (h : VG v) : Nx v := by
 induction h with
 | mk v h hk ih =>
  exact fun i σ hi => (Jm v i σ h hi (fun k hk' => ⟨hk k hk', ih k hk'⟩)).trim fun r σ' ⟨⟨t, hr, hg, hc⟩, J, hs⟩ => ⟨σ, J, hs, rfl, by
   rw [hr];exact Sc.tup fun d hd => by
    simp only [List.mem_cons, List.not_mem_nil, or_false] at hd;rcases hd with rfl | rfl
    ·exact Ns _ t
    ·exact Sc.v _, fun n cs h => .inl h, ⟨t, hr, hg, hc⟩, rfl⟩
theorem tI (x m : Int) (hm : 0 ≤ m) : max 0 (min x m) = (gW x m : Int) := by unfold gW pR; omega
theorem yL (l : List FL) (wd hg : Int) (σ : List (List D)) (hl : l.length ≤ 9223372036854775807) (hf : ∀ f ∈ l, FO f) : Ct Tryd.prog 4 [.sl false (l.map vJ), D.int wd, D.int hg] σ (fun r σ' => r = .bool true) := by
 refine zf (rs:=[.tmp 6]) Tryd.func4 Tryd.ntmps4 Tryd.results4 ?_;simp only [aU];refine cH fun _ _ Z=>?_;simp (disch:=omega);and_intros<;>(try omega);apply Z;apply aE;refine cH fun _ _ Z=>?_;refine aI fun _ Y=>?_;simp (disch:=omega);refine eV (Hs _) ?_;apply Y;simp (disch:=omega);and_intros<;>(try omega);apply Z;refine zi ?_;refine ⟨fun c1=>?_,fun c1=>?_⟩
 ·simp at c1
 ·try simp at c1
  apply aJ;apply aD;refine cH fun _ _ Z=>?_;refine aC 1 fun _ Y=>?_;simp (disch:=omega);and_intros<;>(try omega);apply Y;simp only [List.drop];refine aI fun _ Y=>?_;simp (disch:=omega);refine Qw (Mf l 10 _ (by omega) hl hf) ?_;rintro _ τ1 ⟨⟨v, hr1, hv, hvc⟩, hτ1⟩;subst hr1 hτ1;apply Y;refine aI fun _ Y=>?_;simp (disch:=omega);refine Qw (Nq hv 1 _ (by omega)) ?_;rintro _ τ2 ⟨⟨t, hr2, hg2, hcc⟩, hτ2⟩;subst hr2 hτ2;have hc : lH t ≤ 25 := by omega
  apply Y;simp (disch:=omega);and_intros<;>(try omega);apply Z;refine cH fun _ _ Z=>?_;refine aC 3 fun _ Y=>?_;simp (disch:=omega);and_intros<;>(try omega);apply Y;simp only [List.drop];refine aI fun _ Y=>?_;simp (disch:=omega);refine eV (Cr 25 t wd hg _ (by omega) hg2 hc) ?_;generalize hh1 : gW hg 100 = h;generalize hw1 : gW wd 200 = w;have hh2 := tI hg 100 (by omega);have hw2 := tI wd 200 (by omega);rw [hh1] at hh2;rw [hw1] at hw2;apply Y;simp (disch:=omega);and_intros<;>(try omega);apply Z;apply aE;refine zk [1,2,6,9] ?_;refine cH fun _ _ Z=>?_;simp (disch:=omega);and_intros<;>(try omega);apply Z;refine zi ?_;refine ⟨fun c2=>?_,fun c2=>?_⟩
  ·try simp at c2
   omega
  ·try simp at c2
   apply aJ;apply aD;apply aE;refine cH fun _ _ Z=>?_;simp (disch:=omega);and_intros<;>(try omega);apply Z;apply aN;refine zk [1,6,31,32,33] ?_;refine dA (fun (k : Nat) => [(33, .d (.v (.int .i64 (k : Int)))), (11, .d (.any)), (12, .d (.any))]) [6, 11, 12, 33, 34, 35, 36, 37, 38, 39, 40, 41, 42, 43, 44, 45, 46, 47, 48, 49, 50, 51, 52, 53] (fun (k : Nat) => k ≤ h) (fun (k : Nat) => h - k) (0) (by simp <;> rfl) ?_ ?_ ?_
   ·simp
   ·simp
   rintro k hk;simp only [List.cons_append, List.nil_append];refine cH fun _ _ Z=>?_;simp (disch:=omega);and_intros<;>(try omega);apply Z;apply aE;refine zi ?_;refine ⟨fun c3=>?_,fun c3=>?_⟩
   ·try simp at c3
    apply aJ;apply aD;apply aE;apply aN;refine cH fun _ _ Z=>?_;simp (disch:=omega);and_intros<;>(try omega);apply Z;apply aE;refine cH fun _ _ Z=>?_;simp (disch:=omega);and_intros<;>(try omega);apply Z;refine zi ?_;refine ⟨fun c4=>?_,fun c4=>?_⟩
    ·try simp at c4
     omega
    ·try simp at c4
     apply aJ;apply aD;refine zk [1,11,12,31,32,33] ?_;refine cH fun _ _ Z=>?_;simp (disch:=omega);and_intros<;>(try omega);apply Z;apply aN;refine zk [1,11,12,31,32,33] ?_;refine dA (fun (j : Nat) => [(12, .d (.v (.int .i64 (j : Int))))]) [6, 12, 43, 44, 45, 46, 47, 48, 49, 50, 51, 52] (fun (j : Nat) => j ≤ w) (fun (j : Nat) => w - j) (0) (by simp <;> rfl) ?_ ?_ ?_
     ·simp
     ·simp
     rintro j hj;simp only [List.cons_append, List.nil_append];apply aE;refine cH fun _ _ Z=>?_;simp (disch:=omega);and_intros<;>(try omega);apply Z;refine zi ?_;refine ⟨fun c5=>?_,fun c5=>?_⟩
     ·try simp at c5
      apply aJ;apply aD;apply aE;apply aN;refine cH fun _ _ Z=>?_;simp (disch:=omega);and_intros<;>(try omega);apply Z;refine zi ?_;refine ⟨fun c6=>?_,fun c6=>?_⟩
      ·try simp at c6
       have hb := Eo w j (by omega);simp [hb] at c6
      ·try simp at c6
       apply aJ;apply aX;apply aD;refine zk [1,11,12,31,32,33] ?_;refine Nc fun _ _ Z=>?_;simp (disch:=omega);and_intros<;>(try omega);apply Z;refine bW (j + 1) ?_ ?_ (bK rfl ?_ (by simp) (by simp))
       ·omega
       ·try dsimp only
        omega
       ·simp (disch:=omega)
     ·try simp at c5
      apply bM;apply bO;apply bP;apply bE;apply aX;apply aD;refine Nc fun _ _ Z=>?_;simp (disch:=omega);and_intros<;>(try omega);apply Z;refine bW (k + 1) ?_ ?_ (bK rfl ?_ (by simp) (by simp))
      ·omega
      ·try dsimp only
       omega
      ·simp (disch:=omega)
   ·try simp at c3
    apply bM;apply bO;apply bP;apply bE;apply aD;refine cH fun _ _ Z=>?_;simp (disch:=omega);and_intros<;>(try omega);apply Z;apply aH;simp [bB]
end Go.Proofs.YtighdhfgcdjmeaaDoor

