import Derived.Test.YtpfmpeaekgdgnaaGreatArClone2
namespace Go.Proofs.YtpfmpeaekgdgnaaGreat
open Go Go.Vm
set_option maxRecDepth 20000
set_option linter.all false
set_option maxHeartbeats 8000000
theorem Ba (acts more : List Act) (σ : List (List D)) (hl : acts.length ≤ 9223372036854775807) (ha : ∀ a ∈ acts, a.name.size ≤ 9223372036854775807 ∧ a.value.size ≤ 9223372036854775807) (hl2 : more.length ≤ 9223372036854775807) (ha2 : ∀ a ∈ more, a.name.size ≤ 9223372036854775807 ∧ a.value.size ≤ 9223372036854775807) : Ct Tryz.prog 7 [.sl false (acts.map nE), .sl false (more.map nE)] σ (fun r σ' => r = .bool true) := by
 refine zf (rs:=[.tmp 4]) Tryz.func7 Tryz.ntmps7 Tryz.results7 ?_;simp only [aQ];refine aZ fun _ _ Z=>?_;simp (disch:=omega);and_intros<;>(try omega);apply Z;apply aD;refine aZ fun _ _ Z=>?_;refine aF fun _ Y=>?_;simp (disch:=omega);refine zcm (Qd _) ?_;rintro _ σ1 hr9;subst hr9;apply Y;simp (disch:=omega);and_intros<;>(try omega);apply Z;refine zi ?_;refine ⟨fun c1=>?_,fun c1=>?_⟩
 ·simp at c1
 ·try simp at c1
  apply aG;apply aB;refine aZ fun _ _ Z=>?_;refine aF fun _ Y=>?_;simp (disch:=omega);refine zcm (Kk 20 _) ?_;rintro _ τ0 ⟨hr9, hs9⟩;subst hr9;obtain ⟨m, M, dd, rk0, hm0, hx0, hi0⟩ := Qs _ _ _ hs9;rw [hm0];clear hs9 hm0;apply Y;refine aF fun _ Y=>?_;simp (disch:=omega);refine cO (Yk 20 _) ?_;apply Y;simp (disch:=omega);and_intros<;>(try omega);apply Z;apply aD;refine aZ fun _ _ Z=>?_;simp (disch:=omega);and_intros<;>(try omega);apply Z;refine zi ?_;refine ⟨fun c2=>?_,fun c2=>?_⟩
  ·simp at c2
  ·try simp at c2
   apply aG;apply aB;refine aZ fun _ _ Z=>?_;simp (disch:=omega);and_intros<;>(try omega);apply Z;refine zj (n := 75) (fun (p : Nat × DS × (Int → Nat) × RD × List (List D)) => [(1, .d (.sl false (more.map nE))), (5, .d (.ref m 0)), (6, .lref 0 0)]) (fun (p : Nat × DS × (Int → Nat) × RD × List (List D)) => [[.v (.int .i64 p.2.2.2.1.most), .v (.int .i64 p.2.2.2.1.next), .sl false (p.2.2.2.1.l.map lU)]]) (fun (p : Nat × DS × (Int → Nat) × RD × List (List D)) => p.2.2.2.2) (fun (p : Nat × DS × (Int → Nat) × RD × List (List D)) => p.1 ≤ 20 ∧ IX p.1 m M p.2.1 p.2.2.1 p.2.2.2.1 p.2.2.2.2) ?_ ?_
   ·skip
    refine aZ fun _ _ Z=>?_;simp (disch:=omega);and_intros<;>(try omega);apply Z;apply aK;refine zk [0,1,5,6,7,8] ?_;refine kF (fun (p : Nat × DS × (Int → Nat) × RD × List (List D)) => [(8, .d (.v (.int .i64 p.1))), (7, .d (.any))]) (fun (p : Nat × DS × (Int → Nat) × RD × List (List D)) => [[.v (.int .i64 p.2.2.2.1.most), .v (.int .i64 p.2.2.2.1.next), .sl false (p.2.2.2.1.l.map lU)]]) (fun (p : Nat × DS × (Int → Nat) × RD × List (List D)) => p.2.2.2.2) [4, 7, 8, 18, 19, 20, 21, 22, 23, 24, 25, 26, 27, 28, 29, 30, 31, 32, 33, 34, 35, 36, 37, 38, 39] (fun (p : Nat × DS × (Int → Nat) × RD × List (List D)) => p.1 ≤ acts.length ∧ p.1 ≤ 20 ∧ IX p.1 m M p.2.1 p.2.2.1 p.2.2.2.1 p.2.2.2.2) (fun (p : Nat × DS × (Int → Nat) × RD × List (List D)) => acts.length - p.1) ((0, dd, rk0, newX 20, τ0)) (by simp <;> rfl) ?_ (by simp) (by simp) ?_ ?_
    ·simp
    ·exact ⟨Nat.zero_le _, Nat.zero_le _, hi0⟩
    rintro ⟨k, d, rk, x, τ⟩ ⟨hk, hk3, hx⟩;simp only [List.cons_append, List.nil_append];simp only at hk hk3 hx;apply aD;refine lA ⟨[],[],[],[],[]⟩ fun all hall _ Z=>?_;have ga4 : aR all 4 = some 22 := hall 4;refine aA 5 fun _ Y=>?_;simp (disch:=omega)[ga4];and_intros<;>(try omega);apply Y;simp only [List.drop];refine aX 22 (by simp <;> rfl) ?_;refine ⟨fun g3 => ?_, fun g3 => ?_⟩
    ·try simp at g3
     simp (disch:=omega)[ga4];and_intros<;>(try omega);apply Z;refine zi ?_;refine ⟨fun c4=>?_,fun c4=>?_⟩
     ·try simp at c4
      apply aG;apply aB;apply aD;apply aK;refine zk [0,1,5,6,7,8] ?_;refine zd ⟨[],[],[],[],[]⟩ [.op {},.op {rL:=true},.op {},.op {},.op {},.op {},.det,.op {},.op {},.op {},.op {rL:=true,wL:=true},.op {}] fun all hall _ Z=>?_;refine aO 6 (by simp) fun _ Y=>?_;simp (disch:=omega);and_intros<;>(try omega);apply Y;simp only [List.drop];refine dD fun _ Y=>?_;simp (disch:=omega);obtain ⟨d2, rk2, σ2, y2, hc2, hx2, hn2, fr2⟩ := Ts acts[k] hx (by omega) (By ha (by omega)).1 (By ha (by omega)).2;refine zdd (hc2) ?_;apply Y;simp (disch:=omega);and_intros<;>(try omega);apply Z;refine zk [0,1,5,6,7,8] ?_;refine aZ fun _ _ Z=>?_;simp (disch:=omega);and_intros<;>(try omega);apply Z;refine zi ?_;refine ⟨fun c5=>?_,fun c5=>?_⟩
      ·simp at c5
      ·try simp at c5
       apply aG;apply aP;apply aB;refine uM fun _ _ Z=>?_;simp (disch:=omega);and_intros<;>(try omega);apply Z;refine bB ((k + 1, d2, rk2, y2, σ2)) ?_ ?_ (aW rfl ?_ (by simp) (by simp))
       ·exact ⟨by simp only; omega, by simp only; omega, hx2⟩
       ·try dsimp only
        omega
       ·simp (disch:=omega)
     ·try simp at c4
      apply bN;apply bP;apply bO;apply bG;refine Bm ((k, d, rk, x, τ)) (⟨hk3, hx⟩) (aW rfl ?_ (by simp) (by simp));simp (disch:=omega)
    ·try simp at g3
     simp (disch:=omega)[ga4];and_intros<;>(try omega);apply Z;refine bT (t := false) (by simp) (fun h => by cases h) (fun _ => ?_);apply bN;apply bP;apply bO;apply bG;refine Bm ((k, d, rk, x, τ)) (⟨hk3, hx⟩) (aW rfl ?_ (by simp) (by simp));simp (disch:=omega)
   rintro ⟨k, d, rk, x, τ⟩ ⟨hk3, hx⟩;simp only at hk3 hx;obtain ⟨z1, z2, z3⟩ := Pt hx (by omega);refine yM 6 0 (by simp <;> rfl) (by simp <;> rfl) (by simp) ?_;simp only [List.map_cons, List.map_nil, aDp, aAs];refine zdN ⟨[],[],[],[],[]⟩ [0,2,3,5,1,4] 4 [.op {},.op {},.op {rL:=true,wL:=true},.op {rL:=true,wL:=true},.nd,.op {}] (fun all hall _ Z=>?_) (by simp only [bW, List.filterMap_cons, List.filterMap_nil, List.getElem?_cons_succ, List.getElem?_cons_zero, fN, gS] <;> rfl);refine aO 4 (by simp) fun _ Y=>?_;simp (disch:=omega);and_intros<;>(try omega);apply Y;simp only [List.drop];refine dD fun _ Y=>?_;simp (disch:=omega);refine zdn (Lt m M d _ hx.iv.ho z1 z2 z3) ⟨_, _, d.es, .refl _, rfl, rfl⟩ ?_;rintro _ τ1 ⟨ps, hps, hr9, hs9⟩;subst hr9;obtain ⟨m2, M2, dc, hm2, hi1, hc1, hs0, _⟩ := Uk hx hps hs9;have hs1 : ∀ i, yN m d i → Off m2 dc i := fun i hi => Off.not.2 fun g => Off.not.1 (hs0 i g).1 hi;rw [hm2];clear hs9;apply Y;simp (disch:=omega);and_intros<;>(try omega);apply Z;apply aD;refine aZ fun _ _ Z=>?_;simp (disch:=omega);and_intros<;>(try omega);apply Z;refine zi ?_;refine ⟨fun c6=>?_,fun c6=>?_⟩
   ·simp at c6
   ·try simp at c6
    apply aG;apply aB;refine zj (n := 75) (fun (p : Nat × DS × (Int → Nat) × RD × List (List D)) => [(5, .d (.ref m 0)), (6, .d (.adr [.v (.int .i64 x.most), .v (.int .i64 x.next), .sl false (x.l.map lU)])), (9, .d (.ref m2 0)), (10, .lref 1 0)]) (fun (p : Nat × DS × (Int → Nat) × RD × List (List D)) => [[], [.v (.int .i64 p.2.2.2.1.most), .v (.int .i64 p.2.2.2.1.next), .sl false (p.2.2.2.1.l.map lU)]]) (fun (p : Nat × DS × (Int → Nat) × RD × List (List D)) => p.2.2.2.2) (fun (p : Nat × DS × (Int → Nat) × RD × List (List D)) => p.1 ≤ 12 ∧ IX k m M d rk x p.2.2.2.2 ∧ (∀ i, yN m d i → Off m2 p.2.1 i) ∧ IX (k + p.1) m2 M2 p.2.1 p.2.2.1 p.2.2.2.1 p.2.2.2.2) ?_ ?_
    ·skip
     refine aZ fun _ _ Z=>?_;simp (disch:=omega);and_intros<;>(try omega);apply Z;apply aK;refine zk [1,5,6,9,10,11] ?_;refine kF (fun (p : Nat × DS × (Int → Nat) × RD × List (List D)) => [(11, .d (.v (.int .i64 p.1))), (7, .d (.any))]) (fun (p : Nat × DS × (Int → Nat) × RD × List (List D)) => [[], [.v (.int .i64 p.2.2.2.1.most), .v (.int .i64 p.2.2.2.1.next), .sl false (p.2.2.2.1.l.map lU)]]) (fun (p : Nat × DS × (Int → Nat) × RD × List (List D)) => p.2.2.2.2) [4, 7, 11, 45, 46, 47, 48, 49, 50, 51, 52, 53, 54, 55, 56, 57, 58, 59, 60, 61, 62, 63, 64, 65, 66] (fun (p : Nat × DS × (Int → Nat) × RD × List (List D)) => p.1 ≤ more.length ∧ p.1 ≤ 12 ∧ IX k m M d rk x p.2.2.2.2 ∧ (∀ i, yN m d i → Off m2 p.2.1 i) ∧ IX (k + p.1) m2 M2 p.2.1 p.2.2.1 p.2.2.2.1 p.2.2.2.2) (fun (p : Nat × DS × (Int → Nat) × RD × List (List D)) => more.length - p.1) ((0, dc, rk, x, τ1)) (by simp <;> rfl) ?_ (by simp) (by simp) ?_ ?_
     ·simp
     ·exact ⟨Nat.zero_le _, Nat.zero_le _, hi1, hs1, hc1⟩
     rintro ⟨k2, dc, rk2, y, τ⟩ ⟨hk2, hk23, hi, hs, hy⟩;simp only [List.cons_append, List.nil_append];simp only at hk2 hk23 hi hs hy;apply aD;refine lA ⟨[],[],[],[],[]⟩ fun all hall _ Z=>?_;have ga4 : aR all 4 = some 49 := hall 4;refine aA 5 fun _ Y=>?_;simp (disch:=omega)[ga4];and_intros<;>(try omega);apply Y;simp only [List.drop];refine aX 49 (by simp <;> rfl) ?_;refine ⟨fun g7 => ?_, fun g7 => ?_⟩
     ·try simp at g7
      simp (disch:=omega)[ga4];and_intros<;>(try omega);apply Z;refine zi ?_;refine ⟨fun c8=>?_,fun c8=>?_⟩
      ·try simp at c8
       apply aG;apply aB;apply aD;apply aK;refine zk [1,5,6,7,9,10,11] ?_;refine zd ⟨[],[],[],[],[]⟩ [.op {},.op {rL:=true},.op {},.op {},.op {},.op {},.det,.op {},.op {},.op {},.op {rL:=true,wL:=true},.op {}] fun all hall _ Z=>?_;refine aO 6 (by simp) fun _ Y=>?_;simp (disch:=omega);and_intros<;>(try omega);apply Y;simp only [List.drop];refine dD fun _ Y=>?_;simp (disch:=omega);obtain ⟨dc2, rk3, σ2, y2, hc2, hy2, hn2, fr2⟩ := Ts more[k2] hy (by omega) (By ha2 (by omega)).1 (By ha2 (by omega)).2;obtain ⟨hi2, hs2⟩ := Ra hi hs fr2;refine zdd (hc2) ?_;apply Y;simp (disch:=omega);and_intros<;>(try omega);apply Z;refine zk [1,5,6,7,9,10,11] ?_;refine aZ fun _ _ Z=>?_;simp (disch:=omega);and_intros<;>(try omega);apply Z;refine zi ?_;refine ⟨fun c9=>?_,fun c9=>?_⟩
       ·simp at c9
       ·try simp at c9
        apply aG;apply aP;apply aB;refine uM fun _ _ Z=>?_;simp (disch:=omega);and_intros<;>(try omega);apply Z;refine bB ((k2 + 1, dc2, rk3, y2, σ2)) ?_ ?_ (aW rfl ?_ (by simp) (by simp))
        ·exact ⟨by simp only; omega, by simp only; omega, hi2, hs2, hy2⟩
        ·try dsimp only
         omega
        ·simp (disch:=omega)
      ·try simp at c8
       apply bN;apply bP;apply bO;apply bG;refine Bm ((k2, dc, rk2, y, τ)) (⟨hk23, hi, hs, hy⟩) (aW rfl ?_ (by simp) (by simp));simp (disch:=omega)
     ·try simp at g7
      simp (disch:=omega)[ga4];and_intros<;>(try omega);apply Z;refine bT (t := false) (by simp) (fun h => by cases h) (fun _ => ?_);apply bN;apply bP;apply bO;apply bG;refine Bm ((k2, dc, rk2, y, τ)) (⟨hk23, hi, hs, hy⟩) (aW rfl ?_ (by simp) (by simp));simp (disch:=omega)
    rintro ⟨k2, dc, rk2, y, τ⟩ ⟨hk23, hi, hs, hy⟩;simp only at hk23 hi hs hy;refine lA ⟨[],[],[],[],[]⟩ fun all hall _ Z=>?_;have ga3 : aR all 3 = some 70 := hall 3;refine aA 2 fun _ Y=>?_;simp (disch:=omega)[ga3];and_intros<;>(try omega);apply Y;simp only [List.drop];refine aF fun _ Y=>?_;simp (disch:=omega)[ga3];refine cO (aAp k m M d rk x _ hi (by omega)) ?_;apply Y;refine aA 1 fun _ Y=>?_;simp (disch:=omega)[ga3];and_intros<;>(try omega);apply Y;simp only [List.drop];refine aX 70 (by simp <;> rfl) ?_;refine ⟨fun g10 => ?_, fun g10 => ?_⟩
    ·try simp at g10
     refine aA 2 fun _ Y=>?_;simp (disch:=omega)[ga3];and_intros<;>(try omega);apply Y;simp only [List.drop];refine zg ga3 fun _ Y=>?_;simp (disch:=omega)[ga3];refine cO (aAp (k + k2) m2 M2 dc rk2 y _ hy (by omega)) ?_;apply Y;simp (disch:=omega)[ga3];and_intros<;>(try omega);apply Z;apply aC;simp [aM]
    ·simp at g10
end Go.Proofs.YtpfmpeaekgdgnaaGreat

