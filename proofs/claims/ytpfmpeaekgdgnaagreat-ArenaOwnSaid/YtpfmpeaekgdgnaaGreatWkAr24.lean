import Derived.Test.YtpfmpeaekgdgnaaGreatWkAr23
namespace Go.Proofs.YtpfmpeaekgdgnaaGreat
open Go Go.Vm
set_option maxRecDepth 20000
set_option linter.all false
set_option maxHeartbeats 8000000
theorem Nl (acts : List Act) (id : Int) (σ : List (List D)) (hl : acts.length ≤ 9223372036854775807) (ha : ∀ a ∈ acts, a.name.size ≤ 9223372036854775807 ∧ a.value.size ≤ 9223372036854775807) : Ct Tryz.prog 6 [.sl false (acts.map oY), D.int id] σ (fun r σ' => r = .bool true) := by
 refine zf (rs:=[.tmp 4]) Tryz.func6 Tryz.ntmps6 Tryz.results6 ?_;simp only [aQ];refine zr ⟨[14,96],[],[],[],[]⟩ fun _ _ Z=>?_;simp (disch:=omega)[aO,aI,aF,aC];and_intros<;>(try omega);apply Z;apply aD;refine zr ⟨[14,96],[],[],[],[]⟩ fun _ _ Z=>?_;refine aG fun _ Y=>?_;simp (disch:=omega)[aO,aI,aF,aC];refine Vi (Pr _) ?_;rintro _ σ1 hr9;subst hr9;apply Y;simp (disch:=omega)[aO,aI,aF,aC];and_intros<;>(try omega);apply Z;refine zi ?_;refine ⟨fun c1=>?_,fun c1=>?_⟩
 ·simp at c1
 ·try simp at c1
  apply aH;apply aB;refine zr ⟨[14,96],[],[],[],[]⟩ fun _ _ Z=>?_;refine aG fun _ Y=>?_;simp (disch:=omega)[aO,aI,aF,aC];refine Vi (Jl 20 _) ?_;rintro _ τ0 ⟨hr9, hs9⟩;subst hr9;obtain ⟨m, M, dd, rk0, hm0, hx0, hi0⟩ := Rk _ _ _ hs9;rw [hm0];clear hs9 hm0;apply Y;refine aG fun _ Y=>?_;simp (disch:=omega)[aO,aI,aF,aC];refine cO (Vx 20 _) ?_;apply Y;simp (disch:=omega)[aO,aI,aF,aC];and_intros<;>(try omega);apply Z;apply aD;refine zr ⟨[14,96],[],[],[],[]⟩ fun _ _ Z=>?_;simp (disch:=omega)[aO,aI,aF,aC];and_intros<;>(try omega);apply Z;refine zi ?_;refine ⟨fun c2=>?_,fun c2=>?_⟩
  ·simp at c2
  ·try simp at c2
   apply aH;apply aB;refine zj (n := 109) (fun (p : Nat × DS × (Int → Nat) × RD × List (List D)) => [(1, .d (.int id)), (5, .d (.ref m 0)), (6, .lref 0 0)]) (fun (p : Nat × DS × (Int → Nat) × RD × List (List D)) => [[.v (.int .i64 p.2.2.2.1.most), .v (.int .i64 p.2.2.2.1.next), .sl false (p.2.2.2.1.l.map iT)]]) (fun (p : Nat × DS × (Int → Nat) × RD × List (List D)) => p.2.2.2.2) (fun (p : Nat × DS × (Int → Nat) × RD × List (List D)) => p.1 ≤ 20 ∧ IX p.1 m M p.2.1 p.2.2.1 p.2.2.2.1 p.2.2.2.2) ?_ ?_
   ·skip
    refine zr ⟨[14,96],[],[],[],[]⟩ fun _ _ Z=>?_;simp (disch:=omega)[aO,aI,aF,aC];and_intros<;>(try omega);apply Z;apply aK;refine zk [0,1,5,6,7] ?_;refine eI (fun (p : Nat × DS × (Int → Nat) × RD × List (List D)) => [(7, .d (.v (.int .i64 p.1)))]) (fun (p : Nat × DS × (Int → Nat) × RD × List (List D)) => [[.v (.int .i64 p.2.2.2.1.most), .v (.int .i64 p.2.2.2.1.next), .sl false (p.2.2.2.1.l.map iT)]]) (fun (p : Nat × DS × (Int → Nat) × RD × List (List D)) => p.2.2.2.2) [7, 22, 23, 24, 25, 26, 27, 28, 29, 30, 31, 32, 33, 34, 35, 36, 37, 38, 39, 40, 41] (fun (p : Nat × DS × (Int → Nat) × RD × List (List D)) => p.1 ≤ acts.length ∧ p.1 ≤ 20 ∧ IX p.1 m M p.2.1 p.2.2.1 p.2.2.2.1 p.2.2.2.2) (fun (p : Nat × DS × (Int → Nat) × RD × List (List D)) => acts.length - p.1) ((0, dd, rk0, newX 20, τ0)) (by simp <;> rfl) ?_ (by simp) (by simp) ?_ ?_
    ·simp
    ·exact ⟨Nat.zero_le _, Nat.zero_le _, hi0⟩
    rintro ⟨k, d, rk, x, τ⟩ ⟨hk, hk3, hx⟩;simp only [List.cons_append, List.nil_append];simp only at hk hk3 hx;apply aD;refine lH ⟨[14,96],[],[],[],[]⟩ fun all hall _ Z=>?_;have ga4 : aS all 4 = some 26 := hall 4;refine aA 5 fun _ Y=>?_;simp (disch:=omega)[aO,aI,aF,aC,ga4];and_intros<;>(try omega);apply Y;simp only [List.drop];refine aX 26 (by simp <;> rfl) ?_;refine ⟨fun g3 => ?_, fun g3 => ?_⟩
    ·try simp at g3
     simp (disch:=omega)[aO,aI,aF,aC,ga4];and_intros<;>(try omega);apply Z;refine zi ?_;refine ⟨fun c4=>?_,fun c4=>?_⟩
     ·try simp at c4
      apply aH;apply aB;apply aD;apply aK;refine zk [0,1,5,6,7] ?_;refine ze ⟨[14,96],[],[],[],[]⟩ [.op {},.op {rL:=true},.op {},.op {},.op {},.op {},.det,.op {},.op {},.op {},.op {rL:=true,wL:=true}] fun all hall _ Z=>?_;refine aR 6 (by simp) fun _ Y=>?_;simp (disch:=omega)[aO,aI,aF,aC];and_intros<;>(try omega);apply Y;simp only [List.drop];refine dH fun _ Y=>?_;simp (disch:=omega)[aO,aI,aF,aC];obtain ⟨d2, rk2, σ2, y2, hc2, hx2, hn2, fr2⟩ := aBd acts[k] hx (by omega) (Rp ha (by omega)).1 (Rp ha (by omega)).2;refine zdd (hc2) ?_;apply Y;simp (disch:=omega)[aO,aI,aF,aC];and_intros<;>(try omega);apply Z;apply aP;apply aB;refine zk [0,1,5,6,7] ?_;refine zt ⟨[14,96],[],[],[],[]⟩ fun _ _ Z=>?_;simp (disch:=omega)[aO,aI,aF,aC];and_intros<;>(try omega);apply Z;refine bA ((k + 1, d2, rk2, y2, σ2)) ?_ ?_ (aW rfl ?_ (by simp) (by simp))
      ·exact ⟨by simp only; omega, by simp only; omega, hx2⟩
      ·try dsimp only
       omega
      ·simp (disch:=omega)[aO,aI,aF,aC]
     ·try simp at c4
      apply bK;apply bJ;apply bL;apply aY;refine Ro ((k, d, rk, x, τ)) (⟨hk3, hx⟩) (aW rfl ?_ (by simp) (by simp));simp (disch:=omega)[aO,aI,aF,aC]
    ·try simp at g3
     simp (disch:=omega)[aO,aI,aF,aC,ga4];and_intros<;>(try omega);apply Z;refine bR (t := false) (by simp) (fun h => by cases h) (fun _ => ?_);apply bK;apply bJ;apply bL;apply aY;refine Ro ((k, d, rk, x, τ)) (⟨hk3, hx⟩) (aW rfl ?_ (by simp) (by simp));simp (disch:=omega)[aO,aI,aF,aC]
   rintro ⟨k, d, rk, x, τ⟩ ⟨hk3, hx⟩;simp only at hk3 hx;have hnb := hx.iv.ip.NB (by omega);have hbl := (hx.iv.wt.Tr (by have := hx.iv.ip.len; rw [mV]; omega)).len 0;have hbn := hx.iv.ip.len;have hll := mV d;refine zr ⟨[14,96],[],[],[],[]⟩ fun _ _ Z=>?_;refine aA 3 fun _ Y=>?_;simp (disch:=omega)[aO,aI,aF,aC];and_intros<;>(try omega);apply Y;simp only [List.drop];refine aG fun _ Y=>?_;simp (disch:=omega)[aO,aI,aF,aC];refine Vi (Yc m M d _ _ hx.iv.ho hnb) ?_;rintro _ τ2 (⟨n, c1, c2, c3, c4, a1, a2, a3, a4, hr9, hs9, hA1, hA2, hA3, hA4, z1, z2, z3, z4⟩ | ⟨hr9, hs9⟩)
   ·skip
    subst hr9;subst hs9;apply Y;simp (disch:=omega)[aO,aI,aF,aC];and_intros<;>(try omega);apply Z;apply aD;refine zk [5,6,8] ?_;refine zr ⟨[14,96],[],[],[51,62,73,85,58,69,80,92,98,104],[]⟩ fun _ _ Z=>?_;simp (disch:=omega)[aO,aI,aF,aC];and_intros<;>(try omega);apply Z;apply aK;refine zk [5,6,8,51,52] ?_;refine eI (fun (p : Nat × List D) => [(52, .d (.int (p.1 : Int)))]) (fun (p : Nat × List D) => [[.v (.int .i64 x.most), .v (.int .i64 x.next), .sl false (x.l.map iT)], pV n (τ.length + 2) (τ.length + 3) (τ.length + 4) (τ.length + 5) c1 c2 c3 c4]) (fun (p : Nat × List D) => τ ++ [[], pV n (τ.length + 2) (τ.length + 3) (τ.length + 4) (τ.length + 5) c1 c2 c3 c4, p.2, a2, a3, a4]) [10, 52, 53, 54, 55, 56, 57, 58, 59] (fun (p : Nat × List D) => p.1 ≤ n.classes.length ∧ n.classes.length ≤ p.2.length) (fun (p : Nat × List D) => n.classes.length - p.1) ((0, a1)) (by simp <;> rfl) ?_ (by simp) (by simp) ?_ ?_
    ·simp
    ·exact ⟨Nat.zero_le _, hA1⟩
    rintro ⟨i, b1⟩ ⟨hi9, hB1⟩;simp only [List.cons_append, List.nil_append];simp only at hi9 hB1;refine zr ⟨[14,96],[],[],[51,62,73,85,58,69,80,92,98,104],[]⟩ fun _ _ Z=>?_;simp (disch:=omega)[aO,aI,aF,aC];and_intros<;>(try omega);apply Z;apply aD;refine zi ?_;refine ⟨fun c5=>?_,fun c5=>?_⟩
    ·try simp at c5
     apply aH;apply aB;apply aD;apply aK;refine zr ⟨[14,96],[],[],[51,62,73,85,58,69,80,92,98,104],[]⟩ fun _ _ Z=>?_;simp (disch:=omega)[aO,aI,aF,aC];and_intros<;>(try omega);apply Z;refine zt ⟨[14,96],[],[],[51,62,73,85,58,69,80,92,98,104],[]⟩ fun _ _ Z=>?_;simp (disch:=omega)[aO,aI,aF,aC];and_intros<;>(try omega);apply Z;apply aP;apply aB;refine zk [5,6,8,51,52] ?_;refine zt ⟨[14,96],[],[],[51,62,73,85,58,69,80,92,98,104],[]⟩ fun _ _ Z=>?_;simp (disch:=omega)[aO,aI,aF,aC];and_intros<;>(try omega);apply Z;refine bA ((i + 1, b1.take (i) ++ [D.str ⟨#[111, 116, 104, 101, 114]⟩] ++ b1.drop (i + 1))) ?_ ?_ (aW rfl ?_ (by simp) (by simp))
     ·exact ⟨by simp only; omega, by simp; omega⟩
     ·try dsimp only
      omega
     ·simp (disch:=omega)[aO,aI,aF,aC]
    ·try simp at c5
     apply bK;apply bJ;apply bL;apply aY;apply aB;apply aD;refine zr ⟨[14,96],[],[],[51,62,73,85,58,69,80,92,98,104],[]⟩ fun _ _ Z=>?_;simp (disch:=omega)[aO,aI,aF,aC];and_intros<;>(try omega);apply Z;apply aK;refine zk [5,6,8,62,63] ?_;refine eI (fun (p : Nat × List D) => [(63, .d (.int (p.1 : Int)))]) (fun (p : Nat × List D) => [[.v (.int .i64 x.most), .v (.int .i64 x.next), .sl false (x.l.map iT)], pV n (τ.length + 2) (τ.length + 3) (τ.length + 4) (τ.length + 5) c1 c2 c3 c4]) (fun (p : Nat × List D) => τ ++ [[], pV n (τ.length + 2) (τ.length + 3) (τ.length + 4) (τ.length + 5) c1 c2 c3 c4, b1, a2, a3, p.2]) [11, 63, 64, 65, 66, 67, 68, 69, 70] (fun (p : Nat × List D) => p.1 ≤ n.kids.length ∧ n.kids.length ≤ p.2.length) (fun (p : Nat × List D) => n.kids.length - p.1) ((0, a4)) (by simp <;> rfl) ?_ (by simp) (by simp) ?_ ?_
     ·simp
     ·exact ⟨Nat.zero_le _, hA4⟩
     rintro ⟨i, b4⟩ ⟨hi9, hB4⟩;simp only [List.cons_append, List.nil_append];simp only at hi9 hB4;refine zr ⟨[14,96],[],[],[51,62,73,85,58,69,80,92,98,104],[]⟩ fun _ _ Z=>?_;simp (disch:=omega)[aO,aI,aF,aC];and_intros<;>(try omega);apply Z;apply aD;refine zi ?_;refine ⟨fun c6=>?_,fun c6=>?_⟩
     ·try simp at c6
      apply aH;apply aB;apply aD;apply aK;refine zr ⟨[14,96],[],[],[51,62,73,85,58,69,80,92,98,104],[]⟩ fun _ _ Z=>?_;simp (disch:=omega)[aO,aI,aF,aC];and_intros<;>(try omega);apply Z;refine zt ⟨[14,96],[],[],[51,62,73,85,58,69,80,92,98,104],[]⟩ fun _ _ Z=>?_;simp (disch:=omega)[aO,aI,aF,aC];and_intros<;>(try omega);apply Z;apply aP;apply aB;refine zk [5,6,8,62,63] ?_;refine zt ⟨[14,96],[],[],[51,62,73,85,58,69,80,92,98,104],[]⟩ fun _ _ Z=>?_;simp (disch:=omega)[aO,aI,aF,aC];and_intros<;>(try omega);apply Z;refine bA ((i + 1, b4.take (i) ++ [D.int 99] ++ b4.drop (i + 1))) ?_ ?_ (aW rfl ?_ (by simp) (by simp))
      ·exact ⟨by simp only; omega, by simp; omega⟩
      ·try dsimp only
       omega
      ·simp (disch:=omega)[aO,aI,aF,aC]
     ·try simp at c6
      apply bK;apply bJ;apply bL;apply aY;apply aB;apply aD;refine zr ⟨[14,96],[],[],[51,62,73,85,58,69,80,92,98,104],[]⟩ fun _ _ Z=>?_;simp (disch:=omega)[aO,aI,aF,aC];and_intros<;>(try omega);apply Z;apply aK;refine zk [5,6,8,73,74] ?_;refine eI (fun (p : Nat × List D) => [(74, .d (.int (p.1 : Int)))]) (fun (p : Nat × List D) => [[.v (.int .i64 x.most), .v (.int .i64 x.next), .sl false (x.l.map iT)], pV n (τ.length + 2) (τ.length + 3) (τ.length + 4) (τ.length + 5) c1 c2 c3 c4]) (fun (p : Nat × List D) => τ ++ [[], pV n (τ.length + 2) (τ.length + 3) (τ.length + 4) (τ.length + 5) c1 c2 c3 c4, b1, a2, p.2, b4]) [12, 74, 75, 76, 77, 78, 79, 80, 81, 82] (fun (p : Nat × List D) => p.1 ≤ n.styles.length ∧ 2 * n.styles.length ≤ p.2.length) (fun (p : Nat × List D) => n.styles.length - p.1) ((0, a3)) (by simp <;> rfl) ?_ (by simp) (by simp) ?_ ?_
      ·simp
      ·exact ⟨Nat.zero_le _, hA3⟩
      rintro ⟨i, b3⟩ ⟨hi9, hB3⟩;simp only [List.cons_append, List.nil_append];simp only at hi9 hB3;refine zr ⟨[14,96],[],[],[51,62,73,85,58,69,80,92,98,104],[]⟩ fun _ _ Z=>?_;simp (disch:=omega)[aO,aI,aF,aC];and_intros<;>(try omega);apply Z;apply aD;refine zi ?_;refine ⟨fun c7=>?_,fun c7=>?_⟩
      ·try simp at c7
       apply aH;apply aB;apply aD;apply aK;refine zr ⟨[14,96],[],[],[51,62,73,85,58,69,80,92,98,104],[]⟩ fun _ _ Z=>?_;simp (disch:=omega)[aO,aI,aF,aC];and_intros<;>(try omega);apply Z;refine zt ⟨[14,96],[],[],[51,62,73,85,58,69,80,92,98,104],[]⟩ fun _ _ Z=>?_;simp (disch:=omega)[aO,aI,aF,aC];and_intros<;>(try omega);apply Z;apply aP;apply aB;refine zk [5,6,8,73,74] ?_;refine zt ⟨[14,96],[],[],[51,62,73,85,58,69,80,92,98,104],[]⟩ fun _ _ Z=>?_;simp (disch:=omega)[aO,aI,aF,aC];and_intros<;>(try omega);apply Z;refine bA ((i + 1, b3.take (i * 2 + 1) ++ [D.int 99] ++ b3.drop (i * 2 + 1 + 1))) ?_ ?_ (aW rfl ?_ (by simp) (by simp))
       ·exact ⟨by simp only; omega, by simp; omega⟩
       ·try dsimp only
        omega
       ·simp (disch:=omega)[aO,aI,aF,aC]
      ·try simp at c7
       apply bK;apply bJ;apply bL;apply aY;apply aB;apply aD;refine zr ⟨[14,96],[],[],[51,62,73,85,58,69,80,92,98,104],[]⟩ fun _ _ Z=>?_;simp (disch:=omega)[aO,aI,aF,aC];and_intros<;>(try omega);apply Z;apply aK;refine zk [5,6,8,85,86] ?_;refine eI (fun (p : Nat × List D) => [(86, .d (.int (p.1 : Int)))]) (fun (p : Nat × List D) => [[.v (.int .i64 x.most), .v (.int .i64 x.next), .sl false (x.l.map iT)], pV n (τ.length + 2) (τ.length + 3) (τ.length + 4) (τ.length + 5) c1 c2 c3 c4]) (fun (p : Nat × List D) => τ ++ [[], pV n (τ.length + 2) (τ.length + 3) (τ.length + 4) (τ.length + 5) c1 c2 c3 c4, b1, p.2, b3, b4]) [13, 86, 87, 88, 89, 90, 91, 92, 93, 94] (fun (p : Nat × List D) => p.1 ≤ n.attrs.length ∧ 2 * n.attrs.length ≤ p.2.length) (fun (p : Nat × List D) => n.attrs.length - p.1) ((0, a2)) (by simp <;> rfl) ?_ (by simp) (by simp) ?_ ?_
       ·simp
       ·exact ⟨Nat.zero_le _, hA2⟩
       rintro ⟨i, b2⟩ ⟨hi9, hB2⟩;simp only [List.cons_append, List.nil_append];simp only at hi9 hB2;refine zr ⟨[14,96],[],[],[51,62,73,85,58,69,80,92,98,104],[]⟩ fun _ _ Z=>?_;simp (disch:=omega)[aO,aI,aF,aC];and_intros<;>(try omega);apply Z;apply aD;refine zi ?_;refine ⟨fun c8=>?_,fun c8=>?_⟩
       ·try simp at c8
        apply aH;apply aB;apply aD;apply aK;refine zr ⟨[14,96],[],[],[51,62,73,85,58,69,80,92,98,104],[]⟩ fun _ _ Z=>?_;simp (disch:=omega)[aO,aI,aF,aC];and_intros<;>(try omega);apply Z;refine zt ⟨[14,96],[],[],[51,62,73,85,58,69,80,92,98,104],[]⟩ fun _ _ Z=>?_;simp (disch:=omega)[aO,aI,aF,aC];and_intros<;>(try omega);apply Z;apply aP;apply aB;refine zk [5,6,8,85,86] ?_;refine zt ⟨[14,96],[],[],[51,62,73,85,58,69,80,92,98,104],[]⟩ fun _ _ Z=>?_;simp (disch:=omega)[aO,aI,aF,aC];and_intros<;>(try omega);apply Z;refine bA ((i + 1, b2.take (i * 2 + 1) ++ [D.str ⟨#[111, 116, 104, 101, 114]⟩] ++ b2.drop (i * 2 + 1 + 1))) ?_ ?_ (aW rfl ?_ (by simp) (by simp))
        ·exact ⟨by simp only; omega, by simp; omega⟩
        ·try dsimp only
         omega
        ·simp (disch:=omega)[aO,aI,aF,aC]
       ·try simp at c8
        apply bK;apply bJ;apply bL;apply aY;apply aB;refine zr ⟨[14,96],[],[],[51,62,73,85,58,69,80,92,98,104],[]⟩ fun _ _ Z=>?_;refine aA 1 fun _ Y=>?_;simp (disch:=omega)[aO,aI,aF,aC];and_intros<;>(try omega);apply Y;simp only [List.drop];refine aG fun _ Y=>?_;simp (disch:=omega)[aO,aI,aF,aC];refine cO (rS m M d (bY d.l rk) rk _ (hx.iv.ho.app _) (hx.iv.WD (by omega)) hx.iv.ip.root) ?_;apply Y;simp (disch:=omega)[aO,aI,aF,aC];and_intros<;>(try omega);apply Z;apply aD;refine fQ 14 1 (by simp <;> rfl) (by decide) fun cap rest hcap hcm hrest hk0 hes => ?_;subst hrest;simp only [List.length_map] at hcap ⊢;rw [dA (f := D.int) (fun _ => rfl)];generalize List.replicate _ _ = rest;try simp only [List.length_append, List.length_cons, List.length_nil, List.append_assoc, List.cons_append, List.nil_append]
        refine zr ⟨[14,96],[],[],[51,62,73,85,58,69,80,92,98,104],[]⟩ fun _ _ Z=>?_;simp (disch:=omega)[aO,aI,aF,aC];and_intros<;>(try omega);apply Z;apply aK;refine zk [5,6,14,98,99] ?_;refine eI (fun (p : Nat × List D) => [(99, .d (.int (p.1 : Int)))]) (fun (p : Nat × List D) => [[.v (.int .i64 x.most), .v (.int .i64 x.next), .sl false (x.l.map iT)], pV n (τ.length + 2) (τ.length + 3) (τ.length + 4) (τ.length + 5) c1 c2 c3 c4]) (fun (p : Nat × List D) => τ ++ [[], pV n (τ.length + 2) (τ.length + 3) (τ.length + 4) (τ.length + 5) c1 c2 c3 c4, b1, b2, b3, b4, p.2]) [15, 99, 100, 101, 102, 103, 104, 105] (fun (p : Nat × List D) => p.1 ≤ (bY d.l rk 0).length ∧ (bY d.l rk 0).length ≤ p.2.length) (fun (p : Nat × List D) => (bY d.l rk 0).length - p.1) ((0, (bY d.l rk 0).map D.int ++ rest)) (by simp <;> rfl) ?_ (by simp) (by simp) ?_ ?_
        ·simp
        ·exact ⟨Nat.zero_le _, by simp⟩
        rintro ⟨i, b5⟩ ⟨hi9, hB5⟩;simp only [List.cons_append, List.nil_append];simp only at hi9 hB5;refine zr ⟨[14,96],[],[],[51,62,73,85,58,69,80,92,98,104],[]⟩ fun _ _ Z=>?_;simp (disch:=omega)[aO,aI,aF,aC];and_intros<;>(try omega);apply Z;apply aD;refine zi ?_;refine ⟨fun c9=>?_,fun c9=>?_⟩
        ·try simp at c9
         apply aH;apply aB;apply aD;apply aK;refine zr ⟨[14,96],[],[],[51,62,73,85,58,69,80,92,98,104],[]⟩ fun _ _ Z=>?_;simp (disch:=omega)[aO,aI,aF,aC];and_intros<;>(try omega);apply Z;refine zt ⟨[14,96],[],[],[51,62,73,85,58,69,80,92,98,104],[]⟩ fun _ _ Z=>?_;simp (disch:=omega)[aO,aI,aF,aC];and_intros<;>(try omega);apply Z;apply aP;apply aB;refine zt ⟨[14,96],[],[],[51,62,73,85,58,69,80,92,98,104],[]⟩ fun _ _ Z=>?_;simp (disch:=omega)[aO,aI,aF,aC];and_intros<;>(try omega);apply Z;refine bA ((i + 1, b5.take i ++ [D.int 99] ++ b5.drop (i + 1))) ?_ ?_ (aW rfl ?_ (by simp) (by simp))
         ·exact ⟨by simp only; omega, by simp; omega⟩
         ·try dsimp only
          omega
         ·simp (disch:=omega)[aO,aI,aF,aC]
        ·try simp at c9
         apply bK;apply bJ;apply bL;apply aY;apply aB;refine zr ⟨[14,96],[],[],[51,62,73,85,58,69,80,92,98,104],[]⟩ fun _ _ Z=>?_;refine aA 2 fun _ Y=>?_;simp (disch:=omega)[aO,aI,aF,aC];and_intros<;>(try omega);apply Y;simp only [List.drop];refine aG fun _ Y=>?_;simp (disch:=omega)[aO,aI,aF,aC];refine cO (Zj k m M d rk x _ (hx.app _) (by omega)) ?_;apply Y;simp (disch:=omega)[aO,aI,aF,aC];and_intros<;>(try omega);apply Z;apply aE;simp [aN]
   ·skip
    subst hr9;replace hs9 := hs9.symm;subst hs9;apply Y;simp (disch:=omega)[aO,aI,aF,aC];and_intros<;>(try omega);apply Z;apply aD;refine zk [5,6,8] ?_;refine zr ⟨[14,96],[],[],[98,104],[]⟩ fun _ _ Z=>?_;simp (disch:=omega)[aO,aI,aF,aC];and_intros<;>(try omega);apply Z;apply aK;refine zk [5,6,8,51,52] ?_;refine eI (fun (u : Unit) => [(52, .d (.int 0))]) (fun (u : Unit) => [[.v (.int .i64 x.most), .v (.int .i64 x.next), .sl false (x.l.map iT)], [.v (.int .i64 gS.ID), .v (.int .i64 gS.kind), .v (.string gS.tag), .v (.string gS.text), .sl false (gS.classes.map D.str), .sl false (gS.attrs.map cM), .sl false (gS.styles.map cG), .v (.int .i64 gS.parent), .sl false (gS.kids.map D.int)]]) (fun (u : Unit) => τ) [10, 52, 53, 54, 55, 56, 57, 58, 59] (fun (u : Unit) => True) (fun (u : Unit) => 0) (()) (by simp <;> rfl) ?_ (by simp) (by simp) ?_ ?_
    ·simp
    ·trivial
    rintro u hu;simp only [List.cons_append, List.nil_append];refine zr ⟨[14,96],[],[],[98,104],[]⟩ fun _ _ Z=>?_;simp (disch:=omega)[aO,aI,aF,aC];and_intros<;>(try omega);apply Z;apply aD;refine zi ?_;refine ⟨fun c10=>?_,fun c10=>?_⟩
    ·try simp at c10
     simp [gS] at c10
    ·try simp at c10
     apply bK;apply bJ;apply bL;apply aY;apply aB;apply aD;refine zr ⟨[14,96],[],[],[98,104],[]⟩ fun _ _ Z=>?_;simp (disch:=omega)[aO,aI,aF,aC];and_intros<;>(try omega);apply Z;apply aK;refine zk [5,6,8,62,63] ?_;refine eI (fun (u : Unit) => [(63, .d (.int 0))]) (fun (u : Unit) => [[.v (.int .i64 x.most), .v (.int .i64 x.next), .sl false (x.l.map iT)], [.v (.int .i64 gS.ID), .v (.int .i64 gS.kind), .v (.string gS.tag), .v (.string gS.text), .sl false (gS.classes.map D.str), .sl false (gS.attrs.map cM), .sl false (gS.styles.map cG), .v (.int .i64 gS.parent), .sl false (gS.kids.map D.int)]]) (fun (u : Unit) => τ) [11, 63, 64, 65, 66, 67, 68, 69, 70] (fun (u : Unit) => True) (fun (u : Unit) => 0) (()) (by simp <;> rfl) ?_ (by simp) (by simp) ?_ ?_
     ·simp
     ·trivial
     rintro u hu;simp only [List.cons_append, List.nil_append];refine zr ⟨[14,96],[],[],[98,104],[]⟩ fun _ _ Z=>?_;simp (disch:=omega)[aO,aI,aF,aC];and_intros<;>(try omega);apply Z;apply aD;refine zi ?_;refine ⟨fun c11=>?_,fun c11=>?_⟩
     ·try simp at c11
      simp [gS] at c11
     ·try simp at c11
      apply bK;apply bJ;apply bL;apply aY;apply aB;apply aD;refine zr ⟨[14,96],[],[],[98,104],[]⟩ fun _ _ Z=>?_;simp (disch:=omega)[aO,aI,aF,aC];and_intros<;>(try omega);apply Z;apply aK;refine zk [5,6,8,73,74] ?_;refine eI (fun (u : Unit) => [(74, .d (.int 0))]) (fun (u : Unit) => [[.v (.int .i64 x.most), .v (.int .i64 x.next), .sl false (x.l.map iT)], [.v (.int .i64 gS.ID), .v (.int .i64 gS.kind), .v (.string gS.tag), .v (.string gS.text), .sl false (gS.classes.map D.str), .sl false (gS.attrs.map cM), .sl false (gS.styles.map cG), .v (.int .i64 gS.parent), .sl false (gS.kids.map D.int)]]) (fun (u : Unit) => τ) [12, 74, 75, 76, 77, 78, 79, 80, 81, 82] (fun (u : Unit) => True) (fun (u : Unit) => 0) (()) (by simp <;> rfl) ?_ (by simp) (by simp) ?_ ?_
      ·simp
      ·trivial
      rintro u hu;simp only [List.cons_append, List.nil_append];refine zr ⟨[14,96],[],[],[98,104],[]⟩ fun _ _ Z=>?_;simp (disch:=omega)[aO,aI,aF,aC];and_intros<;>(try omega);apply Z;apply aD;refine zi ?_;refine ⟨fun c12=>?_,fun c12=>?_⟩
      ·try simp at c12
       simp [gS] at c12
      ·try simp at c12
       apply bK;apply bJ;apply bL;apply aY;apply aB;apply aD;refine zr ⟨[14,96],[],[],[98,104],[]⟩ fun _ _ Z=>?_;simp (disch:=omega)[aO,aI,aF,aC];and_intros<;>(try omega);apply Z;apply aK;refine zk [5,6,8,85,86] ?_;refine eI (fun (u : Unit) => [(86, .d (.int 0))]) (fun (u : Unit) => [[.v (.int .i64 x.most), .v (.int .i64 x.next), .sl false (x.l.map iT)], [.v (.int .i64 gS.ID), .v (.int .i64 gS.kind), .v (.string gS.tag), .v (.string gS.text), .sl false (gS.classes.map D.str), .sl false (gS.attrs.map cM), .sl false (gS.styles.map cG), .v (.int .i64 gS.parent), .sl false (gS.kids.map D.int)]]) (fun (u : Unit) => τ) [13, 86, 87, 88, 89, 90, 91, 92, 93, 94] (fun (u : Unit) => True) (fun (u : Unit) => 0) (()) (by simp <;> rfl) ?_ (by simp) (by simp) ?_ ?_
       ·simp
       ·trivial
       rintro u hu;simp only [List.cons_append, List.nil_append];refine zr ⟨[14,96],[],[],[98,104],[]⟩ fun _ _ Z=>?_;simp (disch:=omega)[aO,aI,aF,aC];and_intros<;>(try omega);apply Z;apply aD;refine zi ?_;refine ⟨fun c13=>?_,fun c13=>?_⟩
       ·try simp at c13
        simp [gS] at c13
       ·try simp at c13
        apply bK;apply bJ;apply bL;apply aY;apply aB;refine zr ⟨[14,96],[],[],[98,104],[]⟩ fun _ _ Z=>?_;refine aA 1 fun _ Y=>?_;simp (disch:=omega)[aO,aI,aF,aC];and_intros<;>(try omega);apply Y;simp only [List.drop];refine aG fun _ Y=>?_;simp (disch:=omega)[aO,aI,aF,aC];refine cO (rS m M d (bY d.l rk) rk _ hx.iv.ho (hx.iv.WD (by omega)) hx.iv.ip.root) ?_;apply Y;simp (disch:=omega)[aO,aI,aF,aC];and_intros<;>(try omega);apply Z;apply aD;refine fQ 14 1 (by simp <;> rfl) (by decide) fun cap rest hcap hcm hrest hk0 hes => ?_;subst hrest;simp only [List.length_map] at hcap ⊢;rw [dA (f := D.int) (fun _ => rfl)];generalize List.replicate _ _ = rest;try simp only [List.length_append, List.length_cons, List.length_nil, List.append_assoc, List.cons_append, List.nil_append]
        refine zr ⟨[14,96],[],[],[98,104],[]⟩ fun _ _ Z=>?_;simp (disch:=omega)[aO,aI,aF,aC];and_intros<;>(try omega);apply Z;apply aK;refine zk [5,6,14,98,99] ?_;refine eI (fun (p : Nat × List D) => [(99, .d (.int (p.1 : Int)))]) (fun (p : Nat × List D) => [[.v (.int .i64 x.most), .v (.int .i64 x.next), .sl false (x.l.map iT)], [.v (.int .i64 gS.ID), .v (.int .i64 gS.kind), .v (.string gS.tag), .v (.string gS.text), .sl false (gS.classes.map D.str), .sl false (gS.attrs.map cM), .sl false (gS.styles.map cG), .v (.int .i64 gS.parent), .sl false (gS.kids.map D.int)]]) (fun (p : Nat × List D) => τ ++ [p.2]) [15, 99, 100, 101, 102, 103, 104, 105] (fun (p : Nat × List D) => p.1 ≤ (bY d.l rk 0).length ∧ (bY d.l rk 0).length ≤ p.2.length) (fun (p : Nat × List D) => (bY d.l rk 0).length - p.1) ((0, (bY d.l rk 0).map D.int ++ rest)) (by simp <;> rfl) ?_ (by simp) (by simp) ?_ ?_
        ·simp
        ·exact ⟨Nat.zero_le _, by simp⟩
        rintro ⟨i, b5⟩ ⟨hi9, hB5⟩;simp only [List.cons_append, List.nil_append];simp only at hi9 hB5;refine zr ⟨[14,96],[],[],[98,104],[]⟩ fun _ _ Z=>?_;simp (disch:=omega)[aO,aI,aF,aC];and_intros<;>(try omega);apply Z;apply aD;refine zi ?_;refine ⟨fun c14=>?_,fun c14=>?_⟩
        ·try simp at c14
         apply aH;apply aB;apply aD;apply aK;refine zr ⟨[14,96],[],[],[98,104],[]⟩ fun _ _ Z=>?_;simp (disch:=omega)[aO,aI,aF,aC];and_intros<;>(try omega);apply Z;refine zt ⟨[14,96],[],[],[98,104],[]⟩ fun _ _ Z=>?_;simp (disch:=omega)[aO,aI,aF,aC];and_intros<;>(try omega);apply Z;apply aP;apply aB;refine zt ⟨[14,96],[],[],[98,104],[]⟩ fun _ _ Z=>?_;simp (disch:=omega)[aO,aI,aF,aC];and_intros<;>(try omega);apply Z;refine bA ((i + 1, b5.take i ++ [D.int 99] ++ b5.drop (i + 1))) ?_ ?_ (aW rfl ?_ (by simp) (by simp))
         ·exact ⟨by simp only; omega, by simp; omega⟩
         ·try dsimp only
          omega
         ·simp (disch:=omega)[aO,aI,aF,aC]
        ·try simp at c14
         apply bK;apply bJ;apply bL;apply aY;apply aB;refine zr ⟨[14,96],[],[],[98,104],[]⟩ fun _ _ Z=>?_;refine aA 2 fun _ Y=>?_;simp (disch:=omega)[aO,aI,aF,aC];and_intros<;>(try omega);apply Y;simp only [List.drop];refine aG fun _ Y=>?_;simp (disch:=omega)[aO,aI,aF,aC];refine cO (Zj k m M d rk x _ (hx.app _) (by omega)) ?_;apply Y;simp (disch:=omega)[aO,aI,aF,aC];and_intros<;>(try omega);apply Z;apply aE;simp [aN]
end Go.Proofs.YtpfmpeaekgdgnaaGreat

