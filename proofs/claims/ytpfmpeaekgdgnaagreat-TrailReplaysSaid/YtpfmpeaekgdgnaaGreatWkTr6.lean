import Derived.Test.YtpfmpeaekgdgnaaGreatWkTr3
import Derived.Test.YtpfmpeaekgdgnaaGreatTrRep
namespace Go.Proofs.YtpfmpeaekgdgnaaGreat
open Go Go.Vm
set_option maxRecDepth 20000
set_option linter.all false
set_option maxHeartbeats 8000000
theorem Jl (l : List AT) (σ : List (List D)) (hl : l.length ≤ 999999) : Ct Tryz.prog 77 [.sl false (l.map cR)] σ (fun r σ' => r = .sl false ((gV nA l).map cR) ∧ σ' = σ) := (Ao l σ hl).freeze fun _ _ h => h
theorem aCd (l : List AT) (σ : List (List D)) (hl : l.length ≤ 999999) : Ct Tryz.prog 76 [.sl false (l.map cR), .sl false (l.map cR)] σ (fun r σ' => r = .bool true ∧ σ' = σ) := by
 refine zf (rs:=[.tmp 4]) Tryz.func76 Tryz.ntmps76 Tryz.results76 ?_;simp only [aN];refine aY fun _ _ Z=>?_;simp (disch:=omega);and_intros<;>(try omega);apply Z;apply aE;refine aY fun _ _ Z=>?_;simp (disch:=omega);and_intros<;>(try omega);apply Z;refine zi ?_;refine ⟨fun c1=>?_,fun c1=>?_⟩
 ·simp at c1
 ·try simp at c1
  apply aG;apply aB;apply aE;refine aY fun _ _ Z=>?_;simp (disch:=omega);and_intros<;>(try omega);apply Z;apply aM;refine zk [0,1,4,12,13] ?_;refine bV (fun (k : Nat) => [(13, .d (.v (.int .i64 (k : Int)))), (5, .d (.any))]) [4, 5, 13, 14, 15, 16, 17, 18, 19, 20, 21, 22, 23, 24, 25] (fun (k : Nat) => k ≤ l.length) (fun (k : Nat) => l.length - k) (0) (by simp <;> rfl) ?_ ?_ ?_
  ·simp
  ·simp
  rintro k hk;simp only [List.cons_append, List.nil_append];refine aY fun _ _ Z=>?_;simp (disch:=omega);and_intros<;>(try omega);apply Z;apply aE;refine zi ?_;refine ⟨fun c2=>?_,fun c2=>?_⟩
  ·try simp at c2
   apply aG;apply aB;apply aE;apply aM;refine aY fun _ _ Z=>?_;simp (disch:=omega);and_intros<;>(try omega);apply Z;refine zd ⟨[],[],[],[],[]⟩ [.op {},.op {},.op {},.op {},.op {},.op {},.op {},.op {},.op {}] fun all hall _ Z=>?_;refine aP 8 (by simp) fun _ Y=>?_;simp (disch:=omega);and_intros<;>(try omega);apply Y;simp only [List.drop];simp (disch:=omega);and_intros<;>(try omega);apply Z;refine zi ?_;refine ⟨fun c3=>?_,fun c3=>?_⟩
   ·simp at c3
   ·try simp at c3
    apply aG;apply aQ;apply aB;refine zk [0,1,5,12,13] ?_;refine uP fun _ _ Z=>?_;simp (disch:=omega);and_intros<;>(try omega);apply Z;refine bB (k + 1) ?_ ?_ (aV rfl ?_ (by simp) (by simp))
    ·omega
    ·try dsimp only
     omega
    ·simp (disch:=omega)
  ·try simp at c2
   apply bO;apply bM;apply bN;apply bG;apply aB;refine aY fun _ _ Z=>?_;simp (disch:=omega);and_intros<;>(try omega);apply Z;apply aC;simp [aK]
theorem Um (l : List AT) (σ : List (List D)) (hl : l.length ≤ 999999) : Ct Tryz.prog 38 [.sl false (l.map cR), .sl false (l.map cR)] σ (fun r σ' => r = .bool true ∧ σ' = σ) := by
 refine zf (rs:=[.tmp 4]) Tryz.func38 Tryz.ntmps38 Tryz.results38 ?_;simp only [aN];have hol := iT nA l;refine aY fun _ _ Z=>?_;simp;and_intros<;>(try omega);apply Z;refine aY fun _ _ Z=>?_;refine aA 1 fun _ Y=>?_;simp;and_intros<;>(try omega);apply Y;simp only [List.drop];refine aD fun _ Y=>?_;simp;refine bY (Jl l _ hl) ?_;apply Y;refine aA 1 fun _ Y=>?_;simp;and_intros<;>(try omega);apply Y;simp only [List.drop];refine aD fun _ Y=>?_;simp;refine bY (Jl l _ hl) ?_;apply Y;refine aD fun _ Y=>?_;simp;refine bY (aCd (gV nA l) _ (by omega)) ?_;apply Y;simp;and_intros<;>(try omega);apply Z;apply aC;simp [aK]
theorem Jt (l : List PI) (σ : List (List D)) (hl : l.length ≤ 999999) : Ct Tryz.prog 79 [.sl false (l.map cN)] σ (fun r σ' => r = .sl false ((gV nP l).map cN) ∧ σ' = σ) := (Ak l σ hl).freeze fun _ _ h => h
theorem aAz (l : List PI) (σ : List (List D)) (hl : l.length ≤ 999999) : Ct Tryz.prog 78 [.sl false (l.map cN), .sl false (l.map cN)] σ (fun r σ' => r = .bool true ∧ σ' = σ) := by
 refine zf (rs:=[.tmp 4]) Tryz.func78 Tryz.ntmps78 Tryz.results78 ?_;simp only [aN];refine aY fun _ _ Z=>?_;simp (disch:=omega);and_intros<;>(try omega);apply Z;apply aE;refine aY fun _ _ Z=>?_;simp (disch:=omega);and_intros<;>(try omega);apply Z;refine zi ?_;refine ⟨fun c1=>?_,fun c1=>?_⟩
 ·simp at c1
 ·try simp at c1
  apply aG;apply aB;apply aE;refine aY fun _ _ Z=>?_;simp (disch:=omega);and_intros<;>(try omega);apply Z;apply aM;refine zk [0,1,4,12,13] ?_;refine bV (fun (k : Nat) => [(13, .d (.v (.int .i64 (k : Int)))), (5, .d (.any))]) [4, 5, 13, 14, 15, 16, 17, 18, 19, 20, 21, 22, 23, 24, 25] (fun (k : Nat) => k ≤ l.length) (fun (k : Nat) => l.length - k) (0) (by simp <;> rfl) ?_ ?_ ?_
  ·simp
  ·simp
  rintro k hk;simp only [List.cons_append, List.nil_append];refine aY fun _ _ Z=>?_;simp (disch:=omega);and_intros<;>(try omega);apply Z;apply aE;refine zi ?_;refine ⟨fun c2=>?_,fun c2=>?_⟩
  ·try simp at c2
   apply aG;apply aB;apply aE;apply aM;refine aY fun _ _ Z=>?_;simp (disch:=omega);and_intros<;>(try omega);apply Z;refine zd ⟨[],[],[],[],[]⟩ [.op {},.op {},.op {},.op {},.op {},.op {},.op {},.op {},.op {}] fun all hall _ Z=>?_;refine aP 8 (by simp) fun _ Y=>?_;simp (disch:=omega);and_intros<;>(try omega);apply Y;simp only [List.drop];simp (disch:=omega);and_intros<;>(try omega);apply Z;refine zi ?_;refine ⟨fun c3=>?_,fun c3=>?_⟩
   ·simp at c3
   ·try simp at c3
    apply aG;apply aQ;apply aB;refine zk [0,1,5,12,13] ?_;refine uP fun _ _ Z=>?_;simp (disch:=omega);and_intros<;>(try omega);apply Z;refine bB (k + 1) ?_ ?_ (aV rfl ?_ (by simp) (by simp))
    ·omega
    ·try dsimp only
     omega
    ·simp (disch:=omega)
  ·try simp at c2
   apply bO;apply bM;apply bN;apply bG;apply aB;refine aY fun _ _ Z=>?_;simp (disch:=omega);and_intros<;>(try omega);apply Z;apply aC;simp [aK]
theorem Wd (l : List PI) (σ : List (List D)) (hl : l.length ≤ 999999) : Ct Tryz.prog 39 [.sl false (l.map cN), .sl false (l.map cN)] σ (fun r σ' => r = .bool true ∧ σ' = σ) := by
 refine zf (rs:=[.tmp 4]) Tryz.func39 Tryz.ntmps39 Tryz.results39 ?_;simp only [aN];have hol := iT nP l;refine aY fun _ _ Z=>?_;simp;and_intros<;>(try omega);apply Z;refine aY fun _ _ Z=>?_;refine aA 1 fun _ Y=>?_;simp;and_intros<;>(try omega);apply Y;simp only [List.drop];refine aD fun _ Y=>?_;simp;refine bY (Jt l _ hl) ?_;apply Y;refine aA 1 fun _ Y=>?_;simp;and_intros<;>(try omega);apply Y;simp only [List.drop];refine aD fun _ Y=>?_;simp;refine bY (Jt l _ hl) ?_;apply Y;refine aD fun _ Y=>?_;simp;refine bY (aAz (gV nP l) _ (by omega)) ?_;apply Y;simp;and_intros<;>(try omega);apply Z;apply aC;simp [aK]
theorem xU (acts more : List Act) (σ : List (List D)) (hl : acts.length ≤ 9223372036854775807) (ha : ∀ a ∈ acts, a.name.size ≤ 9223372036854775807 ∧ a.value.size ≤ 9223372036854775807) (hl2 : more.length ≤ 9223372036854775807) (ha2 : ∀ a ∈ more, a.name.size ≤ 9223372036854775807 ∧ a.value.size ≤ 9223372036854775807) : Ct Tryz.prog 10 [.sl false (acts.map nI), .sl false (more.map nI)] σ (fun r σ' => r = .bool true) := by
 refine zf (rs:=[.tmp 4]) Tryz.func10 Tryz.ntmps10 Tryz.results10 ?_;simp only [aN];refine aY fun _ _ Z=>?_;simp (disch:=omega);and_intros<;>(try omega);apply Z;apply aE;refine aY fun _ _ Z=>?_;refine aD fun _ Y=>?_;simp (disch:=omega);refine Ps (Li _) ?_;rintro _ σ1 hr9;subst hr9;apply Y;simp (disch:=omega);and_intros<;>(try omega);apply Z;refine zi ?_;refine ⟨fun c1=>?_,fun c1=>?_⟩
 ·simp at c1
 ·try simp at c1
  apply aG;apply aB;refine aY fun _ _ Z=>?_;refine aD fun _ Y=>?_;simp (disch:=omega);refine Ps (Jg 12 _) ?_;rintro _ τ0 ⟨hr9, hs9⟩;subst hr9;obtain ⟨m, M, dd, rk0, hm0, hx0, hi0⟩ := Qa _ _ _ hs9;rw [hm0];clear hs9 hm0;apply Y;simp (disch:=omega);and_intros<;>(try omega);apply Z;apply aE;refine aY fun _ _ Z=>?_;simp (disch:=omega);and_intros<;>(try omega);apply Z;refine zi ?_;refine ⟨fun c2=>?_,fun c2=>?_⟩
  ·simp at c2
  ·try simp at c2
   apply aG;apply aB;refine aY fun _ _ Z=>?_;refine aA 1 fun _ Y=>?_;simp (disch:=omega);and_intros<;>(try omega);apply Y;simp only [List.drop];refine aD fun _ Y=>?_;simp (disch:=omega);refine Ps (Sj m _) ?_;rintro _ τ ⟨hr9, hs9⟩;subst hr9;have hat : τ[τ0.length]? = some (eN m []) := by rw [hs9]; simp
   have hi : IX 0 m M dd rk0 (newX 12) τ := by rw [hs9]; exact hi0.app _
   have hoff := hi0.off (Nat.le_refl τ0.length);clear hs9;generalize τ0.length = l at *;apply Y;simp (disch:=omega);and_intros<;>(try omega);apply Z;refine zj (n := 226) (fun (p : Nat × DS × (Int → Nat) × RD × List TOp × List (List D)) => [(0, .d (.sl false (acts.map nI))), (1, .d (.sl false (more.map nI))), (5, .d (.ref m 0)), (6, .d (.ref l 0))]) (fun (p : Nat × DS × (Int → Nat) × RD × List TOp × List (List D)) => []) (fun (p : Nat × DS × (Int → Nat) × RD × List TOp × List (List D)) => p.2.2.2.2.2) (fun (p : Nat × DS × (Int → Nat) × RD × List TOp × List (List D)) => p.1 ≤ 20 ∧ LX p.1 m M l p.2.1 p.2.2.1 p.2.2.2.1 p.2.2.2.2.1 p.2.2.2.2.2) ?_ ?_
   ·skip
    refine aY fun _ _ Z=>?_;simp (disch:=omega);and_intros<;>(try omega);apply Z;apply aM;refine zk [0,1,5,6,7] ?_;refine jK (fun (p : Nat × DS × (Int → Nat) × RD × List TOp × List (List D)) => [(7, .d (.v (.int .i64 p.1)))]) (fun (p : Nat × DS × (Int → Nat) × RD × List TOp × List (List D)) => []) (fun (p : Nat × DS × (Int → Nat) × RD × List TOp × List (List D)) => p.2.2.2.2.2) [7, 8, 31, 32, 33, 34, 35, 36, 37, 38, 39, 40, 41, 42, 43, 44, 45, 46, 47, 48, 49, 50] (fun (p : Nat × DS × (Int → Nat) × RD × List TOp × List (List D)) => p.1 ≤ acts.length ∧ p.1 ≤ 20 ∧ LX p.1 m M l p.2.1 p.2.2.1 p.2.2.2.1 p.2.2.2.2.1 p.2.2.2.2.2) (fun (p : Nat × DS × (Int → Nat) × RD × List TOp × List (List D)) => acts.length - p.1) ((0, dd, rk0, newX 12, [], τ)) (by simp <;> rfl) ?_ (by simp) (by simp) ?_ ?_
    ·simp
    ·exact ⟨Nat.zero_le _, Nat.zero_le _, hi, hoff, hat, Nat.le_refl _⟩
    rintro ⟨k, d, rk, x, ops, τ⟩ ⟨hk, hk3, hx⟩;simp only [List.cons_append, List.nil_append];simp only at hk hk3 hx;have hat := hx.at_;have hol := hx.len;apply aE;refine oE ⟨[],[],[],[],[]⟩ fun all hall _ Z=>?_;have ga4 : aT all 4 = some 35 := hall 4;refine aA 5 fun _ Y=>?_;simp (disch:=omega)[ga4];and_intros<;>(try omega);apply Y;simp only [List.drop];refine aX 35 (by simp <;> rfl) ?_;refine ⟨fun g3 => ?_, fun g3 => ?_⟩
    ·try simp at g3
     simp (disch:=omega)[ga4];and_intros<;>(try omega);apply Z;refine zi ?_;refine ⟨fun c4=>?_,fun c4=>?_⟩
     ·try simp at c4
      apply aG;apply aB;apply aE;apply aM;refine zk [0,1,5,6,7] ?_;refine aY fun _ _ Z=>?_;refine aA 4 fun _ Y=>?_;simp (disch:=omega);and_intros<;>(try omega);apply Y;simp only [List.drop];refine aD fun _ Y=>?_;simp (disch:=omega);refine bY (Je acts[k] _ (Bx ha (by omega)).1 (Bx ha (by omega)).2) ?_;apply Y;simp (disch:=omega);and_intros<;>(try omega);apply Z;refine aY fun _ _ Z=>?_;refine aA 1 fun _ Y=>?_;simp (disch:=omega);and_intros<;>(try omega);apply Y;simp only [List.drop];refine aD fun _ Y=>?_;simp (disch:=omega);refine bY (Dj (jU acts[k]) _) ?_;apply Y;simp only [dE];apply Z;refine zi ?_;refine ⟨fun c5=>?_,fun c5=>?_⟩
      ·try simp at c5
       have hkn : (0 ≤ (jU acts[k]).kind ∧ (jU acts[k]).kind ≤ 4) ∨ (10 ≤ (jU acts[k]).kind ∧ (jU acts[k]).kind ≤ 17) := by simpa using c5
       refine zk [0,1,5,6,7,8] ?_;refine uP fun _ _ Z=>?_;refine aA 2 fun _ Y=>?_;simp (disch:=omega);and_intros<;>(try omega);apply Y;simp only [List.drop];refine aD fun _ Y=>?_;simp (disch:=omega);obtain ⟨t1, t2⟩ := Er acts[k];obtain ⟨d2, rk2, σ2, y2, n2, cc2, hc2, hx2, ⟨hd2, _⟩, ho2, ha2⟩ := En (jU acts[k]) hkn hx (by omega) (by omega) (by omega);refine bY (hc2) ?_;apply Y;simp only [dE];apply Z;apply aQ;apply aB;refine uP fun _ _ Z=>?_;simp (disch:=omega);and_intros<;>(try omega);apply Z;refine bB ((k + 1, d2, rk2, y2, Pt ops cc2 (jC (jU acts[k]) n2), σ2)) ?_ ?_ (aV rfl ?_ (by simp) (by simp))
       ·exact ⟨by simp only; omega, by simp only; omega, hx2⟩
       ·try dsimp only
        omega
       ·simp (disch:=omega)
      ·try simp at c5
       apply aG;apply aQ;apply aB;refine zk [0,1,5,6,7] ?_;refine uP fun _ _ Z=>?_;simp (disch:=omega);and_intros<;>(try omega);apply Z;refine bB ((k + 1, d, rk, x, ops, τ)) ?_ ?_ (aV rfl ?_ (by simp) (by simp))
       ·exact ⟨by simp only; omega, by simp only; omega, hx.keep⟩
       ·try dsimp only
        omega
       ·simp (disch:=omega)
     ·try simp at c4
      apply bO;apply bM;apply bN;apply bG;refine Av ((k, d, rk, x, ops, τ)) (⟨hk3, hx⟩) (aV rfl ?_ (by simp) (by simp));simp (disch:=omega)
    ·try simp at g3
     simp (disch:=omega)[ga4];and_intros<;>(try omega);apply Z;refine bQ (t := false) (by simp) (fun h => by cases h) (fun _ => ?_);apply bO;apply bM;apply bN;apply bG;refine Av ((k, d, rk, x, ops, τ)) (⟨hk3, hx⟩) (aV rfl ?_ (by simp) (by simp));simp (disch:=omega)
   rintro ⟨k, d, rk, x, ops, τ⟩ ⟨hk3, hx⟩;simp only at hk3 hx;have hat := hx.at_;refine aY fun _ _ Z=>?_;refine aA 1 fun _ Y=>?_;simp (disch:=omega);and_intros<;>(try omega);apply Y;simp only [List.drop];refine aD fun _ Y=>?_;simp (disch:=omega);obtain ⟨z1, z2, z3⟩ := Ru hx.ix (by omega);refine Ps (Mt m M d _ hx.ix.iv.ho z1 z2 z3) ?_;rintro _ τ1 ⟨ps, hps, hr9, hs9⟩;subst hr9;obtain ⟨m2, M2, dc, hm2, hat1, hcs⟩ := CX.start hx hps hs9;rw [hm2];clear hs9;apply Y;simp (disch:=omega);and_intros<;>(try omega);apply Z;refine aY fun _ _ Z=>?_;refine aA 1 fun _ Y=>?_;simp (disch:=omega);and_intros<;>(try omega);apply Y;simp only [List.drop];refine aD fun _ Y=>?_;simp (disch:=omega);refine Ps (Mx l m _ _ hat1) ?_;rintro _ τ2 ⟨hr9, hs9⟩;subst hr9;have hc := hcs τ2 hs9;clear hs9;apply Y;simp only [dE];apply Z;refine aY fun _ _ Z=>?_;refine aD fun _ Y=>?_;simp (disch:=omega);refine bY (Zf 12 _) ?_;apply Y;refine aD fun _ Y=>?_;simp (disch:=omega);refine bY (It 0 [] (fun _ => 0) (fun _ => newX 12) _ (by simp) (by simp) (fun i h => absurd h (by omega)) (fun h => absurd h (by simp)) (fun i h => absurd h (by simp))) ?_;apply Y;simp (disch:=omega);and_intros<;>(try omega);apply Z;apply aE;refine zk [1,5,6,9,10,11,12] ?_;refine oE ⟨[],[],[],[],[]⟩ fun all hall _ Z=>?_;have ga4 : aT all 4 = some 65 := hall 4;have ga8 : aT all 8 = some 69 := hall 8;have ga12 : aT all 12 = some 73 := hall 12;refine aA 1 fun _ Y=>?_;simp (disch:=omega)[ga4,ga8,ga12];and_intros<;>(try omega);apply Y;simp only [List.drop];refine aD fun _ Y=>?_;simp (disch:=omega)[ga4,ga8,ga12];refine bY (Ay l m [] _ (by simp) hc.lx.at_) ?_;apply Y;refine aA 3 fun _ Y=>?_;simp (disch:=omega)[ga4,ga8,ga12];and_intros<;>(try omega);apply Y;simp only [List.drop];refine aX 65 (by simp <;> rfl) ?_;refine ⟨fun g6 => ?_, fun g6 => ?_⟩
   ·simp at g6
   ·try simp at g6
    refine aA 4 fun _ Y=>?_;simp (disch:=omega)[ga4,ga8,ga12];and_intros<;>(try omega);apply Y;simp only [List.drop];refine aX 69 (by simp <;> rfl) ?_;refine ⟨fun g7 => ?_, fun g7 => ?_⟩
    ·simp at g7
    ·try simp at g7
     refine aA 4 fun _ Y=>?_;simp (disch:=omega)[ga4,ga8,ga12];and_intros<;>(try omega);apply Y;simp only [List.drop];refine aX 73 (by simp <;> rfl) ?_;refine ⟨fun g8 => ?_, fun g8 => ?_⟩
     ·simp at g8
     ·try simp at g8
      simp (disch:=omega)[ga4,ga8,ga12];and_intros<;>(try omega);apply Z;refine zi ?_;refine ⟨fun c9=>?_,fun c9=>?_⟩
      ·simp at c9
      ·try simp at c9
       apply aG;apply aB;refine zj (n := 226) (fun (p : Nat × DS × (Int → Nat) × RD × List TOp × List (List D)) => [(5, .d (.ref m 0)), (6, .d (.ref l 0)), (9, .d (.ref m2 0)), (10, .lref 0 0)]) (fun (p : Nat × DS × (Int → Nat) × RD × List TOp × List (List D)) => [[.v (.int .i64 ((newX 12).most)), .v (.int .i64 ((newX 12).next)), .sl false (((newX 12).l).map oF)]]) (fun (p : Nat × DS × (Int → Nat) × RD × List TOp × List (List D)) => p.2.2.2.2.2) (fun (p : Nat × DS × (Int → Nat) × RD × List TOp × List (List D)) => p.1 ≤ 20 ∧ CX (k + p.1) m M l p.2.1 p.2.2.1 p.2.2.2.1 p.2.2.2.2.1 p.2.2.2.2.2 k m2 M2 dc rk x) ?_ ?_
       ·skip
        refine zk [1,5,6,9,10] ?_;refine aY fun _ _ Z=>?_;simp (disch:=omega);and_intros<;>(try omega);apply Z;apply aM;refine zk [1,5,6,9,10,13] ?_;refine jK (fun (p : Nat × DS × (Int → Nat) × RD × List TOp × List (List D)) => [(13, .d (.v (.int .i64 p.1)))]) (fun (p : Nat × DS × (Int → Nat) × RD × List TOp × List (List D)) => [[.v (.int .i64 ((newX 12).most)), .v (.int .i64 ((newX 12).next)), .sl false (((newX 12).l).map oF)]]) (fun (p : Nat × DS × (Int → Nat) × RD × List TOp × List (List D)) => p.2.2.2.2.2) [13, 14, 77, 78, 79, 80, 81, 82, 83, 84, 85, 86, 87, 88, 89, 90, 91, 92, 93, 94, 95, 96] (fun (p : Nat × DS × (Int → Nat) × RD × List TOp × List (List D)) => p.1 ≤ more.length ∧ p.1 ≤ 20 ∧ CX (k + p.1) m M l p.2.1 p.2.2.1 p.2.2.2.1 p.2.2.2.2.1 p.2.2.2.2.2 k m2 M2 dc rk x) (fun (p : Nat × DS × (Int → Nat) × RD × List TOp × List (List D)) => more.length - p.1) ((0, d, rk, x, [], τ2)) (by simp <;> rfl) ?_ (by simp) (by simp) ?_ ?_
        ·simp
        ·exact ⟨Nat.zero_le _, Nat.zero_le _, hc⟩
        rintro ⟨k2, d, rk, x, ops, τ⟩ ⟨hk2, hk23, hx⟩;simp only [List.cons_append, List.nil_append];simp only at hk2 hk23 hx;have hat := hx.lx.at_;have hol := hx.lx.len;apply aE;refine oE ⟨[],[],[],[],[]⟩ fun all hall _ Z=>?_;have ga4 : aT all 4 = some 81 := hall 4;refine aA 5 fun _ Y=>?_;simp (disch:=omega)[ga4];and_intros<;>(try omega);apply Y;simp only [List.drop];refine aX 81 (by simp <;> rfl) ?_;refine ⟨fun g10 => ?_, fun g10 => ?_⟩
        ·try simp at g10
         simp (disch:=omega)[ga4];and_intros<;>(try omega);apply Z;refine zi ?_;refine ⟨fun c11=>?_,fun c11=>?_⟩
         ·try simp at c11
          apply aG;apply aB;apply aE;apply aM;refine zk [1,5,6,9,10,13] ?_;refine aY fun _ _ Z=>?_;refine aA 4 fun _ Y=>?_;simp (disch:=omega);and_intros<;>(try omega);apply Y;simp only [List.drop];refine aD fun _ Y=>?_;simp (disch:=omega);refine bY (Je more[k2] _ (Bx ha2 (by omega)).1 (Bx ha2 (by omega)).2) ?_;apply Y;simp (disch:=omega);and_intros<;>(try omega);apply Z;refine zk [1,5,6,9,10,13,14] ?_;refine aY fun _ _ Z=>?_;refine aA 1 fun _ Y=>?_;simp (disch:=omega);and_intros<;>(try omega);apply Y;simp only [List.drop];refine aD fun _ Y=>?_;simp (disch:=omega);refine bY (Dj (jU more[k2]) _) ?_;apply Y;simp only [dE];apply Z;refine zi ?_;refine ⟨fun c12=>?_,fun c12=>?_⟩
          ·try simp at c12
           have hkn : (0 ≤ (jU more[k2]).kind ∧ (jU more[k2]).kind ≤ 4) ∨ (10 ≤ (jU more[k2]).kind ∧ (jU more[k2]).kind ≤ 17) := by simpa using c12
           refine uP fun _ _ Z=>?_;refine aA 2 fun _ Y=>?_;simp (disch:=omega);and_intros<;>(try omega);apply Y;simp only [List.drop];refine aD fun _ Y=>?_;simp (disch:=omega);obtain ⟨t1, t2⟩ := Er more[k2];obtain ⟨d2, rk2, σ2, y2, n2, cc2, hc2, hx2, ⟨hd2, _⟩, ho2, ha2⟩ := En (jU more[k2]) hkn hx.lx (by omega) (by omega) (by omega);refine bY (hc2) ?_;apply Y;simp only [dE];apply Z;apply aQ;apply aB;refine zk [1,5,6,9,10,13] ?_;refine uP fun _ _ Z=>?_;simp (disch:=omega);and_intros<;>(try omega);apply Z;refine bB ((k2 + 1, d2, rk2, y2, Pt ops cc2 (jC (jU more[k2]) n2), σ2)) ?_ ?_ (aV rfl ?_ (by simp) (by simp))
           ·exact ⟨by simp only; omega, by simp only; omega, hx.step hx2 hd2 ho2 ha2 (by omega) (by omega)⟩
           ·try dsimp only
            omega
           ·simp (disch:=omega)
          ·try simp at c12
           apply aG;apply aQ;apply aB;refine uP fun _ _ Z=>?_;simp (disch:=omega);and_intros<;>(try omega);apply Z;refine bB ((k2 + 1, d, rk, x, ops, τ)) ?_ ?_ (aV rfl ?_ (by simp) (by simp))
           ·exact ⟨by simp only; omega, by simp only; omega, hx.keep⟩
           ·try dsimp only
            omega
           ·simp (disch:=omega)
         ·try simp at c11
          apply bO;apply bM;apply bN;apply bG;refine Av ((k2, d, rk, x, ops, τ)) (⟨hk23, hx⟩) (aV rfl ?_ (by simp) (by simp));simp (disch:=omega)
        ·try simp at g10
         simp (disch:=omega)[ga4];and_intros<;>(try omega);apply Z;refine bQ (t := false) (by simp) (fun h => by cases h) (fun _ => ?_);apply bO;apply bM;apply bN;apply bG;refine Av ((k2, d, rk, x, ops, τ)) (⟨hk23, hx⟩) (aV rfl ?_ (by simp) (by simp));simp (disch:=omega)
       rintro ⟨k2, d, rk, x, ops, τ⟩ ⟨hk23, hx⟩;simp only at hk23 hx;have hat := hx.lx.at_;have hol := hx.lx.len;refine aY fun _ _ Z=>?_;refine aA 1 fun _ Y=>?_;simp (disch:=omega);and_intros<;>(try omega);apply Y;simp only [List.drop];refine aD fun _ Y=>?_;simp (disch:=omega);refine bY (Ay l m ops _ (by omega) hat) ?_;apply Y;simp (disch:=omega);and_intros<;>(try omega);apply Z;refine aY fun _ _ Z=>?_;refine aA 2 fun _ Y=>?_;simp (disch:=omega);and_intros<;>(try omega);apply Y;simp only [List.drop];refine aD fun _ Y=>?_;simp (disch:=omega);obtain ⟨d3, rk3, σ3, hr1, h3, h4⟩ := hx.fin (by omega);obtain ⟨a1, a2, a3, a4, a5⟩ := aDt h4 h3;obtain ⟨b1, _, _⟩ := h3.iv.bounds (by omega);obtain ⟨b2, b5, b6⟩ := h4.iv.bounds (by omega);have hbl := (h4.iv.wt.Tr (by have := h4.iv.ip.len; rw [lR]; omega)).len 0;have hll := lR d;refine bY (hr1) ?_;apply Y;simp (disch:=omega);and_intros<;>(try omega);apply Z;apply aE;refine zk [5,9,10,15,16,17] ?_;refine oE ⟨[],[],[],[],[]⟩ fun all hall _ Z=>?_;have ga4 : aT all 4 = some 109 := hall 4;have ga8 : aT all 8 = some 113 := hall 8;have ga15 : aT all 15 = some 120 := hall 15;have ga22 : aT all 22 = some 127 := hall 22;refine aA 5 fun _ Y=>?_;simp (disch:=omega)[ga4,ga8,ga15,ga22];and_intros<;>(try omega);apply Y;simp only [List.drop];refine aX 109 (by simp <;> rfl) ?_;refine ⟨fun g13 => ?_, fun g13 => ?_⟩
       ·simp at g13
       ·try simp at g13
        refine aA 4 fun _ Y=>?_;simp (disch:=omega)[ga4,ga8,ga15,ga22];and_intros<;>(try omega);apply Y;simp only [List.drop];refine aX 113 (by simp <;> rfl) ?_;refine ⟨fun g14 => ?_, fun g14 => ?_⟩
        ·simp at g14
        ·try simp at g14
         refine aA 1 fun _ Y=>?_;simp (disch:=omega)[ga4,ga8,ga15,ga22];and_intros<;>(try omega);apply Y;simp only [List.drop];refine zg ga8 fun _ Y=>?_;simp (disch:=omega)[ga4,ga8,ga15,ga22];refine bY (rG m2 M2 d3 _ h3.iv.ho) ?_;rw [a1];apply Y;refine aA 1 fun _ Y=>?_;simp (disch:=omega)[ga4,ga8,ga15,ga22];and_intros<;>(try omega);apply Y;simp only [List.drop];refine zg ga8 fun _ Y=>?_;simp (disch:=omega)[ga4,ga8,ga15,ga22];refine bY (rG m M d _ h4.iv.ho) ?_;apply Y;refine aA 3 fun _ Y=>?_;simp (disch:=omega)[ga4,ga8,ga15,ga22];and_intros<;>(try omega);apply Y;simp only [List.drop];refine aX 120 (by simp <;> rfl) ?_;refine ⟨fun g15 => ?_, fun g15 => ?_⟩
         ·simp at g15
         ·try simp at g15
          refine aA 1 fun _ Y=>?_;simp (disch:=omega)[ga4,ga8,ga15,ga22];and_intros<;>(try omega);apply Y;simp only [List.drop];refine zg ga15 fun _ Y=>?_;simp (disch:=omega)[ga4,ga8,ga15,ga22];refine bY (tK m2 M2 d3 _ h3.iv.ho b1) ?_;rw [a2];apply Y;refine aA 1 fun _ Y=>?_;simp (disch:=omega)[ga4,ga8,ga15,ga22];and_intros<;>(try omega);apply Y;simp only [List.drop];refine zg ga15 fun _ Y=>?_;simp (disch:=omega)[ga4,ga8,ga15,ga22];refine bY (tK m M d _ h4.iv.ho b2) ?_;apply Y;refine aA 3 fun _ Y=>?_;simp (disch:=omega)[ga4,ga8,ga15,ga22];and_intros<;>(try omega);apply Y;simp only [List.drop];refine aX 127 (by simp <;> rfl) ?_;refine ⟨fun g16 => ?_, fun g16 => ?_⟩
          ·simp at g16
          ·try simp at g16
           refine aA 1 fun _ Y=>?_;simp (disch:=omega)[ga4,ga8,ga15,ga22];and_intros<;>(try omega);apply Y;simp only [List.drop];refine zg ga22 fun _ Y=>?_;simp (disch:=omega)[ga4,ga8,ga15,ga22];refine bY (Dq m2 M2 d3 (bW d3.l rk3) rk3 _ h3.iv.ho (h3.iv.WD (by omega)) h3.iv.ip.root) ?_;rw [a3];apply Y;refine aA 1 fun _ Y=>?_;simp (disch:=omega)[ga4,ga8,ga15,ga22];and_intros<;>(try omega);apply Y;simp only [List.drop];refine zg ga22 fun _ Y=>?_;simp (disch:=omega)[ga4,ga8,ga15,ga22];refine bY (Dq m M d (bW d.l rk) rk _ h4.iv.ho (h4.iv.WD (by omega)) h4.iv.ip.root) ?_;apply Y;refine zg ga22 fun _ Y=>?_;simp (disch:=omega)[ga4,ga8,ga15,ga22];refine bY (He (bW d.l rk 0) (bW d.l rk 0) _ (by omega) (by omega)) ?_;apply Y;simp (disch:=omega)[ga4,ga8,ga15,ga22];and_intros<;>(try omega);apply Z;refine zi ?_;refine ⟨fun c17=>?_,fun c17=>?_⟩
           ·simp at c17
           ·try simp at c17
            apply aG;apply aB;apply aE;have hnb := h4.iv.ip.NB (by omega);have hnb3 := h3.iv.ip.NB (by omega);refine zk [5,9,10] ?_;refine aY fun _ _ Z=>?_;refine aA 1 fun _ Y=>?_;simp (disch:=omega);and_intros<;>(try omega);apply Y;simp only [List.drop];refine aD fun _ Y=>?_;simp (disch:=omega);refine bY (rG m M d _ h4.iv.ho) ?_;apply Y;simp (disch:=omega);and_intros<;>(try omega);apply Z;apply aM;refine zk [5,9,10,136,137] ?_;refine sT (fun (j : Nat) => [(137, .d (.v (.int .i64 (j : Int))))]) (fun (j : Nat) => [[.v (.int .i64 ((newX 12).most)), .v (.int .i64 ((newX 12).next)), .sl false (((newX 12).l).map oF)]]) [4, 18, 19, 20, 21, 22, 23, 137, 138, 139, 140, 141, 142, 143, 144, 145, 146, 147, 148, 149, 150, 151, 152, 153, 154, 155, 156, 157, 158, 159, 160, 161, 162, 163, 164, 165, 166, 167, 168, 169, 170, 171, 172, 173, 174, 175, 176, 177, 178, 179, 180, 181, 182, 183, 184, 185, 186, 187, 188, 189, 190, 191, 192, 193, 194, 195, 196, 197, 198, 199, 200, 201, 202, 203, 204, 205, 206, 207, 208, 209, 210, 211, 212, 213, 214, 215, 216, 217, 218, 219, 220, 221, 222, 223, 224, 225] (fun (j : Nat) => (j : Int) ≤ d.next) (fun (j : Nat) => d.next.toNat - j) (0) (by simp <;> rfl) ?_ (by simp) ?_ ?_
            ·simp
            ·omega
            rintro j hj;simp only [List.cons_append, List.nil_append];refine aY fun _ _ Z=>?_;simp (disch:=omega);and_intros<;>(try omega);apply Z;apply aE;refine zi ?_;refine ⟨fun c18=>?_,fun c18=>?_⟩
            ·try simp at c18
             apply aG;apply aB;apply aE;apply aM;refine aY fun _ _ Z=>?_;simp (disch:=omega);and_intros<;>(try omega);apply Z;refine aY fun _ _ Z=>?_;refine aA 2 fun _ Y=>?_;simp (disch:=omega);and_intros<;>(try omega);apply Y;simp only [List.drop];refine aD fun _ Y=>?_;simp (disch:=omega);refine bY (Wu m M d (j : Int) _ h4.iv.ho hnb) ?_;apply Y;simp (disch:=omega);and_intros<;>(try omega);apply Z;refine zk [5,9,10,18,19,20,136,137] ?_;refine aY fun _ _ Z=>?_;refine aA 2 fun _ Y=>?_;simp (disch:=omega);and_intros<;>(try omega);apply Y;simp only [List.drop];refine aD fun _ Y=>?_;simp (disch:=omega);refine bY (Wu m2 M2 d3 (j : Int) _ h3.iv.ho hnb3) ?_;rw [a4, a5];apply Y;simp (disch:=omega);and_intros<;>(try omega);apply Z;apply aE;refine zk [5,9,10,19,20,21,22,136,137] ?_;refine oE ⟨[],[],[],[],[]⟩ fun all hall _ Z=>?_;have ga3 : aT all 3 = some 155 := hall 3;have ga10 : aT all 10 = some 162 := hall 10;have ga17 : aT all 17 = some 169 := hall 17;have ga24 : aT all 24 = some 176 := hall 24;have ga32 : aT all 32 = some 184 := hall 32;have ga40 : aT all 40 = some 192 := hall 40;have ga49 : aT all 49 = some 201 := hall 49;refine aA 4 fun _ Y=>?_;simp (disch:=omega)[ga3,ga10,ga17,ga24,ga32,ga40,ga49];and_intros<;>(try omega);apply Y;simp only [List.drop];refine aX 155 (by simp <;> rfl) ?_;refine ⟨fun g19 => ?_, fun g19 => ?_⟩
             ·simp at g19
             ·try simp at g19
              refine aA 7 fun _ Y=>?_;simp (disch:=omega)[ga3,ga10,ga17,ga24,ga32,ga40,ga49];and_intros<;>(try omega);apply Y;simp only [List.drop];refine aX 162 (by simp <;> rfl) ?_;refine ⟨fun g20 => ?_, fun g20 => ?_⟩
              ·simp at g20
              ·try simp at g20
               refine aA 7 fun _ Y=>?_;simp (disch:=omega)[ga3,ga10,ga17,ga24,ga32,ga40,ga49];and_intros<;>(try omega);apply Y;simp only [List.drop];refine aX 169 (by simp <;> rfl) ?_;refine ⟨fun g21 => ?_, fun g21 => ?_⟩
               ·simp at g21
               ·try simp at g21
                refine aA 7 fun _ Y=>?_;simp (disch:=omega)[ga3,ga10,ga17,ga24,ga32,ga40,ga49];and_intros<;>(try omega);apply Y;simp only [List.drop];refine aX 176 (by simp <;> rfl) ?_;refine ⟨fun g22 => ?_, fun g22 => ?_⟩
                ·simp at g22
                ·try simp at g22
                 refine aA 4 fun _ Y=>?_;simp (disch:=omega)[ga3,ga10,ga17,ga24,ga32,ga40,ga49];and_intros<;>(try omega);apply Y;simp only [List.drop];refine zg ga24 fun _ Y=>?_;simp (disch:=omega)[ga3,ga10,ga17,ga24,ga32,ga40,ga49];refine bY (Um (aL d.l (j : Int)).attrs _ (by have := hnb.fa (j : Int); omega)) ?_;apply Y;refine aA 3 fun _ Y=>?_;simp (disch:=omega)[ga3,ga10,ga17,ga24,ga32,ga40,ga49];and_intros<;>(try omega);apply Y;simp only [List.drop];refine aX 184 (by simp <;> rfl) ?_;refine ⟨fun g23 => ?_, fun g23 => ?_⟩
                 ·simp at g23
                 ·try simp at g23
                  refine aA 4 fun _ Y=>?_;simp (disch:=omega)[ga3,ga10,ga17,ga24,ga32,ga40,ga49];and_intros<;>(try omega);apply Y;simp only [List.drop];refine zg ga32 fun _ Y=>?_;simp (disch:=omega)[ga3,ga10,ga17,ga24,ga32,ga40,ga49];refine bY (Wd (aL d.l (j : Int)).styles _ (by have := hnb.fs (j : Int); omega)) ?_;apply Y;refine aA 3 fun _ Y=>?_;simp (disch:=omega)[ga3,ga10,ga17,ga24,ga32,ga40,ga49];and_intros<;>(try omega);apply Y;simp only [List.drop];refine aX 192 (by simp <;> rfl) ?_;refine ⟨fun g24 => ?_, fun g24 => ?_⟩
                  ·simp at g24
                  ·try simp at g24
                   refine aA 8 fun _ Y=>?_;simp (disch:=omega)[ga3,ga10,ga17,ga24,ga32,ga40,ga49];and_intros<;>(try omega);apply Y;simp only [List.drop];refine aA 1 fun _ Y=>?_;simp (disch:=omega)[ga3,ga10,ga17,ga24,ga32,ga40,ga49];and_intros<;>(try omega);apply Y;simp only [List.drop];refine aX 201 (by simp <;> rfl) ?_;refine ⟨fun g25 => ?_, fun g25 => ?_⟩
                   ·simp at g25
                   ·try simp at g25
                    simp (disch:=omega)[ga3,ga10,ga17,ga24,ga32,ga40,ga49];and_intros<;>(try omega);apply Z;refine zi ?_;refine ⟨fun c26=>?_,fun c26=>?_⟩
                    ·try simp at c26
                     exact absurd rfl c26
                    ·try simp at c26
                     apply aG;apply aB;refine zk [5,9,10,19,21,136,137] ?_;refine aY fun _ _ Z=>?_;simp (disch:=omega);and_intros<;>(try omega);apply Z;apply aM;refine zk [5,9,10,19,21,136,137,209,210] ?_;refine sT (fun (i : Nat) => [(210, .d (.v (.int .i64 (i : Int))))]) (fun (i : Nat) => [[.v (.int .i64 ((newX 12).most)), .v (.int .i64 ((newX 12).next)), .sl false (((newX 12).l).map oF)], [.v (.int .i64 ((aL d.l (j : Int)).ID)), .v (.int .i64 ((aL d.l (j : Int)).kind)), .v (.string ((aL d.l (j : Int)).tag)), .v (.string ((aL d.l (j : Int)).text)), .sl false (((aL d.l (j : Int)).classes).map D.str), .sl false (((aL d.l (j : Int)).attrs).map cR), .sl false (((aL d.l (j : Int)).styles).map cN), .v (.int .i64 ((aL d.l (j : Int)).parent)), .sl false (((aL d.l (j : Int)).kids).map D.int)], [.v (.int .i64 ((aL d.l (j : Int)).ID)), .v (.int .i64 ((aL d.l (j : Int)).kind)), .v (.string ((aL d.l (j : Int)).tag)), .v (.string ((aL d.l (j : Int)).text)), .sl false (((aL d.l (j : Int)).classes).map D.str), .sl false (((aL d.l (j : Int)).attrs).map cR), .sl false (((aL d.l (j : Int)).styles).map cN), .v (.int .i64 ((aL d.l (j : Int)).parent)), .sl false (((aL d.l (j : Int)).kids).map D.int)]]) [4, 23, 210, 211, 212, 213, 214, 215, 216, 217, 218, 219, 220, 221, 222, 223, 224] (fun (i : Nat) => i ≤ (aL d.l (j : Int)).classes.length) (fun (i : Nat) => (aL d.l (j : Int)).classes.length - i) (0) (by simp <;> rfl) ?_ (by simp) ?_ ?_
                     ·simp
                     ·omega
                     rintro i hi9;simp only [List.cons_append, List.nil_append];have hcl9 := hnb.fc (j : Int);refine aY fun _ _ Z=>?_;simp (disch:=omega);and_intros<;>(try omega);apply Z;apply aE;refine zi ?_;refine ⟨fun c27=>?_,fun c27=>?_⟩
                     ·try simp at c27
                      apply aG;apply aB;apply aE;apply aM;refine aY fun _ _ Z=>?_;simp (disch:=omega);and_intros<;>(try omega);apply Z;refine zk [5,9,10,19,21,23,136,137,209,210] ?_;refine zd ⟨[],[],[],[],[]⟩ [.op {},.op {rL:=true},.op {},.op {},.op {},.op {},.op {rL:=true},.op {},.op {},.op {},.op {}] fun all hall _ Z=>?_;refine aP 8 (by simp) fun _ Y=>?_;simp (disch:=omega);and_intros<;>(try omega);apply Y;simp only [List.drop];simp (disch:=omega);and_intros<;>(try omega);apply Z;refine zi ?_;refine ⟨fun c28=>?_,fun c28=>?_⟩
                      ·simp at c28
                      ·try simp at c28
                       apply aG;apply aQ;apply aB;refine zk [5,9,10,19,21,136,137,209,210] ?_;refine uP fun _ _ Z=>?_;simp (disch:=omega);and_intros<;>(try omega);apply Z;refine bB (i + 1) ?_ ?_ (aV rfl ?_ (by simp) (by simp))
                       ·omega
                       ·try dsimp only
                        omega
                       ·simp (disch:=omega)
                     ·try simp at c27
                      apply bO;apply bM;apply bN;apply bG;apply aQ;apply aB;refine uP fun _ _ Z=>?_;simp (disch:=omega);and_intros<;>(try omega);apply Z;refine bB (j + 1) ?_ ?_ (aV rfl ?_ (by simp) (by simp))
                      ·omega
                      ·try dsimp only
                       omega
                      ·simp (disch:=omega)
            ·try simp at c18
             apply bO;apply bM;apply bN;apply bG;apply aB;refine aY fun _ _ Z=>?_;simp (disch:=omega);and_intros<;>(try omega);apply Z;apply aC;simp [aK]
end Go.Proofs.YtpfmpeaekgdgnaaGreat

