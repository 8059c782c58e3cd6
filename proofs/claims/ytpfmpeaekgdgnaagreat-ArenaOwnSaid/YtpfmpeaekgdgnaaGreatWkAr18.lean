import Derived.Test.YtpfmpeaekgdgnaaGreatArAw
namespace Go.Proofs.YtpfmpeaekgdgnaaGreat
open Go Go.Vm
set_option maxRecDepth 20000
set_option linter.all false
set_option maxHeartbeats 8000000
theorem aA2 (l : List PI) (σ : List (List D)) (hl : l.length ≤ 10000) : Ct Tryz.prog 105 [.sl false (l.map cG), .sl false (l.map cG)] σ (fun r σ' => r = .bool true ∧ σ' = σ) := by
 refine zf (rs:=[.tmp 4]) Tryz.func105 Tryz.ntmps105 Tryz.results105 ?_;simp only [aQ];refine bC fun _ _ Z=>?_;simp (disch:=omega);and_intros<;>(try omega);apply Z;apply aD;refine bC fun _ _ Z=>?_;simp (disch:=omega);and_intros<;>(try omega);apply Z;refine zi ?_;refine ⟨fun c1=>?_,fun c1=>?_⟩
 ·simp at c1
 ·try simp at c1
  apply aH;apply aB;apply aD;refine bC fun _ _ Z=>?_;simp (disch:=omega);and_intros<;>(try omega);apply Z;apply aK;refine zk [0,1,4,12,13] ?_;refine bQ (fun (k : Nat) => [(13, .d (.v (.int .i64 (k : Int)))), (5, .d (.any))]) [4, 5, 13, 14, 15, 16, 17, 18, 19, 20, 21, 22, 23, 24, 25] (fun (k : Nat) => k ≤ l.length) (fun (k : Nat) => l.length - k) (0) (by simp <;> rfl) ?_ ?_ ?_
  ·simp
  ·simp
  rintro k hk;simp only [List.cons_append, List.nil_append];refine bC fun _ _ Z=>?_;simp (disch:=omega);and_intros<;>(try omega);apply Z;apply aD;refine zi ?_;refine ⟨fun c2=>?_,fun c2=>?_⟩
  ·try simp at c2
   apply aH;apply aB;apply aD;apply aK;refine bC fun _ _ Z=>?_;simp (disch:=omega);and_intros<;>(try omega);apply Z;refine zd ⟨[],[],[],[],[]⟩ [.op {},.op {},.op {},.op {},.op {},.op {},.op {},.op {},.op {}] fun all hall _ Z=>?_;refine aR 8 (by simp) fun _ Y=>?_;simp (disch:=omega);and_intros<;>(try omega);apply Y;simp only [List.drop];simp (disch:=omega);and_intros<;>(try omega);apply Z;refine zi ?_;refine ⟨fun c3=>?_,fun c3=>?_⟩
   ·simp at c3
   ·try simp at c3
    apply aH;apply aP;apply aB;refine zk [0,1,5,12,13] ?_;refine vS fun _ _ Z=>?_;simp (disch:=omega);and_intros<;>(try omega);apply Z;refine bA (k + 1) ?_ ?_ (aW rfl ?_ (by simp) (by simp))
    ·omega
    ·try dsimp only
     omega
    ·simp (disch:=omega)
  ·try simp at c2
   apply bK;apply bJ;apply bL;apply aY;apply aB;refine bC fun _ _ Z=>?_;simp (disch:=omega);and_intros<;>(try omega);apply Z;apply aE;simp [aN]
theorem Mz (n : ND) (σ : List (List D)) (h1 : n.kids.length ≤ 10000) (h2 : n.classes.length ≤ 10000) (h3 : n.attrs.length ≤ 10000) (h4 : n.styles.length ≤ 10000) : Ct Tryz.prog 56 [iT n, iT n] σ (fun r σ' => r = .bool true ∧ σ' = σ) := by
 refine zf (rs:=[.tmp 4]) Tryz.func56 Tryz.ntmps56 Tryz.results56 ?_;simp only [aQ];refine bC fun _ _ Z=>?_;simp (disch:=omega);and_intros<;>(try omega);apply Z;apply aD;refine lH ⟨[],[],[],[],[]⟩ fun all hall _ Z=>?_;have ga5 : aS all 5 = some 12 := hall 5;have ga12 : aS all 12 = some 19 := hall 12;have ga19 : aS all 19 = some 26 := hall 19;have ga26 : aS all 26 = some 33 := hall 26;have ga33 : aS all 33 = some 40 := hall 33;refine aA 6 fun _ Y=>?_;simp (disch:=omega)[ga5,ga12,ga19,ga26,ga33];and_intros<;>(try omega);apply Y;simp only [List.drop];refine aX 12 (by simp <;> rfl) ?_;refine ⟨fun g1 => ?_, fun g1 => ?_⟩
 ·simp at g1
 ·try simp at g1
  refine aA 7 fun _ Y=>?_;simp (disch:=omega)[ga5,ga12,ga19,ga26,ga33];and_intros<;>(try omega);apply Y;simp only [List.drop];refine aX 19 (by simp <;> rfl) ?_;refine ⟨fun g2 => ?_, fun g2 => ?_⟩
  ·simp at g2
  ·try simp at g2
   refine aA 7 fun _ Y=>?_;simp (disch:=omega)[ga5,ga12,ga19,ga26,ga33];and_intros<;>(try omega);apply Y;simp only [List.drop];refine aX 26 (by simp <;> rfl) ?_;refine ⟨fun g3 => ?_, fun g3 => ?_⟩
   ·simp at g3
   ·try simp at g3
    refine aA 7 fun _ Y=>?_;simp (disch:=omega)[ga5,ga12,ga19,ga26,ga33];and_intros<;>(try omega);apply Y;simp only [List.drop];refine aX 33 (by simp <;> rfl) ?_;refine ⟨fun g4 => ?_, fun g4 => ?_⟩
    ·simp at g4
    ·try simp at g4
     refine aA 7 fun _ Y=>?_;simp (disch:=omega)[ga5,ga12,ga19,ga26,ga33];and_intros<;>(try omega);apply Y;simp only [List.drop];refine aX 40 (by simp <;> rfl) ?_;refine ⟨fun g5 => ?_, fun g5 => ?_⟩
     ·simp at g5
     ·try simp at g5
      simp (disch:=omega)[ga5,ga12,ga19,ga26,ga33];and_intros<;>(try omega);apply Z;refine zi ?_;refine ⟨fun c6=>?_,fun c6=>?_⟩
      ·simp at c6
      ·try simp at c6
       apply aH;apply aB;apply aD;refine zk [2,3,4] ?_;refine bC fun _ _ Z=>?_;simp (disch:=omega);and_intros<;>(try omega);apply Z;apply aK;refine zk [2,3,4,50,51,52] ?_;refine bQ (fun (k : Nat) => [(52, .d (.v (.int .i64 (k : Int)))), (5, .d (.any))]) [4, 5, 6, 52, 53, 54, 55, 56, 57, 58, 59, 60, 61, 62, 63, 64, 65, 66, 67, 68, 69, 70, 71, 72, 73, 74, 75, 76, 77] (fun (k : Nat) => k ≤ n.attrs.length) (fun (k : Nat) => n.attrs.length - k) (0) (by simp <;> rfl) ?_ ?_ ?_
       ·simp
       ·simp
       rintro k hk;simp only [List.cons_append, List.nil_append];refine bC fun _ _ Z=>?_;simp (disch:=omega);and_intros<;>(try omega);apply Z;apply aD;refine zi ?_;refine ⟨fun c7=>?_,fun c7=>?_⟩
       ·try simp at c7
        apply aH;apply aB;apply aD;apply aK;refine bC fun _ _ Z=>?_;simp (disch:=omega);and_intros<;>(try omega);apply Z;refine zk [2,3,5,6,50,51,52] ?_;refine zd ⟨[],[],[],[],[]⟩ [.op {},.op {rL:=true},.op {},.op {},.op {},.op {},.op {},.op {rL:=true},.op {},.op {},.op {},.op {rL:=true},.op {},.op {},.op {},.op {},.op {},.op {rL:=true},.op {},.op {}] fun all hall _ Z=>?_;have ga9 : aS all 9 = some 66 := hall 9;refine aR 8 (by simp) fun _ Y=>?_;simp (disch:=omega)[ga9];and_intros<;>(try omega);apply Y;simp only [List.drop];refine aR 2 (by simp) fun _ Y=>?_;simp (disch:=omega)[ga9];and_intros<;>(try omega);apply Y;simp only [List.drop];refine fD 66 (by simp <;> rfl) ?_;refine ⟨fun g8 => ?_, fun g8 => ?_⟩
        ·simp at g8
        ·try simp at g8
         refine aR 8 (by simp) fun _ Y=>?_;simp (disch:=omega)[ga9];and_intros<;>(try omega);apply Y;simp only [List.drop];simp (disch:=omega)[ga9];and_intros<;>(try omega);apply Z;refine zi ?_;refine ⟨fun c9=>?_,fun c9=>?_⟩
         ·simp at c9
         ·try simp at c9
          apply aH;apply aP;apply aB;refine zk [2,3,5,50,51,52] ?_;refine vS fun _ _ Z=>?_;simp (disch:=omega);and_intros<;>(try omega);apply Z;refine bA (k + 1) ?_ ?_ (aW rfl ?_ (by simp) (by simp))
          ·omega
          ·try dsimp only
           omega
          ·simp (disch:=omega)
       ·try simp at c7
        apply bK;apply bJ;apply bL;apply aY;apply aB;refine zk [2,3] ?_;refine lH ⟨[],[],[],[],[]⟩ fun all hall _ Z=>?_;have ga5 : aS all 5 = some 83 := hall 5;have ga12 : aS all 12 = some 90 := hall 12;refine aA 4 fun _ Y=>?_;simp (disch:=omega)[ga5,ga12];and_intros<;>(try omega);apply Y;simp only [List.drop];refine aG fun _ Y=>?_;simp (disch:=omega)[ga5,ga12];refine cO (Xq n.classes n.classes _ (by omega) (by omega)) ?_;apply Y;refine aA 1 fun _ Y=>?_;simp (disch:=omega)[ga5,ga12];and_intros<;>(try omega);apply Y;simp only [List.drop];refine aX 83 (by simp <;> rfl) ?_;refine ⟨fun g10 => ?_, fun g10 => ?_⟩
        ·try simp at g10
         refine aA 4 fun _ Y=>?_;simp (disch:=omega)[ga5,ga12];and_intros<;>(try omega);apply Y;simp only [List.drop];refine zg ga5 fun _ Y=>?_;simp (disch:=omega)[ga5,ga12];refine cO (aA2 n.styles _ h4) ?_;apply Y;refine aA 2 fun _ Y=>?_;simp (disch:=omega)[ga5,ga12];and_intros<;>(try omega);apply Y;simp only [List.drop];refine aX 90 (by simp <;> rfl) ?_;refine ⟨fun g11 => ?_, fun g11 => ?_⟩
         ·try simp at g11
          refine aA 4 fun _ Y=>?_;simp (disch:=omega)[ga5,ga12];and_intros<;>(try omega);apply Y;simp only [List.drop];refine zg ga12 fun _ Y=>?_;simp (disch:=omega)[ga5,ga12];refine cO (vG n.kids n.kids _ (by omega) (by omega)) ?_;apply Y;simp (disch:=omega)[ga5,ga12];and_intros<;>(try omega);apply Z;apply aE;simp [aN]
         ·simp at g11
        ·simp at g10
theorem Zj (k m M : Nat) (d : DS) (rk : Int → Nat) (x : RD) (σ : List (List D)) (hi : IX k m M d rk x σ) (hk : k ≤ 800) : Ct Tryz.prog 19 [.ref m 0, gV x] σ (fun r σ' => r = .bool true ∧ σ' = σ) := by
 refine zf (rs:=[.tmp 4]) Tryz.func19 Tryz.ntmps19 Tryz.results19 ?_;simp only [aQ];obtain ⟨h, hxp⟩ := hi;have hnb := h.ip.NB (by omega);have hll := mV d;have htr := h.wt.Tr (by have := h.ip.len; rw [mV]; omega);obtain ⟨b1, b2, b3⟩ := h.bounds (by omega);have hxx : NB x.l := hxp.nb hnb;have htx : Tr x.l (bY d.l rk) rk := htr.perm hxp.fd;have hxl : x.l.length = d.es.length := by rw [hxp.len]; exact hll
 have hxm : x.most = d.most := hxp.most;have hxn : x.next = d.next := hxp.next;have hbl := htr.len 0;have hro := h.ip.room;refine bC fun _ _ Z=>?_;simp;and_intros<;>(try omega);apply Z;apply aD;refine zd ⟨[],[],[],[],[]⟩ [.op {},.read,.op {},.op {rL:=true},.op {},.op {},.op {},.op {},.op {},.read,.op {},.op {rL:=true},.op {},.op {rL:=true},.op {},.op {},.op {},.op {},.op {},.op {},.op {},.read,.op {},.op {rL:=true},.op {},.op {},.op {},.op {},.read,.op {rL:=true},.pure,.pure,.op {},.op {}] fun all hall _ Z=>?_;have ga7 : aS all 7 = some 17 := hall 7;have ga19 : aS all 19 = some 29 := hall 19;have ga26 : aS all 26 = some 36 := hall 26;refine aR 1 (by simp) fun _ Y=>?_;simp[ga7,ga19,ga26];and_intros<;>(try omega);apply Y;simp only [List.drop];refine dH fun _ Y=>?_;simp[ga7,ga19,ga26];refine Ww (xO m M d _ h.ho b1) ?_;apply Y;refine aR 6 (by simp) fun _ Y=>?_;simp[ga7,ga19,ga26];and_intros<;>(try omega);apply Y;simp only [List.drop];refine fD 17 (by simp <;> rfl) ?_;refine ⟨fun g1 => ?_, fun g1 => ?_⟩
 ·try simp at g1
  omega
 ·try simp at g1
  refine aR 1 (by simp) fun _ Y=>?_;simp[ga7,ga19,ga26];and_intros<;>(try omega);apply Y;simp only [List.drop];refine Vg ga7 fun _ Y=>?_;simp[ga7,ga19,ga26];refine Ww (vA m M d _ h.ho b1 b2) ?_;apply Y;refine aR 8 (by simp) fun _ Y=>?_;simp[ga7,ga19,ga26];and_intros<;>(try omega);apply Y;simp only [List.drop];refine aR 2 (by simp) fun _ Y=>?_;simp[ga7,ga19,ga26];and_intros<;>(try omega);apply Y;simp only [List.drop];refine fD 29 (by simp <;> rfl) ?_;refine ⟨fun g2 => ?_, fun g2 => ?_⟩
  ·try simp at g2
   omega
  ·try simp at g2
   refine aR 1 (by simp) fun _ Y=>?_;simp[ga7,ga19,ga26];and_intros<;>(try omega);apply Y;simp only [List.drop];refine Vg ga19 fun _ Y=>?_;simp[ga7,ga19,ga26];refine Ww (Vd m M d _ h.ho) ?_;apply Y;refine aR 5 (by simp) fun _ Y=>?_;simp[ga7,ga19,ga26];and_intros<;>(try omega);apply Y;simp only [List.drop];refine fD 36 (by simp <;> rfl) ?_;refine ⟨fun g3 => ?_, fun g3 => ?_⟩
   ·try simp at g3
    omega
   ·try simp at g3
    refine aR 1 (by simp) fun _ Y=>?_;simp[ga7,ga19,ga26];and_intros<;>(try omega);apply Y;simp only [List.drop];refine Vg ga26 fun _ Y=>?_;simp[ga7,ga19,ga26];refine Ww (Ce m M d (bY d.l rk) rk _ h.ho (h.WD (by omega)) h.ip.root) ?_;apply Y;refine aR 1 (by simp) fun _ Y=>?_;simp[ga7,ga19,ga26];and_intros<;>(try omega);apply Y;simp only [List.drop];refine Vg ga26 fun _ Y=>?_;simp[ga7,ga19,ga26];refine Js (fun _ => (qS x 0 (bY d.l rk) rk _ hxx htx)) ?_;apply Y;refine Vg ga26 fun _ Y=>?_;simp[ga7,ga19,ga26];refine Js (fun _ => (vG (bY d.l rk 0) (bY d.l rk 0) _ (by omega) (by omega))) ?_;apply Y;simp[ga7,ga19,ga26];and_intros<;>(try omega);apply Z;refine zi ?_;refine ⟨fun c4=>?_,fun c4=>?_⟩
    ·simp at c4
    ·try simp at c4
     apply aH;apply aB;apply aD;refine zk [0,3,4] ?_;refine bC fun _ _ Z=>?_;simp;and_intros<;>(try omega);apply Z;apply aK;refine zk [0,3,4,5] ?_;refine bQ (fun (j : Nat) => [(5, .d (.int ((j : Int) - 1)))]) [4, 5, 6, 7, 8, 9, 44, 45, 46, 47, 48, 49, 50, 51, 52, 53, 54, 55, 56, 57, 58, 59, 60, 61, 62, 63, 64, 65, 66, 67, 68, 69, 70, 71, 72, 73, 74, 75, 76, 77, 78, 79, 80, 81, 82] (fun (j : Nat) => (j : Int) ≤ d.next + 2) (fun (j : Nat) => (d.next + 2).toNat - j) (0) (by simp <;> rfl) ?_ ?_ ?_
     ·simp
     ·omega
     rintro j hj;simp only [List.cons_append, List.nil_append];apply aD;refine bC fun _ _ Z=>?_;simp;and_intros<;>(try omega);apply Z;refine zi ?_;refine ⟨fun c5=>?_,fun c5=>?_⟩
     ·try simp at c5
      apply aH;apply aB;apply aD;apply aK;refine bC fun _ _ Z=>?_;refine aA 2 fun _ Y=>?_;simp;and_intros<;>(try omega);apply Y;simp only [List.drop];refine aG fun _ Y=>?_;simp;refine cO (Hm m M d ((j : Int) - 1) _ h.ho hnb) ?_;apply Y;simp;and_intros<;>(try omega);apply Z;refine zk [0,3,5,6,7] ?_;refine bC fun _ _ Z=>?_;refine aA 2 fun _ Y=>?_;simp;and_intros<;>(try omega);apply Y;simp only [List.drop];refine aG fun _ Y=>?_;simp;refine cO (fP x ((j : Int) - 1) _ hxx) ?_;rw [hxp.fd, hxp.il];apply Y;simp;and_intros<;>(try omega);apply Z;refine zk [0,3,5,6,7,8,9] ?_;refine zd ⟨[],[],[],[],[]⟩ [.op {},.op {},.op {},.op {},.op {},.op {},.op {rL:=true},.op {rL:=true},.pure,.op {},.op {},.op {},.op {},.op {},.op {},.read,.op {rL:=true},.op {},.pure,.op {},.op {}] fun all hall _ Z=>?_;have ga3 : aS all 3 = some 65 := hall 3;have ga5 : aS all 5 = some 67 := hall 5;have ga12 : aS all 12 = some 74 := hall 12;refine aR 4 (by simp) fun _ Y=>?_;simp[ga3,ga5,ga12];and_intros<;>(try omega);apply Y;simp only [List.drop];refine fD 65 (by simp <;> rfl) ?_;refine ⟨fun g6 => ?_, fun g6 => ?_⟩
      ·simp at g6
      ·try simp at g6
       refine aR 2 (by simp) fun _ Y=>?_;simp[ga3,ga5,ga12];and_intros<;>(try omega);apply Y;simp only [List.drop];refine fD 67 (by simp <;> rfl) ?_;refine ⟨fun g7 => ?_, fun g7 => ?_⟩
       ·try simp at g7
        refine aR 2 (by simp) fun _ Y=>?_;simp[ga3,ga5,ga12];and_intros<;>(try omega);apply Y;simp only [List.drop];refine Vg ga5 fun _ Y=>?_;simp[ga3,ga5,ga12];refine Js (fun _ => (Mz (aM d.l ((j : Int) - 1)) _ (by have := hnb.fk ((j : Int) - 1); omega) (by have := hnb.fc ((j : Int) - 1); omega) (by have := hnb.fa ((j : Int) - 1); omega) (by have := hnb.fs ((j : Int) - 1); omega))) ?_;apply Y;refine aR 4 (by simp) fun _ Y=>?_;simp[ga3,ga5,ga12];and_intros<;>(try omega);apply Y;simp only [List.drop];refine fD 74 (by simp <;> rfl) ?_;refine ⟨fun g8 => ?_, fun g8 => ?_⟩
        ·simp at g8
        ·try simp at g8
         refine aR 2 (by simp) fun _ Y=>?_;simp[ga3,ga5,ga12];and_intros<;>(try omega);apply Y;simp only [List.drop];refine Vg ga12 fun _ Y=>?_;simp[ga3,ga5,ga12];refine Ww (yY m M d ((j : Int) - 1) _ h.ho hnb h.WP (fun e he => h.fd he)) ?_;apply Y;refine aR 2 (by simp) fun _ Y=>?_;simp[ga3,ga5,ga12];and_intros<;>(try omega);apply Y;simp only [List.drop];refine Vg ga12 fun _ Y=>?_;simp[ga3,ga5,ga12];refine Js (fun _ => (yV x ((j : Int) - 1) _ hxx)) ?_;rw [hxp.ix];apply Y;simp[ga3,ga5,ga12];and_intros<;>(try omega);apply Z;refine zi ?_;refine ⟨fun c9=>?_,fun c9=>?_⟩
         ·simp at c9
         ·try simp at c9
          apply aH;apply aP;apply aB;refine zk [0,3,5] ?_;refine vS fun _ _ Z=>?_;simp;and_intros<;>(try omega);apply Z;refine bA (j + 1) ?_ ?_ (aW rfl ?_ (by simp) (by simp))
          ·omega
          ·try dsimp only
           omega
          ·first | (simp [wU]; done) | (simp [wU]; omega)
       ·try simp at g7
        refine aR 7 (by simp) fun _ Y=>?_;simp[ga3,ga5,ga12];and_intros<;>(try omega);apply Y;simp only [List.drop];refine aR 2 (by simp) fun _ Y=>?_;simp[ga3,ga5,ga12];and_intros<;>(try omega);apply Y;simp only [List.drop];refine Vg ga12 fun _ Y=>?_;simp[ga3,ga5,ga12];refine Ww (yY m M d ((j : Int) - 1) _ h.ho hnb h.WP (fun e he => h.fd he)) ?_;apply Y;refine aR 2 (by simp) fun _ Y=>?_;simp[ga3,ga5,ga12];and_intros<;>(try omega);apply Y;simp only [List.drop];refine Vg ga12 fun _ Y=>?_;simp[ga3,ga5,ga12];refine Js (fun _ => (yV x ((j : Int) - 1) _ hxx)) ?_;rw [hxp.ix];apply Y;simp[ga3,ga5,ga12];and_intros<;>(try omega);apply Z;refine zi ?_;refine ⟨fun c10=>?_,fun c10=>?_⟩
        ·simp at c10
        ·try simp at c10
         apply aH;apply aP;apply aB;refine zk [0,3,5] ?_;refine vS fun _ _ Z=>?_;simp;and_intros<;>(try omega);apply Z;refine bA (j + 1) ?_ ?_ (aW rfl ?_ (by simp) (by simp))
         ·omega
         ·try dsimp only
          omega
         ·first | (simp [wU]; done) | (simp [wU]; omega)
     ·try simp at c5
      apply bK;apply bJ;apply bL;apply aY;apply aB;refine bC fun _ _ Z=>?_;simp;and_intros<;>(try omega);apply Z;apply aE;simp [aN]
end Go.Proofs.YtpfmpeaekgdgnaaGreat
namespace Go.Proofs.YtpfmpeaekgdgnaaGreat
open Go Go.Vm
set_option maxRecDepth 20000
set_option linter.all false
set_option maxHeartbeats 8000000
theorem Rk (most : Int) (σ τ : List (List D)) (hs : τ = σ ++ [[], kM σ.length (d0 most (σ.length + 2)), dD kW]) : ∃ m M d rk, σ.length + 1 = m ∧ d.x = newX most ∧ IX 0 m M d rk (newX most) τ :=
 ⟨_, _, d0 most (σ.length + 2), _, rfl, rfl, by rw [hs]; exact aC8 most σ, XP.refl (d := newX most) (by simp [newX])⟩
theorem Rp {acts : List Act} (ha : ∀ a ∈ acts, a.name.size ≤ 9223372036854775807 ∧ a.value.size ≤ 9223372036854775807) {k : Nat} (hk : k < acts.length) : acts[k].name.size ≤ 9223372036854775807 ∧ acts[k].value.size ≤ 9223372036854775807 := ha _ (List.getElem_mem hk)
theorem Pr  (σ : List (List D))  : Ct Tryz.prog 11 [] σ (fun r σ' => r = .bool true) := by
 refine zf (rs:=[.tmp 0]) Tryz.func11 Tryz.ntmps11 Tryz.results11 ?_;simp only [aQ];refine bC fun _ _ Z=>?_;simp[rI];and_intros<;>(try omega);apply Z;refine bC fun _ _ Z=>?_;refine aG fun _ Y=>?_;simp[rI];refine Vi (Jl 3 _) ?_;rintro _ τ0 ⟨hr9, hs9⟩;subst hr9;obtain ⟨m, M, dd, rk0, hm0, hx0, hi0⟩ := Rk _ _ _ hs9;rw [hm0];clear hs9 hm0;obtain ⟨σ1, σ2, σ3, u1, u2, u3, u4, u5⟩ := Uq hi0.iv hx0;apply Y;simp[rI];and_intros<;>(try omega);apply Z;apply aD;refine bC fun _ _ Z=>?_;simp[rI];and_intros<;>(try omega);apply Z;refine zi ?_;refine ⟨fun c1=>?_,fun c1=>?_⟩
 ·simp at c1
 ·try simp at c1
  apply aH;apply aB;refine bC fun _ _ Z=>?_;refine aA 1 fun _ Y=>?_;simp[rI];and_intros<;>(try omega);apply Y;simp only [List.drop];refine aG fun _ Y=>?_;simp[rI];refine cO (u1) ?_;apply Y;simp[rI];and_intros<;>(try omega);apply Z;refine zk [0,1,2,3] ?_;refine bC fun _ _ Z=>?_;refine aA 2 fun _ Y=>?_;simp[rI];and_intros<;>(try omega);apply Y;simp only [List.drop];refine aG fun _ Y=>?_;simp[rI];refine cO (u2) ?_;apply Y;simp[rI];and_intros<;>(try omega);apply Z;refine bC fun _ _ Z=>?_;refine aA 1 fun _ Y=>?_;simp[rI];and_intros<;>(try omega);apply Y;simp only [List.drop];refine aG fun _ Y=>?_;simp[rI];refine cO (u3) ?_;apply Y;simp[rI];and_intros<;>(try omega);apply Z;refine zk [0,1,2,3,4,5,6] ?_;refine lH ⟨[],[],[],[],[]⟩ fun all hall _ Z=>?_;have ga2 : aS all 2 = some 25 := hall 2;have ga6 : aS all 6 = some 29 := hall 6;have ga10 : aS all 10 = some 33 := hall 10;have ga13 : aS all 13 = some 36 := hall 13;have ga18 : aS all 18 = some 41 := hall 18;have ga23 : aS all 23 = some 46 := hall 23;have ga29 : aS all 29 = some 52 := hall 29;refine aA 3 fun _ Y=>?_;simp[rI,ga2,ga6,ga10,ga13,ga18,ga23,ga29];and_intros<;>(try omega);apply Y;simp only [List.drop];refine aX 25 (by simp <;> rfl) ?_;refine ⟨fun g2 => ?_, fun g2 => ?_⟩
  ·try simp at g2
   refine aA 4 fun _ Y=>?_;simp[rI,ga2,ga6,ga10,ga13,ga18,ga23,ga29];and_intros<;>(try omega);apply Y;simp only [List.drop];refine aX 29 (by simp <;> rfl) ?_;refine ⟨fun g3 => ?_, fun g3 => ?_⟩
   ·try simp at g3
    refine aA 4 fun _ Y=>?_;simp[rI,ga2,ga6,ga10,ga13,ga18,ga23,ga29];and_intros<;>(try omega);apply Y;simp only [List.drop];refine aX 33 (by simp <;> rfl) ?_;refine ⟨fun g4 => ?_, fun g4 => ?_⟩
    ·try simp at g4
     refine aA 3 fun _ Y=>?_;simp[rI,ga2,ga6,ga10,ga13,ga18,ga23,ga29];and_intros<;>(try omega);apply Y;simp only [List.drop];refine aX 36 (by simp <;> rfl) ?_;refine ⟨fun g5 => ?_, fun g5 => ?_⟩
     ·try simp at g5
      refine aA 5 fun _ Y=>?_;simp[rI,ga2,ga6,ga10,ga13,ga18,ga23,ga29];and_intros<;>(try omega);apply Y;simp only [List.drop];refine aX 41 (by simp <;> rfl) ?_;refine ⟨fun g6 => ?_, fun g6 => ?_⟩
      ·try simp at g6
       refine aA 5 fun _ Y=>?_;simp[rI,ga2,ga6,ga10,ga13,ga18,ga23,ga29];and_intros<;>(try omega);apply Y;simp only [List.drop];refine aX 46 (by simp <;> rfl) ?_;refine ⟨fun g7 => ?_, fun g7 => ?_⟩
       ·try simp at g7
        refine aA 2 fun _ Y=>?_;simp[rI,ga2,ga6,ga10,ga13,ga18,ga23,ga29];and_intros<;>(try omega);apply Y;simp only [List.drop];refine zg ga23 fun _ Y=>?_;simp[rI,ga2,ga6,ga10,ga13,ga18,ga23,ga29];refine cO (u4) ?_;apply Y;refine aA 3 fun _ Y=>?_;simp[rI,ga2,ga6,ga10,ga13,ga18,ga23,ga29];and_intros<;>(try omega);apply Y;simp only [List.drop];refine aX 52 (by simp <;> rfl) ?_;refine ⟨fun g8 => ?_, fun g8 => ?_⟩
        ·try simp at g8
         refine aA 1 fun _ Y=>?_;simp[rI,ga2,ga6,ga10,ga13,ga18,ga23,ga29];and_intros<;>(try omega);apply Y;simp only [List.drop];refine zg ga29 fun _ Y=>?_;simp[rI,ga2,ga6,ga10,ga13,ga18,ga23,ga29];refine cO (u5) ?_;apply Y;simp[rI,ga2,ga6,ga10,ga13,ga18,ga23,ga29];and_intros<;>(try omega);apply Z;apply aE;simp [aN]
        ·simp at g8
       ·simp at g7
      ·simp at g6
     ·simp at g5
    ·simp at g4
   ·simp at g3
  ·simp at g2
end Go.Proofs.YtpfmpeaekgdgnaaGreat

