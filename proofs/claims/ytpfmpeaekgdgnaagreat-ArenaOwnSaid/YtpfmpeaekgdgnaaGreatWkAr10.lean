import Derived.Test.YtpfmpeaekgdgnaaGreatWkAr9
namespace Go.Proofs.YtpfmpeaekgdgnaaGreat
open Go Go.Vm
set_option maxRecDepth 20000
set_option linter.all false
set_option maxHeartbeats 8000000
structure WD (d : DS) (bel : Int → List Int) (rk : Int → Nat) : Prop where
 nb : NB d.l
 ids : ∀ e ∈ d.es, aM d.l e.n.ID = e.n
 tr : Tr d.l bel rk
 kids : ∀ e ∈ d.es, ∀ k ∈ e.n.kids, dQ d.l k = true
theorem DO.lt {m M : Nat} {d : DS} {σ : List (List D)} (h : DO m M d σ) {e : EN} (he : e ∈ d.es) : e.o < σ.length := gU (h.hn e he)
theorem DO.app {m M : Nat} {d : DS} {σ : List (List D)} (h : DO m M d σ) (J : List (List D)) : DO m M d (σ ++ J) :=
 ⟨bZ h.hm J, fun e he => bZ (h.hn e he) J, h.nm, h.nd, by rw [List.length_append]; have := h.hM; omega⟩
theorem EF.of {m M q : Nat} {d : DS} {bel : Int → List Int} {rk : Int → Nat} {σ : List (List D)} (h : DO m M d σ) (hw : WD d bel rk) (hq : σ.length ≤ q) : EF m q d bel rk :=
 ⟨by have := gU h.hm; omega, fun e he => by have := h.lt he; omega, h.nm, h.nd, hw.nb, hw.ids, hw.tr, hw.kids⟩
theorem EO.of {m M : Nat} {d : DS} {bel : Int → List Int} {rk : Int → Nat} {σ : List (List D)} (h : DO m M d σ) (hw : WD d bel rk) (id : Int) : EO m M σ.length d bel id [] (σ ++ [[.xs 1 []]]) :=
 ⟨bZ h.hm _, fun i _ e he _ => bZ (h.hn e he) _, by simp, by have := hw.tr.len id; simp; omega⟩
theorem Lu (m M : Nat) (d : DS) (bel : Int → List Int) (rk : Int → Nat) (σ : List (List D)) (ho : DO m M d σ) (hw : WD d bel rk) (h0 : dQ d.l 0 = true) : Ct Tryz.prog 23 [.ref m 0] σ (fun r σ' => r = .xs 1 ((bel 0).map D.int) ∧ ∃ J, σ' = σ ++ J) := by
 refine zf (rs:=[.tmp 2]) Tryz.func23 Tryz.ntmps23 Tryz.results23 ?_;simp only [aQ];refine zr ⟨[2,7],[],[3],[],[]⟩ fun _ _ Z=>?_;simp[aO,aI,aF,aC];and_intros<;>(try omega);apply Z;refine zr ⟨[2,7],[],[3],[],[]⟩ fun _ _ Z=>?_;simp[aO,aI,aF,aC];and_intros<;>(try omega);apply Z;refine qQ σ.length 0 1 (by simp [aF]; rfl) rfl ?_;simp only [aC, List.set_cons_zero];refine zr ⟨[2,7],[],[3],[],[]⟩ fun _ _ Z=>?_;refine aA 2 fun _ Y=>?_;simp[aO,aI,aF,aC];and_intros<;>(try omega);apply Y;simp only [List.drop];refine aG fun _ Y=>?_;simp[aO,aI,aF,aC];refine cO (Jh m M σ.length 59 d bel rk 0 [] _ (Mw σ.length) (EF.of ho hw (Nat.le_refl _)) h0 (EO.of ho hw 0)) ?_;simp only [aC, List.set_cons_zero, List.nil_append];apply Y;simp only [dF];apply Z;refine zr ⟨[2,7],[],[3],[],[]⟩ fun _ _ Z=>?_;simp[aO,aI,aF,aC];and_intros<;>(try omega);apply Z;apply aE;simp [aN]
theorem rS (m M : Nat) (d : DS) (bel : Int → List Int) (rk : Int → Nat) (σ : List (List D)) (ho : DO m M d σ) (hw : WD d bel rk) (h0 : dQ d.l 0 = true) : Ct Tryz.prog 23 [.ref m 0] σ (fun r σ' => r = .xs 1 ((bel 0).map D.int) ∧ σ' = σ) :=
 Da (Lu m M d bel rk σ ho hw h0) fun r hr => by rw [hr]; exact Qw _ _
theorem Ce (m M : Nat) (d : DS) (bel : Int → List Int) (rk : Int → Nat) (σ : List (List D)) (ho : DO m M d σ) (hw : WD d bel rk) (h0 : dQ d.l 0 = true) : Ct Tryz.prog 23 [.ref m 0] σ (fun r σ' => r = .sl false ((bel 0).map D.int) ∧ σ' = σ) :=
 (rS m M d bel rk σ ho hw h0).freeze fun _ _ h => h
theorem Mv (m M : Nat) (d : DS) (id : Int) (σ : List (List D)) (ho : DO m M d σ) (hno : dQ d.l id = false) : Ct Tryz.prog 17 [.ref m 0, D.int id] σ (fun r σ' => r = .int (-1) ∧ σ' = σ) := by
 refine zf (rs:=[.tmp 4]) Tryz.func17 Tryz.ntmps17 Tryz.results17 ?_;simp only [aQ];have hq := ho.hm;refine bC fun _ _ Z=>?_;simp[hq];and_intros<;>(try omega);apply Z;refine bC fun _ _ Z=>?_;refine aA 6 fun _ Y=>?_;simp[hq];refine ⟨m, 2, d.ck, _, .v (.pointer none), ⟨⟨_, hq, rfl⟩, fZ _, .inl (kP hno _)⟩, ?_⟩;and_intros<;>(try omega);apply Y;simp only [List.drop];simp[hq];and_intros<;>(try omega);apply Z;apply aD;refine lH ⟨[],[],[],[],[]⟩ fun all hall _ Z=>?_;have ga2 : aS all 2 = some 14 := hall 2;refine aA 3 fun _ Y=>?_;simp[hq,ga2];and_intros<;>(try omega);apply Y;simp only [List.drop];refine aX 14 (by simp <;> rfl) ?_;refine ⟨fun g1 => ?_, fun g1 => ?_⟩
 ·try simp at g1
  simp[hq,ga2];and_intros<;>(try omega);apply Z;refine bR (t := true) (by simp) (fun _ => ?_) (fun h => by cases h);refine zk [0,1,4,5] ?_;refine bC fun _ _ Z=>?_;simp[hq];and_intros<;>(try omega);apply Z;apply aE;apply aL;simp [aN]
 ·simp at g1
theorem Ma (m M : Nat) (d : DS) (e : EN) (σ : List (List D)) (ho : DO m M d σ) (he : e ∈ d.es) (hp : e.n.parent = -1) : Ct Tryz.prog 17 [.ref m 0, D.int e.n.ID] σ (fun r σ' => r = .int (-1) ∧ σ' = σ) := by
 refine zf (rs:=[.tmp 4]) Tryz.func17 Tryz.ntmps17 Tryz.results17 ?_;simp only [aQ];have hq := ho.hm;have hne := ho.hn e he;refine bC fun _ _ Z=>?_;simp[hq,hne,hp];and_intros<;>(try omega);apply Z;refine bC fun _ _ Z=>?_;refine aA 6 fun _ Y=>?_;simp[hq,hne,hp];refine ⟨m, 2, d.ck, _, .ref e.o 0, ⟨⟨_, hq, rfl⟩, fZ _, .inr (dP he _)⟩, ?_⟩;and_intros<;>(try omega);apply Y;simp only [List.drop];simp[hq,hne,hp];and_intros<;>(try omega);apply Z;apply aD;refine lH ⟨[],[],[],[],[]⟩ fun all hall _ Z=>?_;have ga2 : aS all 2 = some 14 := hall 2;refine aA 3 fun _ Y=>?_;simp[hq,hne,hp,ga2];and_intros<;>(try omega);apply Y;simp only [List.drop];refine aX 14 (by simp <;> rfl) ?_;refine ⟨fun g1 => ?_, fun g1 => ?_⟩
 ·simp at g1
 ·try simp at g1
  simp[hq,hne,hp,ga2];and_intros<;>(try omega);apply Z;refine zi ?_;refine ⟨fun c2=>?_,fun c2=>?_⟩
  ·try simp at c2
   refine zk [0,1,4,5] ?_;refine bC fun _ _ Z=>?_;simp[hq,hne,hp];and_intros<;>(try omega);apply Z;apply aE;apply aL;simp [aN]
  ·simp at c2
theorem Ns (m M : Nat) (d : DS) (e p : EN) (σ : List (List D)) (ho : DO m M d σ) (he : e ∈ d.es) (hp : p ∈ d.es) (hpp : p.n.ID = e.n.parent) (hnn : ¬ e.n.parent = -1) (hoo : e.o ≠ p.o) (hk : p.n.kids.length ≤ 1000) : Ct Tryz.prog 17 [.ref m 0, D.int e.n.ID] σ (fun r σ' => r = .int (Xo e.n.ID p.n.kids) ∧ ∃ J, σ' = σ ++ J) := by
 refine zf (rs:=[.tmp 4]) Tryz.func17 Tryz.ntmps17 Tryz.results17 ?_;simp only [aQ];have hq2 : ∀ cs J, (σ.set p.o cs ++ J)[m]? = some (kM M d) := fun cs J => by rw [List.getElem?_append_left (by simpa using gU ho.hm), List.getElem?_set_ne (ho.nm p hp)]; exact ho.hm
 have he2 : ∀ cs J, (σ.set p.o cs ++ J)[e.o]? = some (dD e.n) := fun cs J => by rw [List.getElem?_append_left (by simpa using gU (ho.hn e he)), List.getElem?_set_ne (Ne.symm hoo)]; exact ho.hn e he
 have hpc := ho.hn p hp;refine eR p.o 8 1 (es := p.n.kids.map D.int) hpc rfl (by decide) fun cap rest hcap hcm hrest hes => ?_;simp only [List.length_map, Dd] at hcap hrest ⊢;rw [dA (f := D.int) (fun _ => rfl)];refine bC fun _ _ Z=>?_;simp[hq2,he2,bO hpc,hnn,aO,aI,aF,aC];and_intros<;>(try omega);apply Z;refine bC fun _ _ Z=>?_;refine aA 6 fun _ Y=>?_;simp[hq2,he2,bO hpc,hnn,aO,aI,aF,aC];refine ⟨m, 2, d.ck, _, .ref e.o 0, ⟨⟨_, hq2 _ _, rfl⟩, fZ _, .inr (dP he _)⟩, ?_⟩;and_intros<;>(try omega);apply Y;simp only [List.drop];simp[hq2,he2,bO hpc,hnn,aO,aI,aF,aC];and_intros<;>(try omega);apply Z;apply aD;refine lH ⟨[],[],[],[],[]⟩ fun all hall _ Z=>?_;have ga2 : aS all 2 = some 14 := hall 2;refine aA 3 fun _ Y=>?_;simp[hq2,he2,bO hpc,hnn,aO,aI,aF,aC,ga2];and_intros<;>(try omega);apply Y;simp only [List.drop];refine aX 14 (by simp <;> rfl) ?_;refine ⟨fun g1 => ?_, fun g1 => ?_⟩
 ·simp at g1
 ·try simp at g1
  simp[hq2,he2,bO hpc,hnn,aO,aI,aF,aC,ga2];and_intros<;>(try omega);apply Z;refine zi ?_;refine ⟨fun c2=>?_,fun c2=>?_⟩
  ·simp at c2
  ·try simp at c2
   apply aH;apply aB;refine zk [0,1,4,5] ?_;refine zd ⟨[],[],[],[],[]⟩ [.op {},.op {},.op {},.op {rO:=true},.op {},.op {},.op {},.op {rO:=true},.op {rO:=true},.op {},.op {},.op {rO:=true},.op {},.read,.op {}] fun all hall _ Z=>?_;refine aR 8 (by simp) fun _ Y=>?_;simp[hq2,he2,bO hpc,hnn,aO,aI,aF,aC];and_intros<;>(try omega);apply Y;simp only [List.drop];refine aR 1 (by simp) fun _ Y=>?_;simp[hq2,he2,bO hpc,hnn,aO,aI,aF,aC];rw [← hpp];refine ⟨m, 2, d.ck, _, .ref p.o 0, ⟨⟨_, hq2 _ _, rfl⟩, fZ _, .inr (dP hp _)⟩, ?_⟩;and_intros<;>(try omega);apply Y;simp only [List.drop];refine aR 4 (by simp) fun _ Y=>?_;simp[hq2,he2,bO hpc,hnn,aO,aI,aF,aC];and_intros<;>(try omega);apply Y;simp only [List.drop];refine dH fun _ Y=>?_;simp[hq2,he2,bO hpc,hnn,aO,aI,aF,aC];refine Ww (Mt σ.length cap p.n.kids rest e.n.ID _ (by omega) (by simp [bH])) ?_;apply Y;simp[hq2,he2,bO hpc,hnn,aO,aI,aF,aC];and_intros<;>(try omega);apply Z;refine lB p.o 8 1 σ.length p.n.kids.length cap (p.n.kids.map D.int) _ (p.n.kids.map D.int ++ rest) (bO hpc _ _) rfl (by simp [bH]) (by have := gU hpc; omega) (by decide) (by simp [hrest]; omega) (by simp) hes (by rw [dA (f := D.int) (fun _ => rfl)]; exact List.prefix_append _ _) ?_;simp only [Dd, bT hpc, aZ];rw [gR hpc];apply aE;simp [aN]
structure WP (d : DS) : Prop where
 par : ∀ e ∈ d.es, e.n.parent = -1 ∨ ∃ p ∈ d.es, p.n.ID = e.n.parent ∧ p.o ≠ e.o
 nn : ∀ e ∈ d.es, 0 ≤ e.n.ID
theorem yY (m M : Nat) (d : DS) (id : Int) (σ : List (List D)) (ho : DO m M d σ) (hx : NB d.l) (hp : WP d) (hids : ∀ e ∈ d.es, aM d.l e.n.ID = e.n) : Ct Tryz.prog 17 [.ref m 0, D.int id] σ (fun r σ' => r = .int (pH d.l id) ∧ σ' = σ) := by
 cases hl : dQ d.l id with
 | false =>
  have e : pH d.l id = -1 := by unfold pH; rw [if_neg (by rw [hl]; simp)]
  rw [e]; exact Mv m M d id σ ho hl
 | true =>
  obtain ⟨e, he, rfl, hf⟩ := hP hl;rcases hp.par e he with h1 | ⟨p, hp1, hp2, hp3⟩
  ·have e1 : pH d.l e.n.ID = -1 := by unfold pH; rw [hf, if_neg (by rintro ⟨_, h⟩; omega)]
   rw [e1]; exact Ma m M d e σ ho he h1
  ·have hnn := hp.nn p hp1;have e1 : pH d.l e.n.ID = Xo e.n.ID p.n.kids := by
    unfold pH; rw [hf, if_pos ⟨hl, by omega⟩, ← hp2, hids p hp1]
   rw [e1];exact Da (Ns m M d e p σ ho he hp1 hp2 (by omega) (Ne.symm hp3) (hx.en hp1).1) fun r hr => by rw [hr]; exact Sc.v _
end Go.Proofs.YtpfmpeaekgdgnaaGreat

