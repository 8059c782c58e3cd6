import Derived.Test.YtpfmpeaekgdgnaaGreatWkAr9
namespace Go.Proofs.YtpfmpeaekgdgnaaGreat
open Go Go.Vm
set_option maxRecDepth 20000
set_option linter.all false
set_option maxHeartbeats 8000000
structure WD (d : DS) (bel : Int → List Int) (rk : Int → Nat) : Prop where
 nb : NB d.l
 ids : ∀ e ∈ d.es, aL d.l e.n.ID = e.n
 tr : Tr d.l bel rk
 kids : ∀ e ∈ d.es, ∀ k ∈ e.n.kids, dT d.l k = true
theorem DO.lt {m M : Nat} {d : DS} {σ : List (List D)} (h : DO m M d σ) {e : EN} (he : e ∈ d.es) : e.o < σ.length := gR (h.hn e he)
theorem DO.app {m M : Nat} {d : DS} {σ : List (List D)} (h : DO m M d σ) (J : List (List D)) : DO m M d (σ ++ J) :=
 ⟨bL h.hm J, fun e he => bL (h.hn e he) J, h.nm, h.nd, by rw [List.length_append]; have := h.hM; omega⟩
theorem EF.of {m M q : Nat} {d : DS} {bel : Int → List Int} {rk : Int → Nat} {σ : List (List D)} (h : DO m M d σ) (hw : WD d bel rk) (hq : σ.length ≤ q) : EF m q d bel rk :=
 ⟨by have := gR h.hm; omega, fun e he => by have := h.lt he; omega, h.nm, h.nd, hw.nb, hw.ids, hw.tr, hw.kids⟩
theorem EO.of {m M : Nat} {d : DS} {bel : Int → List Int} {rk : Int → Nat} {σ : List (List D)} (h : DO m M d σ) (hw : WD d bel rk) (id : Int) : EO m M σ.length d bel id [] (σ ++ [[.xs 1 []]]) :=
 ⟨bL h.hm _, fun i _ e he _ => bL (h.hn e he) _, by simp, by have := hw.tr.len id; simp; omega⟩
theorem Oa (m M : Nat) (d : DS) (bel : Int → List Int) (rk : Int → Nat) (σ : List (List D)) (ho : DO m M d σ) (hw : WD d bel rk) (h0 : dT d.l 0 = true) : Ct Tryz.prog 23 [.ref m 0] σ (fun r σ' => r = .xs 1 ((bel 0).map D.int) ∧ ∃ J, σ' = σ ++ J) := by
 refine zf (rs:=[.tmp 2]) Tryz.func23 Tryz.ntmps23 Tryz.results23 ?_;simp only [aN];refine zr ⟨[2,7],[],[3],[],[]⟩ fun _ _ Z=>?_;simp[aS,aO,aJ,aF];and_intros<;>(try omega);apply Z;refine zr ⟨[2,7],[],[3],[],[]⟩ fun _ _ Z=>?_;simp[aS,aO,aJ,aF];and_intros<;>(try omega);apply Z;refine qV σ.length 0 1 (by simp [aJ]; rfl) rfl ?_;simp only [aF, List.set_cons_zero];refine zr ⟨[2,7],[],[3],[],[]⟩ fun _ _ Z=>?_;refine aA 2 fun _ Y=>?_;simp[aS,aO,aJ,aF];and_intros<;>(try omega);apply Y;simp only [List.drop];refine aD fun _ Y=>?_;simp[aS,aO,aJ,aF];refine bY (Jz m M σ.length 59 d bel rk 0 [] _ (Ml σ.length) (EF.of ho hw (Nat.le_refl _)) h0 (EO.of ho hw 0)) ?_;simp only [aF, List.set_cons_zero, List.nil_append];apply Y;simp only [dE];apply Z;refine zr ⟨[2,7],[],[3],[],[]⟩ fun _ _ Z=>?_;simp[aS,aO,aJ,aF];and_intros<;>(try omega);apply Z;apply aC;simp [aK]
theorem Lu (m M : Nat) (d : DS) (bel : Int → List Int) (rk : Int → Nat) (σ : List (List D)) (ho : DO m M d σ) (hw : WD d bel rk) (h0 : dT d.l 0 = true) : Ct Tryz.prog 23 [.ref m 0] σ (fun r σ' => r = .xs 1 ((bel 0).map D.int) ∧ σ' = σ) :=
 Kp (Oa m M d bel rk σ ho hw h0) fun r hr => by rw [hr]; exact Vg _ _
theorem Dq (m M : Nat) (d : DS) (bel : Int → List Int) (rk : Int → Nat) (σ : List (List D)) (ho : DO m M d σ) (hw : WD d bel rk) (h0 : dT d.l 0 = true) : Ct Tryz.prog 23 [.ref m 0] σ (fun r σ' => r = .sl false ((bel 0).map D.int) ∧ σ' = σ) :=
 (Lu m M d bel rk σ ho hw h0).freeze fun _ _ h => h
structure WP (d : DS) : Prop where
 par : ∀ e ∈ d.es, e.n.parent = -1 ∨ ∃ p ∈ d.es, p.n.ID = e.n.parent ∧ p.o ≠ e.o
 nn : ∀ e ∈ d.es, 0 ≤ e.n.ID
end Go.Proofs.YtpfmpeaekgdgnaaGreat

