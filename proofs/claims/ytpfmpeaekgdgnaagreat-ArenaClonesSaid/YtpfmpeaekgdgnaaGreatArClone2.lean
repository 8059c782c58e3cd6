import Derived.Test.YtpfmpeaekgdgnaaGreatWkAr22
namespace Go.Proofs.YtpfmpeaekgdgnaaGreat
open Go Go.Vm
set_option linter.all false
set_option maxHeartbeats 1000000
def yN (m : Nat) (d : DS) (i : Nat) : Prop := i = m ∨ ∃ e ∈ d.es, e.o = i
theorem Off.not {m : Nat} {d : DS} {i : Nat} : Off m d i ↔ ¬ yN m d i :=
 ⟨fun h g => by
  rcases g with e | ⟨e, h1, h2⟩
  ·exact h.1 e
  ·exact h.2 e h1 h2, fun h => ⟨fun e => h (.inl e), fun e he h2 => h (.inr ⟨e, he, h2⟩)⟩⟩
def Sep (m2 : Nat) (dc : DS) (m : Nat) (d : DS) (σ : List (List D)) : Prop := ∀ i, yN m2 dc i → Off m d i ∧ i < σ.length
theorem aBi (b : Nat) : ∀ (ps : List EN) (i : Nat), ∀ e ∈ cE b ps i, ∃ j, j < ps.length ∧ e.o = b + 3 + 2 * (i + j)
 | [], i, e, h => by cases h
 | p :: ps, i, e, h => by
  rcases List.mem_cons.1 h with rfl | h
  ·exact ⟨0, by simp, rfl⟩
  ·obtain ⟨j, j1, j2⟩ := aBi b ps (i + 1) e h;exact ⟨j + 1, by simpa using j1, by rw [j2]; omega⟩
theorem Hk (b : Nat) : ∀ (ps : List EN) (i j : Nat) (h : j < ps.length), (cE b ps i)[j]? = some ⟨ps[j].n, b + 3 + 2 * (i + j), i + j⟩
 | [], i, j, h => by cases h
 | p :: ps, i, 0, h => rfl
 | p :: ps, i, j + 1, h => by
  simp only [cE, List.getElem?_cons_succ, List.getElem_cons_succ];rw [Hk b ps (i + 1) j (by simpa using h)];congr 2 <;> omega
theorem Ck (b : Nat) : ∀ (ps : List EN) (i : Nat), (cE b ps i).length = ps.length
 | [], _ => rfl
 | p :: ps, i => by simp [cE, Ck b ps (i + 1)]
theorem aD2 (ps : List EN) : ∀ j (h : j < ps.length), (ps.flatMap fun e => [([] : List D), dC e.n])[2 * j + 1]? = some (dC ps[j].n) := by
 induction ps with
 | nil => intro j h; cases h
 | cons p ps ih =>
  intro j h;cases j with
  | zero => rfl
  | succ j =>
   rw [List.flatMap_cons, show 2 * (j + 1) + 1 = (2 * j + 1) + 1 + 1 by omega];simp only [List.cons_append, List.nil_append, List.getElem?_cons_succ, List.getElem_cons_succ];exact ih j (by simpa using h)
theorem Wg (σ : List (List D)) (d : DS) (ps : List EN) : DO (σ.length + 1) σ.length (cD σ.length d ps) (mB σ d ps) := by
 refine ⟨Kf σ d ps, fun e he => ?_, fun e he => ?_, ?_, by rw [xN]; omega⟩
 ·obtain ⟨j, hj, rfl⟩ := List.getElem_of_mem he;have hj' : j < ps.length := by have := hj; simp only [cD, Ck] at this; exact this
  have e1 := Hk σ.length ps 0 j hj';have e2 : (cD σ.length d ps).es[j] = ⟨ps[j].n, σ.length + 3 + 2 * (0 + j), 0 + j⟩ := by
   have := List.getElem?_eq_getElem hj;exact Option.some.inj (this.symm.trans e1)
  rw [e2];show (mB σ d ps)[σ.length + 3 + 2 * (0 + j)]? = some (dC ps[j].n)
  unfold mB;rw [List.getElem?_append_right (by omega), show σ.length + 3 + 2 * (0 + j) - σ.length = (2 * j + 1) + 1 + 1 by omega];simp only [List.cons_append, List.nil_append, List.getElem?_cons_succ];exact aD2 ps j hj'
 ·obtain ⟨j, _, h⟩ := aBi σ.length ps 0 e he;rw [h]; omega
 ·rw [List.nodup_iff_pairwise_ne, List.pairwise_map, List.pairwise_iff_getElem];intro i j hi hj hij;have hi' : i < ps.length := by simp only [cD, Ck] at hi; exact hi
  have hj' : j < ps.length := by simp only [cD, Ck] at hj; exact hj
  have f : ∀ (i : Nat) (hi : i < (cD σ.length d ps).es.length) (hi' : i < ps.length), (cD σ.length d ps).es[i].o = σ.length + 3 + 2 * (0 + i) := fun i hi hi' => by
   have := (List.getElem?_eq_getElem hi).symm.trans (Hk σ.length ps 0 i hi');rw [Option.some.inj this]
  rw [f i hi hi', f j hj hj'];omega
theorem Xf (σ : List (List D)) {d : DS} {ps : List EN} (hp : ps.Perm d.es) : (cD σ.length d ps).l.Perm d.l := by
 show ((cE σ.length ps 0).map EN.n).Perm _
 rw [aC0];exact hp.map _
theorem Uk {k m M : Nat} {d : DS} {rk : Int → Nat} {x : RD} {σ τ : List (List D)} {ps : List EN} (h : IX k m M d rk x σ) (hp : ps.Perm d.es) (hs : τ = mB σ d ps) :
  ∃ m2 M2 dc, σ.length + 1 = m2 ∧ IX k m M d rk x τ ∧ IX k m2 M2 dc rk x τ ∧ Sep m2 dc m d τ ∧ ∀ i, i < σ.length → Off m2 dc i ∧ τ[i]? = σ[i]? := by
 subst hs;have hlt : ∀ i, yN (σ.length + 1) (cD σ.length d ps) i → σ.length ≤ i ∧ i < (mB σ d ps).length := by
  intro i hi;rw [xN];rcases hi with rfl | ⟨e, he, rfl⟩
  ·omega
  ·obtain ⟨j, hj, e2⟩ := aBi σ.length ps 0 e he;rw [e2]; omega
 refine ⟨_, σ.length, cD σ.length d ps, rfl, h.app _, h.clone (Wg σ d ps) (Xf σ hp) rfl rfl, fun i hi => ⟨h.off (hlt i hi).1, (hlt i hi).2⟩, fun i hi => ⟨Off.not.2 fun g => by have := (hlt i g).1; omega, ?_⟩⟩;unfold mB;rw [List.getElem?_append_left hi]
theorem Pt {k m M : Nat} {d : DS} {rk : Int → Nat} {x : RD} {σ : List (List D)} (h : IX k m M d rk x σ) (hk : k ≤ 900) : (d.es.map (fun e => e.n.ID)).Nodup ∧ d.es.length ≤ 100000 ∧ ∀ e ∈ d.es, e.n.kids.length ≤ 1000 ∧ e.n.classes.length ≤ 1000 ∧ e.n.attrs.length ≤ 1000 ∧ e.n.styles.length ≤ 1000 := by
 refine ⟨?_, by have := h.iv.ip.len; omega, fun e he => ?_⟩
 ·have := h.iv.ip.nd;rw [List.map_map] at this;exact this
 ·obtain ⟨a, b, c, f⟩ := h.iv.ip.sz e.n (List.mem_map.2 ⟨e, he, rfl⟩);omega
theorem IX.far {k m M : Nat} {d : DS} {rk : Int → Nat} {x : RD} {σ σ' : List (List D)} (h : IX k m M d rk x σ) (hl : σ.length ≤ σ'.length) (hf : ∀ i, yN m d i → σ'[i]? = σ[i]?) : IX k m M d rk x σ' := h.frame hl hf
theorem IX.lt {k m M : Nat} {d : DS} {rk : Int → Nat} {x : RD} {σ : List (List D)} (h : IX k m M d rk x σ) : ∀ i, yN m d i → i < σ.length := fun i hi => by
 rcases hi with rfl | ⟨e, he, rfl⟩
 ·exact gN h.iv.ho.hm
 ·exact gN (h.iv.ho.hn e he)
theorem Ra {k m M m2 : Nat} {d dc dc' : DS} {rk : Int → Nat} {x : RD} {τ τ' : List (List D)} (h : IX k m M d rk x τ) (hs : ∀ i, yN m d i → Off m2 dc i) (fr : FrO m2 dc dc' τ τ') : IX k m M d rk x τ' ∧ ∀ i, yN m d i → Off m2 dc' i :=
 ⟨h.far fr.len fun i hi => ((hs i hi).step (h.lt i hi) fr).2, fun i hi => ((hs i hi).step (h.lt i hi) fr).1⟩
end Go.Proofs.YtpfmpeaekgdgnaaGreat

