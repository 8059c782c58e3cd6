import Derived.Test.YtpfmpeaekgdgnaaGreatWkAr22
import Derived.Test.YtpfmpeaekgdgnaaGreatTrDo2
namespace Go.Proofs.YtpfmpeaekgdgnaaGreat
open Go Go.Vm
set_option linter.all false
set_option maxHeartbeats 1000000
def Og (m : Nat) (d : DS) (i : Nat) : Prop := i = m ∨ ∃ e ∈ d.es, e.o = i
theorem Off.not {m : Nat} {d : DS} {i : Nat} : Off m d i ↔ ¬ Og m d i :=
 ⟨fun h g => by
  rcases g with e | ⟨e, h1, h2⟩
  ·exact h.1 e
  ·exact h.2 e h1 h2, fun h => ⟨fun e => h (.inl e), fun e he h2 => h (.inr ⟨e, he, h2⟩)⟩⟩
def Sep (m2 : Nat) (dc : DS) (m : Nat) (d : DS) (σ : List (List D)) : Prop := ∀ i, Og m2 dc i → Off m d i ∧ i < σ.length
theorem aCy (b : Nat) : ∀ (ps : List EN) (i : Nat), ∀ e ∈ cE b ps i, ∃ j, j < ps.length ∧ e.o = b + 3 + 2 * (i + j)
 | [], i, e, h => by cases h
 | p :: ps, i, e, h => by
  rcases List.mem_cons.1 h with rfl | h
  ·exact ⟨0, by simp, rfl⟩
  ·obtain ⟨j, j1, j2⟩ := aCy b ps (i + 1) e h;exact ⟨j + 1, by simpa using j1, by rw [j2]; omega⟩
theorem Ih (b : Nat) : ∀ (ps : List EN) (i j : Nat) (h : j < ps.length), (cE b ps i)[j]? = some ⟨ps[j].n, b + 3 + 2 * (i + j), i + j⟩
 | [], i, j, h => by cases h
 | p :: ps, i, 0, h => rfl
 | p :: ps, i, j + 1, h => by
  simp only [cE, List.getElem?_cons_succ, List.getElem_cons_succ];rw [Ih b ps (i + 1) j (by simpa using h)];congr 2 <;> omega
theorem Ah (b : Nat) : ∀ (ps : List EN) (i : Nat), (cE b ps i).length = ps.length
 | [], _ => rfl
 | p :: ps, i => by simp [cE, Ah b ps (i + 1)]
theorem aEb (ps : List EN) : ∀ j (h : j < ps.length), (ps.flatMap fun e => [([] : List D), dA e.n])[2 * j + 1]? = some (dA ps[j].n) := by
 induction ps with
 | nil => intro j h; cases h
 | cons p ps ih =>
  intro j h;cases j with
  | zero => rfl
  | succ j =>
   rw [List.flatMap_cons, show 2 * (j + 1) + 1 = (2 * j + 1) + 1 + 1 by omega];simp only [List.cons_append, List.nil_append, List.getElem?_cons_succ, List.getElem_cons_succ];exact ih j (by simpa using h)
theorem Qf (σ : List (List D)) (d : DS) (ps : List EN) : DO (σ.length + 1) σ.length (cD σ.length d ps) (lM σ d ps) := by
 refine ⟨Kn σ d ps, fun e he => ?_, fun e he => ?_, ?_, by rw [wY]; omega⟩
 ·obtain ⟨j, hj, rfl⟩ := List.getElem_of_mem he;have hj' : j < ps.length := by have := hj; simp only [cD, Ah] at this; exact this
  have e1 := Ih σ.length ps 0 j hj';have e2 : (cD σ.length d ps).es[j] = ⟨ps[j].n, σ.length + 3 + 2 * (0 + j), 0 + j⟩ := by
   have := List.getElem?_eq_getElem hj;exact Option.some.inj (this.symm.trans e1)
  rw [e2];show (lM σ d ps)[σ.length + 3 + 2 * (0 + j)]? = some (dA ps[j].n)
  unfold lM;rw [List.getElem?_append_right (by omega), show σ.length + 3 + 2 * (0 + j) - σ.length = (2 * j + 1) + 1 + 1 by omega];simp only [List.cons_append, List.nil_append, List.getElem?_cons_succ];exact aEb ps j hj'
 ·obtain ⟨j, _, h⟩ := aCy σ.length ps 0 e he;rw [h]; omega
 ·rw [List.nodup_iff_pairwise_ne, List.pairwise_map, List.pairwise_iff_getElem];intro i j hi hj hij;have hi' : i < ps.length := by simp only [cD, Ah] at hi; exact hi
  have hj' : j < ps.length := by simp only [cD, Ah] at hj; exact hj
  have f : ∀ (i : Nat) (hi : i < (cD σ.length d ps).es.length) (hi' : i < ps.length), (cD σ.length d ps).es[i].o = σ.length + 3 + 2 * (0 + i) := fun i hi hi' => by
   have := (List.getElem?_eq_getElem hi).symm.trans (Ih σ.length ps 0 i hi');rw [Option.some.inj this]
  rw [f i hi hi', f j hj hj'];omega
theorem Yk (σ : List (List D)) {d : DS} {ps : List EN} (hp : ps.Perm d.es) : (cD σ.length d ps).l.Perm d.l := by
 show ((cE σ.length ps 0).map EN.n).Perm _
 rw [aA9];exact hp.map _
theorem Sa {k m M : Nat} {d : DS} {rk : Int → Nat} {x : RD} {σ τ : List (List D)} {ps : List EN} (h : IX k m M d rk x σ) (hp : ps.Perm d.es) (hs : τ = lM σ d ps) :
  ∃ m2 M2 dc, σ.length + 1 = m2 ∧ IX k m M d rk x τ ∧ IX k m2 M2 dc rk x τ ∧ Sep m2 dc m d τ ∧ ∀ i, i < σ.length → Off m2 dc i ∧ τ[i]? = σ[i]? := by
 subst hs;have hlt : ∀ i, Og (σ.length + 1) (cD σ.length d ps) i → σ.length ≤ i ∧ i < (lM σ d ps).length := by
  intro i hi;rw [wY];rcases hi with rfl | ⟨e, he, rfl⟩
  ·omega
  ·obtain ⟨j, hj, e2⟩ := aCy σ.length ps 0 e he;rw [e2]; omega
 refine ⟨_, σ.length, cD σ.length d ps, rfl, h.app _, h.clone (Qf σ d ps) (Yk σ hp) rfl rfl, fun i hi => ⟨h.off (hlt i hi).1, (hlt i hi).2⟩, fun i hi => ⟨Off.not.2 fun g => by have := (hlt i g).1; omega, ?_⟩⟩;unfold lM;rw [List.getElem?_append_left hi]
theorem Ru {k m M : Nat} {d : DS} {rk : Int → Nat} {x : RD} {σ : List (List D)} (h : IX k m M d rk x σ) (hk : k ≤ 900) : (d.es.map (fun e => e.n.ID)).Nodup ∧ d.es.length ≤ 100000 ∧ ∀ e ∈ d.es, e.n.kids.length ≤ 1000 ∧ e.n.classes.length ≤ 1000 ∧ e.n.attrs.length ≤ 1000 ∧ e.n.styles.length ≤ 1000 := by
 refine ⟨?_, by have := h.iv.ip.len; omega, fun e he => ?_⟩
 ·have := h.iv.ip.nd;rw [List.map_map] at this;exact this
 ·obtain ⟨a, b, c, f⟩ := h.iv.ip.sz e.n (List.mem_map.2 ⟨e, he, rfl⟩);omega
theorem aDt {k k' m m' M M' : Nat} {d d' : DS} {rk rk' : Int → Nat} {y : RD} {σ : List (List D)} (h : IX k m M d rk y σ) (h' : IX k' m' M' d' rk' y σ) : d'.next = d.next ∧ d'.es.length = d.es.length ∧ bW d'.l rk' = bW d.l rk ∧ aL d'.l = aL d.l ∧ dT d'.l = dT d.l := by
 have e1 : aL d'.l = aL d.l := h'.xp.fd.symm.trans h.xp.fd;have hdec : ∀ {k m M d rk σ}, IX k m M d rk y σ → BelOf y.l (bW d.l rk) := fun {k m M d rk σ} h => ⟨rk, fun i q hq => by rw [h.xp.fd] at hq; exact h.iv.wt.Dec i q hq, (sD h.xp.fd rk).symm⟩;refine ⟨h'.xp.next.symm.trans h.xp.next, ?_, (hdec h').uniq (hdec h), e1, h'.xp.il.symm.trans h.xp.il⟩;have a := h.xp.len; have b := h'.xp.len
 rw [lR] at a b;exact b.symm.trans a
theorem IX.far {k m M : Nat} {d : DS} {rk : Int → Nat} {x : RD} {σ σ' : List (List D)} (h : IX k m M d rk x σ) (hl : σ.length ≤ σ'.length) (hf : ∀ i, Og m d i → σ'[i]? = σ[i]?) : IX k m M d rk x σ' := h.frame hl hf
theorem IX.lt {k m M : Nat} {d : DS} {rk : Int → Nat} {x : RD} {σ : List (List D)} (h : IX k m M d rk x σ) : ∀ i, Og m d i → i < σ.length := fun i hi => by
 rcases hi with rfl | ⟨e, he, rfl⟩
 ·exact gR h.iv.ho.hm
 ·exact gR (h.iv.ho.hn e he)
theorem Doc.err {x y : RD} {o : TOp} {c : Int} (h : Doc x o y c) (hc : ¬ c = 0) : y = x := by
 obtain ⟨b, b2, n, _, _, q1, q2, q3, q4, q5, q6, q7, q8⟩ := h;have f : ∀ {β : Type} {p : RD × β} {z : β}, p = (y, z) → p.1 = x → y = x := fun h1 h2 => by rw [h1] at h2; exact h2
 have g : ∀ {p : RD × Int}, p = (y, c) → ¬ p.2 = 0 := fun h => by rw [h]; exact hc
 have g2 : ∀ {p : RD × Int × Int}, p = (y, n, c) → ¬ p.2.2 = 0 := fun h => by rw [h]; exact hc
 by_cases k12 : o.kind = 1 ∨ o.kind = 2
 ·by_cases hn : x.next = o.a
  ·rcases k12 with k | k
   ·exact f (q2 k hn) (rT _ _ _ (g2 (q2 k hn)))
   ·exact f (q3 k hn) (rT _ _ _ (g2 (q3 k hn)))
  ·exact (q1 k12 hn).1
 ·by_cases k3 : o.kind = 3
  ·exact f (q4 k3) (Cv _ _ _ _ _ (g (q4 k3)))
  ·by_cases k4 : o.kind = 4
   ·exact f (q5 k4) (Ee _ _ _ (g (q5 k4)))
   ·by_cases k5 : o.kind = 5
    ·exact f (q6 k5) (Ea _ _ _ (g (q6 k5)))
    ·by_cases k6 : 6 ≤ o.kind ∧ o.kind ≤ 13
     ·exact f (q8 k6.1 k6.2) (iU _ _ _ _ _ _ (g (q8 k6.1 k6.2)))
     ·exact (q7 (by omega)).1
theorem aBo {a : Act} (h1 : a.name.size ≤ 1000) (h2 : a.value.size ≤ 1000) (n : Int) : (jC a n).name.size ≤ 1000 ∧ (jC a n).value.size ≤ 1000 := by
 have e0 : (⟨#[]⟩ : ByteArray).size ≤ 1000 := by decide
 have ite : ∀ {c : Prop} [Decidable c] {p q : TOp}, (p.name.size ≤ 1000 ∧ p.value.size ≤ 1000) → (q.name.size ≤ 1000 ∧ q.value.size ≤ 1000) → ((if c then p else q).name.size ≤ 1000 ∧ (if c then p else q).value.size ≤ 1000) := fun h g => by split; exact h; exact g
 unfold jC
 repeat' (refine ite ?_ ?_)
 all_goals exact ⟨by first | exact h1 | exact e0, by first | exact h2 | exact e0⟩
structure CX (k m M l : Nat) (d : DS) (rk : Int → Nat) (x : RD) (ops : List TOp) (σ : List (List D)) (k2 m2 M2 : Nat) (dc : DS) (rk2 : Int → Nat) (x0 : RD) : Prop where
 lx : LX k m M l d rk x ops σ
 cx : IX k2 m2 M2 dc rk2 x0 σ
 sep : Sep m2 dc m d σ
 nl : Off m2 dc l
 path : Path x0 ops x
 sz : ∀ o ∈ ops, o.name.size ≤ 1000 ∧ o.value.size ≤ 1000
variable {k m M l k2 m2 M2 : Nat} {d dc d' : DS} {rk rk2 rk' : Int → Nat} {x x0 y : RD} {ops : List TOp} {σ σ' τ τ2 : List (List D)}
theorem CX.start {ps : List EN} (h : LX k m M l d rk x ops σ) (hp : ps.Perm d.es) (hs : τ = lM σ d ps) : ∃ m2 M2 dc, σ.length + 1 = m2 ∧ τ[l]? = some (eN m ops) ∧ ∀ τ2, τ2 = τ.set l (eN m []) → CX k m M l d rk x [] τ2 k m2 M2 dc rk x := by
 obtain ⟨m2, M2, dc, h1, h2, h3, h4, h5⟩ := Sa h.ix hp hs;obtain ⟨h6, h7⟩ := h5 l (gR h.at_);rw [h.at_] at h7;have hl : LX k m M l d rk x ops τ := ⟨h2, h.off, h7, h.len⟩;refine ⟨m2, M2, dc, h1, h7, fun τ2 e => ⟨?_, ?_, ?_, h6, rfl, fun o ho => by cases ho⟩⟩
 ·subst e;exact ⟨h2.put h.off _, h.off, aI h7 _, Nat.zero_le _⟩
 ·subst e; exact h3.put h6 _
 ·subst e;exact fun i hi => ⟨(h4 i hi).1, by rw [List.length_set]; exact (h4 i hi).2⟩
theorem CX.keep (h : CX k m M l d rk x ops σ k2 m2 M2 dc rk2 x0) : CX (k + 1) m M l d rk x ops σ k2 m2 M2 dc rk2 x0 := ⟨h.lx.keep, h.cx, h.sep, h.nl, h.path, h.sz⟩
theorem CX.step {a : Act} {n c : Int} (h : CX k m M l d rk x ops σ k2 m2 M2 dc rk2 x0) (h2 : LX (k + 1) m M l d' rk' y (Pt ops c (jC a n)) σ') (hd : Doc x (eY x a (jC a n)) y c) (ho : Oth m (· = l) d d' σ σ') (ha : c = 0 → eY x a (jC a n) = jC a n) (s1 : a.name.size ≤ 1000) (s2 : a.value.size ≤ 1000) :
  CX (k + 1) m M l d' rk' y (Pt ops c (jC a n)) σ' k2 m2 M2 dc rk2 x0 := by
 have hnl : ∀ i, Og m2 dc i → ¬ i = l := fun i hi e => Off.not.1 h.nl (e ▸ hi);refine ⟨h2, h.cx.far ho.1 fun i hi => (ho.2 i (h.sep i hi).2 (h.sep i hi).1 (hnl i hi)).2, fun i hi => ⟨(ho.2 i (h.sep i hi).2 (h.sep i hi).1 (hnl i hi)).1, by have := ho.1; have := (h.sep i hi).2; omega⟩, h.nl, ?_, ?_⟩
 ·unfold Pt; split
  ·rename_i hc;rw [ha hc, hc] at hd;exact h.path.snoc hd
  ·rename_i hc;rw [hd.err hc]; exact h.path
 ·unfold Pt; split
  ·intro o ho;rcases List.mem_append.1 ho with ho | ho
   ·exact h.sz o ho
   ·simp only [List.mem_singleton] at ho; subst ho; exact aBo s1 s2 n
  ·exact h.sz
theorem CX.fin (h : CX k m M l d rk x ops σ k2 m2 M2 dc rk2 x0) (hk : k2 + ops.length ≤ 700) :
  ∃ d3 rk3 σ3, Ct Tryz.prog 35 [.ref m2 0, .sl false (ops.map hD)] σ (fun r τ => r = .tup [D.int ops.length, D.int 0] ∧ τ = σ3) ∧ IX (k2 + ops.length) m2 M2 d3 rk3 x σ3 ∧ IX k m M d rk x σ3 := by
 obtain ⟨d3, rk3, σ3, h1, h2, h3⟩ := Qu h.cx ops h.path hk h.sz;refine ⟨d3, rk3, σ3, h1, h2, h.lx.ix.far h3.1 fun i hi => (h3.2 i (h.lx.ix.lt i hi) (Off.not.2 fun g => Off.not.1 (h.sep i g).1 hi) id).2⟩
end Go.Proofs.YtpfmpeaekgdgnaaGreat

