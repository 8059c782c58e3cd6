import Derived.Test.YtpfmpeaekgdgnaaGreatArPerm
import Derived.Test.YtpfmpeaekgdgnaaGreatWkAr18
namespace Go.Proofs.YtpfmpeaekgdgnaaGreat
open Go Go.Vm
set_option linter.all false
set_option maxHeartbeats 1000000
theorem WT.perm {a b : List ND} {rk : Int → Nat} (h : a.Perm b) (hw : WT b rk) : WT a rk := by
 have hm : ∀ n, n ∈ a ↔ n ∈ b := fun n => h.mem_iff;refine ⟨(h.map ND.ID).nodup_iff.2 hw.nd, fun n hn k hk => ?_, fun n hn => ?_, fun n hn => hw.nn n ((hm n).1 hn), fun n hn => hw.kn n ((hm n).1 hn), fun n hn => hw.dec n ((hm n).1 hn)⟩
 ·obtain ⟨c, c1, c2⟩ := hw.kids n ((hm n).1 hn) k hk;exact ⟨c, (hm c).2 c1, c2⟩
 ·rcases hw.par n ((hm n).1 hn) with e | ⟨p, p1, p2⟩
  ·exact .inl e
  ·exact .inr ⟨p, (hm p).2 p1, p2⟩
theorem IP0.perm {k : Nat} {d d' : DS} (h : IP0 k d) (hl : d'.l.Perm d.l) (hm : d'.most = d.most) (hn : d'.next = d.next) : IP0 k d' := by
 have hmm : ∀ n, n ∈ d'.l ↔ n ∈ d.l := fun n => hl.mem_iff;have hlen : d'.es.length = d.es.length := by have := hl.length_eq; rw [nG, nG] at this; exact this
 refine ⟨(hl.map ND.ID).nodup_iff.2 h.nd, by rw [hlen]; exact h.len, by rw [hm]; exact h.most, by rw [hn]; exact h.nx, fun n h1 => by rw [hn]; exact h.lt n ((hmm n).1 h1), fun n h1 => h.sz n ((hmm n).1 h1), fun n h1 => h.st n ((hmm n).1 h1), ?_, fun n h1 => h.kd n ((hmm n).1 h1), by rw [hlen, hm]; exact h.room⟩;obtain ⟨r, r1, r2⟩ := h.rt;exact ⟨r, (hmm r).2 r1, r2⟩
theorem IX.clone {k m M m' M' : Nat} {d d' : DS} {rk : Int → Nat} {x : RD} {σ σ' : List (List D)} (h : IX k m M d rk x σ) (ho : DO m' M' d' σ') (hl : d'.l.Perm d.l) (hm : d'.most = d.most) (hn : d'.next = d.next) : IX k m' M' d' rk x σ' :=
 ⟨⟨ho, h.iv.ip.perm hl hm hn, h.iv.wt.perm hl⟩, by rw [h.xp.most]; exact hm.symm, by rw [h.xp.next]; exact hn.symm, h.xp.l.trans hl.symm, (hl.map ND.ID).nodup_iff.2 h.xp.nd⟩
def pV (es : List EN) : List Nat := es.map EN.t
theorem Tz {d : DS} {ps : List EN} (hnd : (d.es.map EN.t).Nodup) (hp : ps.Nodup) (hs : ∀ e ∈ ps, e ∈ d.es) (ha : ∀ e ∈ d.es, e.t ∈ pV ps) : ps.Perm d.es := by
 have hinj : ∀ a ∈ d.es, ∀ b ∈ d.es, a.t = b.t → a = b := fun a h1 b h2 e => by
  obtain ⟨i, hi, rfl⟩ := List.getElem_of_mem h1;obtain ⟨j, hj, rfl⟩ := List.getElem_of_mem h2;have hpw := List.pairwise_iff_getElem.1 hnd;rcases Nat.lt_trichotomy i j with h | rfl | h
  ·exact absurd e (by have := hpw i j (by simpa using hi) (by simpa using hj) h; simpa using this)
  ·rfl
  ·exact absurd e.symm (by have := hpw j i (by simpa using hj) (by simpa using hi) h; simpa using this)
 have hde : d.es.Nodup := by
  have := hnd;rw [List.nodup_iff_pairwise_ne, List.pairwise_map] at this;rw [List.nodup_iff_pairwise_ne];exact this.imp fun h e => h (by rw [e])
 exact (List.perm_ext_iff_of_nodup hp hde).2 fun e => ⟨hs e, fun he => by
  obtain ⟨p, p1, p2⟩ := List.mem_map.1 (ha e he);rw [← hinj p (hs p p1) e he p2]; exact p1⟩
end Go.Proofs.YtpfmpeaekgdgnaaGreat
namespace Go.Proofs.YtpfmpeaekgdgnaaGreat
open Go Go.Vm
set_option linter.all false
set_option maxHeartbeats 1000000
end Go.Proofs.YtpfmpeaekgdgnaaGreat
namespace Go.Proofs.YtpfmpeaekgdgnaaGreat
open Go Go.Vm
set_option maxRecDepth 20000
set_option linter.all false
set_option maxHeartbeats 8000000
theorem Iv (N cap : Nat) (l : List Int) (rest : List D) (σ : List (List D)) (hl : l.length ≤ 1000000) (hN : σ[N]? = some (l.map D.int ++ rest)) : Ct Tryz.prog 107 [.slo N 0 l.length cap] σ (fun r σ' => r = .xs 1 (l.map D.int) ∧ σ' = σ) := (xF N cap l rest σ hl hN).toX fun _ _ h => h
theorem Gu (o : Nat) (n : ND) (σ : List (List D)) (hq : σ[o]? = some (dC n)) (h1 : n.kids.length ≤ 1000) (h2 : n.classes.length ≤ 1000) (h3 : n.attrs.length ≤ 1000) (h4 : n.styles.length ≤ 1000) : Ct Tryz.prog 57 [.ref o 0] σ (fun r σ' => r = .ref (σ.length + 1) 0 ∧ σ' = σ ++ [[], dC n]) := by
 refine zf (rs:=[.tmp 2]) Tryz.func57 Tryz.ntmps57 Tryz.results57 ?_;simp only [aQ];refine iI o 8 1 (es := n.kids.map D.int) hq rfl (by decide) fun cap rest hcap hcm hrest hes => ?_;simp only [List.length_map, Fk] at hcap hrest ⊢;rw [dQ (f := D.int) (fun _ => rfl)];refine zr ⟨[16],[],[3],[],[]⟩ fun _ _ Z=>?_;simp (disch:=omega)[aS,aN,aH,aE,hq,aI hq,bL hq,bM hq,bV hq,cM hq,bH,aY,bE,bA,bI,bC,bX,bD];and_intros<;>(try omega);apply Z;refine zr ⟨[16],[],[3],[],[]⟩ fun _ _ Z=>?_;simp (disch:=omega)[aS,aN,aH,aE,hq,aI hq,bL hq,bM hq,bV hq,cM hq,bH,aY,bE,bA,bI,bC,bX,bD];and_intros<;>(try omega);apply Z;refine zk [0,2,3] ?_;refine zd ⟨[16],[],[3],[],[]⟩ [.op {},.op {},.op {},.op {rO:=true},.pure,.op {},.op {},.op {},.op {rO:=true},.read,.op {},.op {rO:=true,wO:=true},.op {},.op {rO:=true,wO:=true}] fun all hall _ Z=>?_;refine aO 4 (by simp) fun _ Y=>?_;simp (disch:=omega)[aS,aN,aH,aE,hq,aI hq,bL hq,bM hq,bV hq,cM hq,bH,aY,bE,bA,bI,bC,bX,bD];and_intros<;>(try omega);apply Y;simp only [List.drop];refine dD fun _ Y=>?_;simp (disch:=omega)[aS,aN,aH,aE,hq,aI hq,bL hq,bM hq,bV hq,cM hq,bH,aY,bE,bA,bI,bC,bX,bD];refine Eu (fun _ => (wU n.classes _ (by omega))) ?_;apply Y;refine aO 4 (by simp) fun _ Y=>?_;simp (disch:=omega)[aS,aN,aH,aE,hq,aI hq,bL hq,bM hq,bV hq,cM hq,bH,aY,bE,bA,bI,bC,bX,bD];and_intros<;>(try omega);apply Y;simp only [List.drop];refine dD fun _ Y=>?_;simp (disch:=omega)[aS,aN,aH,aE,hq,aI hq,bL hq,bM hq,bV hq,cM hq,bH,aY,bE,bA,bI,bC,bX,bD];refine ⟨_, Ct.of_le (Iv σ.length cap n.kids rest _ (by omega) (by simp [bH])) (by first | exact cW rfl | (refine cW ?_; simp; done) | (refine cW ?_; simp; rfl) | (simp [fM, pU]; done)) rfl, ?_⟩;apply Y;simp (disch:=omega)[aS,aN,aH,aE,hq,aI hq,bL hq,bM hq,bV hq,cM hq,bH,aY,bE,bA,bI,bC,bX,bD];and_intros<;>(try omega);apply Z;refine zk [0,2,3] ?_;refine zd ⟨[16],[],[3],[],[]⟩ [.op {},.op {},.op {},.op {rO:=true},.pure,.op {},.op {},.op {},.op {rO:=true},.pure,.op {},.op {rO:=true,wO:=true},.op {},.op {rO:=true,wO:=true}] fun all hall _ Z=>?_;refine aO 4 (by simp) fun _ Y=>?_;simp (disch:=omega)[aS,aN,aH,aE,hq,aI hq,bL hq,bM hq,bV hq,cM hq,bH,aY,bE,bA,bI,bC,bX,bD];and_intros<;>(try omega);apply Y;simp only [List.drop];refine dD fun _ Y=>?_;simp (disch:=omega)[aS,aN,aH,aE,hq,aI hq,bL hq,bM hq,bV hq,cM hq,bH,aY,bE,bA,bI,bC,bX,bD];refine Eu (fun _ => (yU n.attrs _ (by omega))) ?_;apply Y;refine aO 4 (by simp) fun _ Y=>?_;simp (disch:=omega)[aS,aN,aH,aE,hq,aI hq,bL hq,bM hq,bV hq,cM hq,bH,aY,bE,bA,bI,bC,bX,bD];and_intros<;>(try omega);apply Y;simp only [List.drop];refine dD fun _ Y=>?_;simp (disch:=omega)[aS,aN,aH,aE,hq,aI hq,bL hq,bM hq,bV hq,cM hq,bH,aY,bE,bA,bI,bC,bX,bD];refine Eu (fun _ => (zU n.styles _ (by omega))) ?_;apply Y;simp (disch:=omega)[aS,aN,aH,aE,hq,aI hq,bL hq,bM hq,bV hq,cM hq,bH,aY,bE,bA,bI,bC,bX,bD];and_intros<;>(try omega);apply Z;refine zk [2,3] ?_;refine zr ⟨[16],[],[3],[],[]⟩ fun _ _ Z=>?_;simp (disch:=omega)[aS,aN,aH,aE,hq,aI hq,bL hq,bM hq,bV hq,cM hq,bH,aY,bE,bA,bI,bC,bX,bD];and_intros<;>(try omega);apply Z;refine lH o 8 1 σ.length n.kids.length cap (n.kids.map D.int) _ (n.kids.map D.int ++ rest) (bL hq _ _) rfl (by simp [bH]) (by have := gN hq; omega) (by decide) (by simp [hrest]; omega) (by simp) hes (by rw [dQ (f := D.int) (fun _ => rfl)]; exact List.prefix_append _ _) ?_;simp only [Fk, bV hq, aY];rw [gW hq];refine tL (σ.length + 1) (dC n) (by simp; rfl) (by simp [leC, D.s1]) ?_;apply aC;simp [aM]
end Go.Proofs.YtpfmpeaekgdgnaaGreat
namespace Go.Proofs.YtpfmpeaekgdgnaaGreat
open Go Go.Vm
set_option maxRecDepth 20000
set_option linter.all false
set_option maxHeartbeats 8000000
def cE (b : Nat) : List EN → Nat → List EN
 | [], _ => []
 | e :: ps, i => ⟨e.n, b + 3 + 2 * i, i⟩ :: cE b ps (i + 1)
theorem Ke (b : Nat) (e : EN) : ∀ (ps : List EN) (i : Nat), cE b (ps ++ [e]) i = cE b ps i ++ [⟨e.n, b + 3 + 2 * (i + ps.length), i + ps.length⟩]
 | [], i => by simp [cE]
 | p :: ps, i => by
  simp only [List.cons_append, cE, Ke b e ps (i + 1), List.length_cons];rw [show i + 1 + ps.length = i + (ps.length + 1) by omega]
theorem aC0 (b : Nat) : ∀ (ps : List EN) (i : Nat), (cE b ps i).map EN.n = ps.map EN.n
 | [], _ => rfl
 | p :: ps, i => by simp [cE, aC0 b ps (i + 1)]
def cD (b : Nat) (d : DS) (ps : List EN) : DS := ⟨d.most, d.next, ps.length, cE b ps 0⟩
def mB (σ : List (List D)) (d : DS) (ps : List EN) : List (List D) := σ ++ ([[], jI σ.length (cD σ.length d ps)] ++ ps.flatMap fun e => [[], dC e.n])
theorem xN (σ : List (List D)) (d : DS) : ∀ ps : List EN, (mB σ d ps).length = σ.length + 2 + 2 * ps.length := by
 have : ∀ ps : List EN, (ps.flatMap fun e => [([] : List D), dC e.n]).length = 2 * ps.length := fun ps => by
  induction ps with
  | nil => rfl
  | cons e ps ih => simp only [List.flatMap_cons, List.length_append, ih, List.length_cons, List.length_nil]; omega
 intro ps;unfold mB;rw [List.length_append, List.length_append, this];simp only [List.length_cons, List.length_nil]; omega
theorem Dv {σ : List (List D)} {m : Nat} {c : List D} (h : σ[m]? = some c) (d : DS) (ps : List EN) : (mB σ d ps)[m]? = some c := oT h
theorem Kf (σ : List (List D)) (d : DS) (ps : List EN) : (mB σ d ps)[σ.length + 1]? = some (jI σ.length (cD σ.length d ps)) := by
 unfold mB;rw [List.getElem?_append_right (by omega), show σ.length + 1 - σ.length = 1 by omega]; rfl
theorem Lb (σ : List (List D)) (d : DS) (ps : List EN) (e : EN) : (mB σ d ps ++ [[], dC e.n]).set (σ.length + 1) (jI σ.length (cD σ.length d (ps ++ [e]))) = mB σ d (ps ++ [e]) := by
 have h1 : σ.length + 1 - σ.length = 1 := by omega
 simp only [mB, List.append_assoc, List.flatMap_append, List.set_append, List.flatMap_cons, List.flatMap_nil];rw [if_neg (by omega), h1];rfl
theorem Ld (σ : List (List D)) (d : DS) (ps : List EN) (e : EN) : (mB σ d ps ++ [[], dC e.n]).set (σ.length + 1) [D.int (cD σ.length d ps).most, D.int (cD σ.length d ps).next, .mp σ.length (.int .i64) (ps.length + 1) ((cE σ.length ps 0).map sA ++ [(.int .i64 e.n.ID, ps.length, .ref ((mB σ d ps).length + 1) 0)])] = mB σ d (ps ++ [e]) := by
 rw [← Lb, xN];simp only [jI, cD, Ke, List.map_append, List.map_cons, List.map_nil, sA, Nat.zero_add, List.length_append, List.length_singleton];rw [show σ.length + 2 + 2 * ps.length + 1 = σ.length + 3 + 2 * ps.length by omega]
theorem aCy (σ : List (List D)) (d : DS) : mB σ d [] = σ ++ [[], [D.int d.most, D.int d.next, .mp σ.length (.int .i64) 0 []]] := rfl
theorem aCu {b : Nat} {d : DS} (hnd : (d.es.map (fun e => e.n.ID)).Nodup) {ps : List EN} {e : EN} (hs : ∀ x ∈ ps, x ∈ d.es) (he : e ∈ d.es) (hn : e ∉ ps) : ∀ q ∈ (cE b ps 0).map sA, q.1 ≠ .int .i64 e.n.ID := by
 intro q hq h;have hm : (cE b ps 0).map (fun x => x.n.ID) = ps.map (fun x => x.n.ID) := by
  have := congrArg (List.map ND.ID) (aC0 b ps 0);simpa [List.map_map, Function.comp_def] using this
 obtain ⟨x, hx, rfl⟩ := List.mem_map.1 hq;simp only [sA, Value.int.injEq, true_and] at h;have : e.n.ID ∈ ps.map (fun x => x.n.ID) := by rw [← hm, ← h]; exact List.mem_map.2 ⟨x, hx, rfl⟩
 obtain ⟨y, hy, hye⟩ := List.mem_map.1 this;rw [List.nodup_iff_pairwise_ne, List.pairwise_map, List.pairwise_iff_getElem] at hnd;obtain ⟨i, hi, rfl⟩ := List.getElem_of_mem (hs y hy);obtain ⟨j, hj, rfl⟩ := List.getElem_of_mem he;rcases Nat.lt_trichotomy i j with h | rfl | h
 ·exact hnd i j hi hj h hye
 ·exact hn hy
 ·exact hnd j i hj hi h hye.symm
theorem fH : pV [] = [] := rfl
theorem dN (ps : List EN) (e : EN) : pV (ps ++ [e]) = pV ps ++ [e.t] := by simp [pV]
theorem Tx {d : DS} {ps : List EN} (h : ∀ (j s : Nat) (key : Value) (dv : D), (d.es.map sA)[j]? = some (key, s, dv) → s ∈ pV ps) : ∀ e ∈ d.es, e.t ∈ pV ps := fun e he => by
 obtain ⟨j, hj, rfl⟩ := List.getElem_of_mem he;exact h j _ _ _ (by rw [List.getElem?_map, List.getElem?_eq_getElem hj]; rfl)
theorem Zh {d : DS} {ps : List EN} {e : EN} (hp : ps.Nodup) (hs : ∀ x ∈ ps, x ∈ d.es) (he : e ∈ d.es) (hn : e ∉ ps) : (ps ++ [e]).Nodup ∧ ∀ x ∈ ps ++ [e], x ∈ d.es :=
 ⟨by rw [List.nodup_append]; exact ⟨hp, by simp, fun a ha b hb => by simp at hb; subst hb; rintro rfl; exact hn ha⟩, fun x hx => by rcases List.mem_append.1 hx with h | h; exact hs x h; simp at h; subst h; exact he⟩
theorem Av {ps : List EN} {e : EN} (h : e.t ∉ pV ps) : e ∉ ps := fun hm => h (List.mem_map.2 ⟨e, hm, rfl⟩)
open Classical in
theorem Tm {d : DS} {ps : List EN} {e : EN} (hp : ps.Nodup) (hs : ∀ x ∈ ps, x ∈ d.es) (he : e ∈ d.es) (hn : e ∉ ps) : ps.length < d.es.length := by
 have := sN (a := ps ++ [e]) (b := d.es) (by rw [List.nodup_append]; exact ⟨hp, by simp, fun a ha b hb => by simp at hb; subst hb; rintro rfl; exact hn ha⟩) (fun x hx => by rcases List.mem_append.1 hx with h | h; exact hs x h; simp at h; subst h; exact he);simp at this; omega
theorem Xr {d : DS} {j s : Nat} {key : Value} {dv : D} (h : (d.es.map sA)[j]? = some (key, s, dv)) : ∃ e ∈ d.es, key = .int .i64 e.n.ID ∧ s = e.t ∧ dv = .ref e.o 0 := by
 rw [List.getElem?_map, Option.map_eq_some_iff] at h;obtain ⟨e, h1, h2⟩ := h;simp only [sA, Prod.mk.injEq] at h2;exact ⟨e, List.mem_of_getElem? h1, h2.1.symm, h2.2.1.symm, h2.2.2.symm⟩
theorem Lt (m M : Nat) (d : DS) (σ : List (List D)) (ho : DO m M d σ) (hID : (d.es.map (fun e => e.n.ID)).Nodup) (hl : d.es.length ≤ 100000) (hsz : ∀ e ∈ d.es, e.n.kids.length ≤ 1000 ∧ e.n.classes.length ≤ 1000 ∧ e.n.attrs.length ≤ 1000 ∧ e.n.styles.length ≤ 1000) : Ct Tryz.prog 24 [.ref m 0] σ (fun r σ' => ∃ ps : List EN, ps.Perm d.es ∧ r = .ref (σ.length + 1) 0 ∧ σ' = mB σ d ps) := by
 refine zf (rs:=[.tmp 2]) Tryz.func24 Tryz.ntmps24 Tryz.results24 ?_;simp only [aQ];have hq := ho.hm;have hqc := Dv hq d;have hbc := Kf σ d;refine zr ⟨[],[],[21],[],[18,18,1000018]⟩ fun _ _ Z=>?_;simp[fH,dN,hq,hqc,hbc,aS,aN,aH,aE,bM];and_intros<;>(try omega);apply Z;refine zd ⟨[],[],[21],[],[18,18,1000018]⟩ [.op {},.op {},.op {},.op {rO:=true},.op {},.op {},.op {},.op {rO:=true},.op {},.op {},.op {},.op {rO:=true},.op {rO:=true},.op {rO:=true,wO:=true},.op {},.op {rO:=true,wO:=true},.op {}] fun all hall _ Z=>?_;refine aO 8 (by simp) fun _ Y=>?_;simp[fH,dN,hq,hqc,hbc,aS,aN,aH,aE,bM];and_intros<;>(try omega);apply Y;simp only [List.drop];refine aO 5 (by simp) fun _ Y=>?_;simp[fH,dN,hq,hqc,hbc,aS,aN,aH,aE,bM];refine ⟨m, 2, d.ck, _, ⟨_, hq, rfl⟩, ?_⟩;simp only [List.length_map];and_intros<;>(try omega);apply Y;simp only [List.drop];simp[fH,dN,hq,hqc,hbc,aS,aN,aH,aE,bM];and_intros<;>(try omega);apply Z;apply aD;refine pN 19 (σ.length + 1) 2 (N := σ.length) (kd := .int .i64) (clock := 0) (kvs := []) (by simp) (by simp [aS, aH] <;> rfl) (by simp <;> rfl) ?_;simp only [aN, List.set_cons_zero, List.set_cons_succ];rw [← aCy σ d];refine zk [0,2,3] ?_;refine zr ⟨[],[],[21],[],[18,18,1000018]⟩ fun _ _ Z=>?_;simp[fH,dN,hq,hqc,hbc,aS,aN,aH,aE,bM];refine ⟨m, 2, d.ck, ⟨_, _, hqc [], rfl⟩, ?_⟩;and_intros<;>(try omega);apply Z;apply aK;refine zk [2,3,26] ?_;refine kF (fun (ps : List EN) => [(26, .d (.mit M d.ck (pV ps) d.ck)), (4, .d (.any)), (5, .d (.any))]) (fun (ps : List EN) => []) (fun (ps : List EN) => mB σ d ps) [4, 5, 26, 27, 28, 29, 30, 31, 32, 33, 34, 35, 36, 37, 38] (fun (ps : List EN) => ps.Nodup ∧ ∀ e ∈ ps, e ∈ d.es) (fun (ps : List EN) => d.es.length - ps.length) ([]) (by simp <;> rfl) ?_ (by simp) (by simp) ?_ ?_
 ·simp [fH]
 ·exact ⟨List.nodup_nil, by simp⟩
 rintro ps ⟨hp, hmem⟩;simp only [List.cons_append, List.nil_append];refine zr ⟨[],[],[21],[],[18,18,1000018]⟩ fun _ _ Z=>?_;refine aF fun _ Y=>?_;simp[fH,dN,hq,hqc,hbc,aS,aN,aH,aE,bM];refine ⟨m, 2, .int .i64, d.ck, d.es.map sA, ⟨⟨_, hqc ps, rfl⟩, rfl⟩, fun hnd => ⟨fun n1=>Y _ ?_, fun j s key dv hj hns=>Y _ ?_⟩⟩
 ·skip
  simp[fH,dN,hq,hqc,hbc,aS,aN,aH,aE,bM];and_intros<;>(try omega);apply Z;apply aD;refine bT (t := false) (by simp) (fun h => by cases h) (fun _ => ?_);apply bN;apply bP;apply bO;apply bG;apply aB;refine zr ⟨[],[],[21],[],[18,18,1000018]⟩ fun _ _ Z=>?_;simp[fH,dN,hq,hqc,hbc,aS,aN,aH,aE,bM];and_intros<;>(try omega);apply Z;apply aC;simp [aM];exact ⟨ps, Tz (by rw [List.map_map] at hnd; exact hnd) hp hmem (Tx n1), rfl⟩
 ·skip
  obtain ⟨e, he, rfl, rfl, rfl⟩ := Xr hj;obtain ⟨z1, z2, z3, z4⟩ := hsz e he;have hqe := Dv (ho.hn e he) d ps;have hlt := Tm hp hmem he (Av hns);simp[fH,dN,hq,hqc,hbc,aS,aN,aH,aE,bM];and_intros<;>(try omega);apply Z;apply aD;refine bT (t := true) (by simp) (fun _ => ?_) (fun h => by cases h);apply aG;apply aB;apply aK;refine zr ⟨[],[],[21],[],[18,18,1000018]⟩ fun _ _ Z=>?_;refine aA 1 fun _ Y=>?_;simp[fH,dN,hq,hqc,hbc,aS,aN,aH,aE,bM];refine ⟨m, 2, .int .i64, d.ck, d.es.map sA, pV ps, e.t, .int .i64 e.n.ID, .ref e.o 0, ⟨⟨_, hqc ps, rfl⟩, rfl, ⟨rfl, rfl⟩, ⟨j, hj⟩, rfl⟩, ?_⟩;and_intros<;>(try omega);apply Y;simp only [List.drop];simp[fH,dN,hq,hqc,hbc,aS,aN,aH,aE,bM];and_intros<;>(try omega);apply Z;refine zk [2,3,4,5,26] ?_;refine ze ⟨[],[],[21],[],[18,18,1000018]⟩ [.op {},.op {},.op {},.op {rO:=true},.op {},.op {},.detA,.op {rO:=true,wO:=true}] fun all hall _ Z=>?_;refine aO 6 (by simp) fun _ Y=>?_;simp[fH,dN,hq,hqc,hbc,aS,aN,aH,aE,bM];and_intros<;>(try omega);apply Y;simp only [List.drop];refine dD fun _ Y=>?_;simp[fH,dN,hq,hqc,hbc,aS,aN,aH,aE,bM];refine zda ([[], dC e.n]) (Gu e.o e.n _ hqe z1 z2 z3 z4) ?_;apply Y;simp[fH,dN,hq,hqc,hbc,aS,aN,aH,aE,bM];refine ⟨σ.length + 1, 2, ps.length, (cE σ.length ps 0).map sA, _, _, ⟨⟨_, oT (hbc ps), rfl⟩, gA _, rfl, .inr ⟨aCu hID hmem he (Av hns), rfl, rfl⟩⟩, ?_⟩;rw [uY (oT (hbc ps))];and_intros<;>(try omega);apply Z;apply aP;refine bB (ps ++ [e]) ?_ ?_ (aW rfl ?_ (by simp) (by simpa using Ld σ d ps e))
  ·exact Zh hp hmem he (Av hns)
  ·simp only [List.length_append, List.length_singleton];omega
  ·simp[fH,dN,hq,hqc,hbc,aS,aN,aH,aE,bM]
end Go.Proofs.YtpfmpeaekgdgnaaGreat

