import Derived.Test.YtighdhfgcdjmeaaGreatDoorWkS24
namespace Go.Proofs.YtighdhfgcdjmeaaGreatDoor
open Go Go.Vm
set_option maxRecDepth 20000
set_option linter.all false
set_option maxHeartbeats 8000000
theorem Ng (l : List EN) (hl : l.length ≤ 9999) : ∀ (n : Nat) (t : TN), n ≤ 1000 → TG t → dJ t ≤ n → Rc l n t
 | 0, t, _, _, h => absurd (dF t) (by omega)
 | n + 1, t, hn, hg, h => fun f σ hx hy => by
  cases hg with
  | mk _ hf hk =>
   have hc := dF t;have hkl : ∀ ks : List TN, ks.length ≤ (ks.map dJ).sum := fun ks => by
    induction ks with
    | nil => exact Nat.le_refl _
    | cons a ks ih => have := dF a; simp only [List.map_cons, List.sum_cons, List.length_cons]; omega
   have hkm : ∀ (ks : List TN) (k : TN), k ∈ ks → dJ k ≤ (ks.map dJ).sum := fun ks => by
    induction ks with
    | nil => intro k hk; cases hk
    | cons a ks ih =>
     intro k hk;rcases List.mem_cons.1 hk with rfl | hk
     ·simp
     ·have := ih k hk; simp only [List.map_cons, List.sum_cons]; omega
   have hl2 := hkl t.kids;have ih : ∀ k ∈ t.kids, Rc l n k := fun k hk' => Ng l hl n k (by omega) (hk k hk') (by have := hkm t.kids k hk'; omega);cases hfd : SI.fnd nE (SI.ofL nE l) t.ID with
   | true => exact On n t l f σ ⟨by have := hf.1.1; omega, hf.1.2⟩ hl (by omega) (by omega) hx hy hfd ih
   | false => exact Qc n t l f σ ⟨by have := hf.1.1; omega, hf.1.2⟩ hl (by omega) (by omega) hx hy hfd ih
def ab (p : Option Int) (x : Int) : Prop := ∀ q, p = some q → q < x
theorem rV (l : List EN) (c : Int) : ∀ k, k ≤ l.length → ((gG (l.take k) c).isSome = true ↔ ∃ i, ∃ h : i < l.length, i < k ∧ l[i].ID = c)
 | 0, _ => by simp [gG]
 | k + 1, hk => by
  have ih := rV l c k (by omega);rw [kD l k c (by omega)];by_cases e : l[k].ID = c
  ·rw [if_pos e];simp only [Option.isSome_some, true_iff];exact ⟨k, by omega, by omega, e⟩
  ·rw [if_neg e, ih];constructor
   ·rintro ⟨i, h, h1, h2⟩; exact ⟨i, h, by omega, h2⟩
   ·rintro ⟨i, h, h1, h2⟩;refine ⟨i, h, ?_, h2⟩;by_cases e2 : i = k
    ·subst e2; exact absurd h2 e
    ·omega
theorem Fh (l : List EN) (c : Int) : (gG l c).isSome = true ↔ ∃ i, ∃ h : i < l.length, l[i].ID = c := by
 have := rV l c l.length (Nat.le_refl _);rw [List.take_length] at this;rw [this];constructor
 ·rintro ⟨i, h, _, h2⟩; exact ⟨i, h, h2⟩
 ·rintro ⟨i, h, h2⟩; exact ⟨i, h, h, h2⟩
def dY (p : Option Int) (l : List EN) : Nat → Option Int
 | 0 => none
 | k + 1 => match l[k]? with
  | some e => if (decide (∀ q ∈ p, q < e.ID) && decide (∀ b ∈ dY p l k, e.ID < b)) = true then some e.ID else dY p l k
  | none => dY p l k
theorem oO (p : Option Int) (l : List EN) (k : Nat) (h : k < l.length) (h1 : ab p l[k].ID) (h2 : ∀ b, dY p l k = some b → l[k].ID < b) : dY p l (k + 1) = some l[k].ID := by
 have a1 : ∀ q ∈ p, q < l[k].ID := fun q hq => h1 q hq;have a2 : ∀ b ∈ dY p l k, l[k].ID < b := fun b hb => h2 b hb;simp only [dY, List.getElem?_eq_getElem h];rw [if_pos];rw [Bool.and_eq_true];exact ⟨decide_eq_true a1, decide_eq_true a2⟩
theorem nI (p : Option Int) (l : List EN) (k : Nat) (h : k < l.length) (h1 : ab p l[k].ID → ∃ b, dY p l k = some b ∧ b ≤ l[k].ID) : dY p l (k + 1) = dY p l k := by
 simp only [dY, List.getElem?_eq_getElem h];rw [if_neg];rw [Bool.and_eq_true];rintro ⟨a1, a2⟩;obtain ⟨b, b1, b2⟩ := h1 (fun q hq => of_decide_eq_true a1 q hq);have := of_decide_eq_true a2 b b1;omega
theorem rT (p : Option Int) (l : List EN) : ∀ k, k ≤ l.length → (∀ c, dY p l k = some c → (∃ i, ∃ h : i < l.length, l[i].ID = c) ∧ ab p c ∧ ∀ i (h : i < l.length), i < k → ab p l[i].ID → c ≤ l[i].ID) ∧ (dY p l k = none → ∀ i (h : i < l.length), i < k → ¬ ab p l[i].ID)
 | 0, _ => ⟨fun c h => (by cases h), fun _ i _ h => (by omega)⟩
 | k + 1, hk => by
  obtain ⟨s1, s2⟩ := rT p l k (by omega);by_cases h1 : ab p l[k].ID
  ·by_cases h2 : ∀ b, dY p l k = some b → l[k].ID < b
   ·rw [oO p l k (by omega) h1 h2];refine ⟨fun c hc => ?_, fun h => (by cases h)⟩;obtain rfl := Option.some.inj hc;refine ⟨⟨k, by omega, rfl⟩, h1, fun i h hi ha => ?_⟩;by_cases e : i = k
    ·subst e; exact Int.le_refl _
    ·cases hn : dY p l k with
     | none => exact absurd ha (s2 hn i h (by omega))
     | some b => have := h2 b hn; have := (s1 b hn).2.2 i h (by omega) ha; omega
   ·obtain ⟨b, hb1, hb2⟩ : ∃ b, dY p l k = some b ∧ b ≤ l[k].ID := by
     cases hn : dY p l k with
     | none => exact absurd (fun b hb => by rw [hn] at hb; cases hb) h2
     | some b => exact ⟨b, rfl, by
       by_cases e : b ≤ l[k].ID
       ·exact e
       ·exact absurd (fun b' hb' => by rw [hn] at hb'; obtain rfl := Option.some.inj hb'; omega) h2⟩
    rw [nI p l k (by omega) fun _ => ⟨b, hb1, hb2⟩];refine ⟨fun c hc => ?_, fun h => (by rw [hb1] at h; cases h)⟩;rw [hb1] at hc; obtain rfl := Option.some.inj hc;obtain ⟨a1, a2, a3⟩ := s1 b hb1;refine ⟨a1, a2, fun i h hi ha => ?_⟩;by_cases e : i = k
    ·subst e; exact hb2
    ·exact a3 i h (by omega) ha
  ·rw [nI p l k (by omega) fun h => absurd h h1];refine ⟨fun c hc => ?_, fun hn i h hi => ?_⟩
   ·obtain ⟨a1, a2, a3⟩ := s1 c hc;refine ⟨a1, a2, fun i h hi ha => ?_⟩;by_cases e : i = k
    ·subst e; exact absurd ha h1
    ·exact a3 i h (by omega) ha
   ·by_cases e : i = k
    ·subst e; exact h1
    ·exact s2 hn i h (by omega)
theorem lN {L : List EN} (hs : SI.Sorted nE L) (i j : Nat) (hj : j < L.length) (h : i < j) : (L[i]'(by omega)).ID < L[j].ID := by
 have := List.pairwise_iff_getElem.1 hs i j (by omega) hj h;simpa [SI.lessI, nE] using this
theorem uQ {L : List EN} (hs : SI.Sorted nE L) (j : Nat) (hj : j < L.length) : SI.fnd nE L L[j].ID = true ∧ lA L L[j].ID = some L[j] := by
 have hp : SI.posL nE L L[j].ID = j := SI.posL_of nE L _ j (by omega) (fun i h hi => by have := lN hs i j hj hi; simpa [SI.lessI, nE] using this) (fun h => by simp [SI.lessI, nE]);have hf : SI.fnd nE L L[j].ID = true := by
  rw [SI.fnd_at nE L _ (by rw [hp]; exact hj)];simp [hp, nE]
 refine ⟨hf, ?_⟩;unfold lA;rw [if_pos hf, hp, List.getElem?_eq_getElem hj]
def An (L : List EN) (j : Nat) : Option Int := match j with | 0 => none | j + 1 => (L[j]?).map EN.ID
theorem Ci {L : List EN} (hs : SI.Sorted nE L) (i j : Nat) (hi : i < L.length) (hj : j ≤ L.length) : ab (An L j) L[i].ID ↔ j ≤ i := by
 cases j with
 | zero => exact ⟨fun _ => Nat.zero_le _, fun _ q hq => by cases hq⟩
 | succ j =>
  unfold ab An;simp only [List.getElem?_eq_getElem (show j < L.length by omega), Option.map_some];constructor
  ·intro h;have h1 := h _ rfl;by_cases e : j + 1 ≤ i
   ·exact e
   ·by_cases e2 : i = j
    ·subst e2; omega
    ·have := lN hs i j (by omega) (by omega); omega
  ·intro h q hq;obtain rfl := Option.some.inj hq;exact lN hs j i hi (by omega)
theorem Fb (l : List EN) (j : Nat) (hj : j ≤ (SI.ofL nE l).length) : dY (An (SI.ofL nE l) j) l l.length = ((SI.ofL nE l)[j]?).map EN.ID := by
 have hs := SI.ofL_sorted nE l;obtain ⟨s1, s2⟩ := rT (An (SI.ofL nE l) j) l l.length (Nat.le_refl _);have hin : ∀ c, (∃ i, ∃ h : i < l.length, l[i].ID = c) ↔ ∃ i, ∃ h : i < (SI.ofL nE l).length, (SI.ofL nE l)[i].ID = c := fun c => by
  rw [← Fh, ← Ai];constructor
  ·intro hf;have hlt := SI.fnd_lt nE hf;refine ⟨_, hlt, ?_⟩;have := SI.fnd_at nE _ c hlt;rw [hf] at this;simpa [nE] using this.symm
  ·rintro ⟨i, h, rfl⟩;exact (uQ hs i h).1
 cases hn : dY (An (SI.ofL nE l) j) l l.length with
 | none =>
  by_cases e : j < (SI.ofL nE l).length
  ·obtain ⟨i, h, he⟩ := (hin (SI.ofL nE l)[j].ID).2 ⟨j, e, rfl⟩;exact absurd (by rw [he]; exact (Ci hs j j e hj).2 (Nat.le_refl _)) (s2 hn i h h)
  ·rw [List.getElem?_eq_none (by omega)]; rfl
 | some c =>
  obtain ⟨a1, a2, a3⟩ := s1 c hn;obtain ⟨i, h, rfl⟩ := (hin c).1 a1;have hji := (Ci hs i j h hj).1 a2;have e : j < (SI.ofL nE l).length := by omega
  obtain ⟨i2, h2, he2⟩ := (hin (SI.ofL nE l)[j].ID).2 ⟨j, e, rfl⟩;have hle := a3 i2 h2 h2 (by rw [he2]; exact (Ci hs j j e hj).2 (Nat.le_refl _));rw [he2] at hle;have hij : i = j := by
   by_cases e3 : i = j
   ·exact e3
   ·have := lN hs j i h (by omega); omega
  subst hij;rw [List.getElem?_eq_getElem h]; rfl
end Go.Proofs.YtighdhfgcdjmeaaGreatDoor
namespace Go.Proofs.YtighdhfgcdjmeaaGreatDoor
open Go Go.Vm
set_option maxRecDepth 20000
set_option linter.all false
set_option maxHeartbeats 8000000
theorem Df (L : List EN) (j : Nat) (h : j ≤ L.length) : (zP L j).length = j := by unfold zP; simp; omega
theorem Bz (L : List EN) (j : Nat) (h0 : ¬ j = 0) (hj : j ≤ L.length) (h : j - 1 < (zP L j).length) (x : Int) : ab (An L j) x ↔ (zP L j)[j - 1].ID < x := by
 obtain ⟨i, rfl⟩ : ∃ i, j = i + 1 := ⟨j - 1, by omega⟩;have e : (zP L (i + 1))[i + 1 - 1] = L[i]'(by omega) := by unfold zP; simp
 rw [e];unfold ab An;simp only [List.getElem?_eq_getElem (show i < L.length by omega), Option.map_some];exact ⟨fun h => h _ rfl, fun h q hq => by obtain rfl := Option.some.inj hq; exact h⟩
theorem tU {o : Option Int} {x : Int} (h : x < o.getD 0) (hs : o.isSome = true) : ∀ b, o = some b → x < b := by rintro b rfl; exact h
theorem sI {o : Option Int} {x : Int} (hs : o.isSome = true) (h : o.getD 0 ≤ x) : ∃ b, o = some b ∧ b ≤ x := by
 cases o with
 | none => cases hs
 | some b => exact ⟨b, rfl, h⟩
theorem Mo (l : List EN) (j : Nat) (σ : List (List D)) (hl : l.length ≤ 999999) (hj : j < (SI.ofL nE l).length) : Ct Tryz.prog 55 [.sl false (l.map bP), D.int (SI.ofL nE l)[j].ID] σ (fun r σ' => r = .tup [oS (SI.ofL nE l)[j].rect, .bool true] ∧ σ' = σ) := by
 have h := Ap l (SI.ofL nE l)[j].ID σ hl;rw [← oT, (uQ (SI.ofL_sorted nE l) j hj).2] at h;exact h
theorem Nr (l : List EN) (σ : List (List D)) (hl : l.length ≤ 99999) : Ct Tryz.prog 35 [.sl false (l.map bP)] σ (fun r σ' => r = .sl true ((SI.ofL nE l).map bP) ∧ σ' = σ) := by
 refine zf (rs:=[.tmp 2]) Tryz.func35 Tryz.ntmps35 Tryz.results35 ?_;simp only [aQ];have hol := SI.ofL_len nE l;refine zr ⟨[2,3,47,54],[],[],[],[]⟩ fun _ _ Z=>?_;simp (disch:=omega);and_intros<;>(try omega);apply Z;refine zr ⟨[2,3,47,54],[],[],[],[]⟩ fun _ _ Z=>?_;simp (disch:=omega);and_intros<;>(try omega);apply Z;apply aI;refine zk [0,2,3] ?_;refine cM (fun (j : Nat) => [(3, .d (.sl true ((zP (SI.ofL nE l) j).map bP))), (4, .d (.any)), (5, .d (.any)), (7, .d (.any)), (8, .d (.any)), (9, .d (.any))]) [2, 3, 4, 5, 7, 8, 9, 11, 12, 13, 14, 15, 16, 17, 18, 19, 20, 21, 22, 23, 24, 25, 26, 27, 28, 29, 30, 31, 32, 33, 34, 35, 36, 37, 38, 39, 40, 41, 42, 43, 44, 45, 46, 47, 48, 49, 50, 51, 52, 53, 54, 55, 56, 57, 58, 59] (fun (j : Nat) => j ≤ (SI.ofL nE l).length) (fun (j : Nat) => (SI.ofL nE l).length - j) (0) (by simp <;> rfl) ?_ ?_ ?_
 ·simp [Ru]
 ·simp
 rintro j hj;simp only [List.cons_append, List.nil_append];have hlj := Df (SI.ofL nE l) j hj;apply aI;refine zr ⟨[2,3,47,54],[],[],[],[]⟩ fun _ _ Z=>?_;simp (disch:=omega)[hlj];and_intros<;>(try omega);apply Z;refine zr ⟨[2,3,47,54],[],[],[],[]⟩ fun _ _ Z=>?_;simp (disch:=omega)[hlj];and_intros<;>(try omega);apply Z;apply aE;refine zr ⟨[2,3,47,54],[],[],[],[]⟩ fun _ _ Z=>?_;simp (disch:=omega)[hlj];and_intros<;>(try omega);apply Z;apply aI;refine zk [0,3,4,5,7,8,9,11,12,13] ?_;refine cM (fun (k : Nat) => [(13, .d (.v (.int .i64 (k : Int)))), (4, .d (.bool (dY (An (SI.ofL nE l) j) l k).isSome)), (5, .d (.int ((dY (An (SI.ofL nE l) j) l k).getD 0))), (7, .d (.any))]) [4, 5, 7, 13, 14, 15, 16, 17, 18, 19, 20, 21, 22, 23, 24, 25, 26, 27, 28, 29, 30, 31, 32, 33, 34, 35, 36, 37, 38, 39, 40, 41, 42, 43, 44] (fun (k : Nat) => k ≤ l.length) (fun (k : Nat) => l.length - k) (0) (by simp <;> rfl) ?_ ?_ ?_
 ·simp [dY]
 ·simp
 rintro k hk;simp only [List.cons_append, List.nil_append];refine zr ⟨[2,3,47,54],[],[],[],[]⟩ fun _ _ Z=>?_;simp (disch:=omega)[hlj];and_intros<;>(try omega);apply Z;apply aE;refine zi ?_;refine ⟨fun c1=>?_,fun c1=>?_⟩
 ·try simp at c1
  apply aG;apply aC;apply aE;apply aI;refine zr ⟨[2,3,47,54],[],[],[],[]⟩ fun _ _ Z=>?_;simp (disch:=omega)[hlj];and_intros<;>(try omega);apply Z;refine zk [0,3,4,5,7,8,9,11,12,13] ?_;refine zd ⟨[2,3,47,54],[],[],[],[]⟩ [.op {},.op {},.op {},.op {},.op {},.op {rL:=true},.op {},.op {},.op {},.op {},.op {},.op {},.op {},.op {},.op {},.op {},.op {},.op {},.op {},.op {},.op {rL:=true},.op {},.op {},.op {},.op {}] fun all hall _ Z=>?_;have ga3 : bA all 3 = some 20 := hall 3;have ga15 : bA all 15 = some 32 := hall 15;have ga18 : bA all 18 = some 35 := hall 18;refine aL 4 (by simp) fun _ Y=>?_;simp (disch:=omega)[ga3,ga15,ga18,hlj];and_intros<;>(try omega);apply Y;simp only [List.drop];refine jE 20 (by simp <;> rfl) ?_;refine ⟨fun g2 => ?_, fun g2 => ?_⟩
  ·try simp at g2
   refine aL 8 (by simp) fun _ Y=>?_;simp (disch:=omega)[ga3,ga15,ga18,hlj];and_intros<;>(try omega);apply Y;simp only [List.drop];refine aL 4 (by simp) fun _ Y=>?_;simp (disch:=omega)[ga3,ga15,ga18,hlj];and_intros<;>(try omega);apply Y;simp only [List.drop];refine aL 3 (by simp) fun _ Y=>?_;simp (disch:=omega)[ga3,ga15,ga18,hlj];and_intros<;>(try omega);apply Y;simp only [List.drop];refine jE 35 (by simp <;> rfl) ?_;refine ⟨fun g3 => ?_, fun g3 => ?_⟩
   ·try simp at g3
    simp (disch:=omega)[ga3,ga15,ga18,hlj];and_intros<;>(try omega);apply Z;refine cI (t := true) (by simp) (fun _ => ?_) (fun h => by cases h);refine zk [0,3,4,5,7,8,9,11,12,13] ?_;refine zr ⟨[2,3,47,54],[],[],[],[]⟩ fun _ _ Z=>?_;simp (disch:=omega)[hlj];and_intros<;>(try omega);apply Z;refine zt ⟨[2,3,47,54],[],[],[],[]⟩ fun _ _ Z=>?_;simp (disch:=omega)[hlj];and_intros<;>(try omega);apply Z;apply aN;apply aC;refine zk [0,3,4,5,7,8,9,11,12,13] ?_;refine zt ⟨[2,3,47,54],[],[],[],[]⟩ fun _ _ Z=>?_;simp (disch:=omega)[hlj];and_intros<;>(try omega);apply Z;refine bJ (k + 1) ?_ ?_ (aV rfl ?_ (by simp) (by simp))
    ·omega
    ·try dsimp only
     omega
    ·have hz := oO (An (SI.ofL nE l) j) l k c1 (by rw [g2]; intro q hq; cases hq) (by rw [g3]; intro b hb; cases hb);simp [qH, hz]
   ·try simp at g3
    simp (disch:=omega)[ga3,ga15,ga18,hlj];and_intros<;>(try omega);apply Z;refine zi ?_;refine ⟨fun c4=>?_,fun c4=>?_⟩
    ·try simp at c4
     refine zk [0,3,4,5,7,8,9,11,12,13] ?_;refine zr ⟨[2,3,47,54],[],[],[],[]⟩ fun _ _ Z=>?_;simp (disch:=omega)[hlj];and_intros<;>(try omega);apply Z;refine zt ⟨[2,3,47,54],[],[],[],[]⟩ fun _ _ Z=>?_;simp (disch:=omega)[hlj];and_intros<;>(try omega);apply Z;apply aN;apply aC;refine zk [0,3,4,5,7,8,9,11,12,13] ?_;refine zt ⟨[2,3,47,54],[],[],[],[]⟩ fun _ _ Z=>?_;simp (disch:=omega)[hlj];and_intros<;>(try omega);apply Z;refine bJ (k + 1) ?_ ?_ (aV rfl ?_ (by simp) (by simp))
     ·omega
     ·try dsimp only
      omega
     ·have hz := oO (An (SI.ofL nE l) j) l k c1 (by rw [g2]; intro q hq; cases hq) (tU c4 g3);simp [qH, hz]
    ·try simp at c4
     apply aG;apply aN;apply aC;refine zk [0,3,4,5,7,8,9,11,12,13] ?_;refine zt ⟨[2,3,47,54],[],[],[],[]⟩ fun _ _ Z=>?_;simp (disch:=omega)[hlj];and_intros<;>(try omega);apply Z;refine bJ (k + 1) ?_ ?_ (aV rfl ?_ (by simp) (by simp))
     ·omega
     ·try dsimp only
      omega
     ·have hz := nI (An (SI.ofL nE l) j) l k c1 (fun _ => sI g3 c4);simp [qH, hz]
  ·try simp at g2
   refine aL 8 (by simp) fun _ Y=>?_;simp (disch:=omega)[ga3,ga15,ga18,hlj];and_intros<;>(try omega);apply Y;simp only [List.drop];refine aL 4 (by simp) fun _ Y=>?_;simp (disch:=omega)[ga3,ga15,ga18,hlj];and_intros<;>(try omega);apply Y;simp only [List.drop];refine jE 32 (by simp <;> rfl) ?_;refine ⟨fun g5 => ?_, fun g5 => ?_⟩
   ·try simp at g5
    refine aL 3 (by simp) fun _ Y=>?_;simp (disch:=omega)[ga3,ga15,ga18,hlj];and_intros<;>(try omega);apply Y;simp only [List.drop];refine jE 35 (by simp <;> rfl) ?_;refine ⟨fun g6 => ?_, fun g6 => ?_⟩
    ·try simp at g6
     simp (disch:=omega)[ga3,ga15,ga18,hlj];and_intros<;>(try omega);apply Z;refine cI (t := true) (by simp) (fun _ => ?_) (fun h => by cases h);refine zk [0,3,4,5,7,8,9,11,12,13] ?_;refine zr ⟨[2,3,47,54],[],[],[],[]⟩ fun _ _ Z=>?_;simp (disch:=omega)[hlj];and_intros<;>(try omega);apply Z;refine zt ⟨[2,3,47,54],[],[],[],[]⟩ fun _ _ Z=>?_;simp (disch:=omega)[hlj];and_intros<;>(try omega);apply Z;apply aN;apply aC;refine zk [0,3,4,5,7,8,9,11,12,13] ?_;refine zt ⟨[2,3,47,54],[],[],[],[]⟩ fun _ _ Z=>?_;simp (disch:=omega)[hlj];and_intros<;>(try omega);apply Z;refine bJ (k + 1) ?_ ?_ (aV rfl ?_ (by simp) (by simp))
     ·omega
     ·try dsimp only
      omega
     ·have hz := oO (An (SI.ofL nE l) j) l k c1 ((Bz (SI.ofL nE l) j g2 hj (by omega) _).2 g5) (by rw [g6]; intro b hb; cases hb);simp [qH, hz]
    ·try simp at g6
     simp (disch:=omega)[ga3,ga15,ga18,hlj];and_intros<;>(try omega);apply Z;refine zi ?_;refine ⟨fun c7=>?_,fun c7=>?_⟩
     ·try simp at c7
      refine zk [0,3,4,5,7,8,9,11,12,13] ?_;refine zr ⟨[2,3,47,54],[],[],[],[]⟩ fun _ _ Z=>?_;simp (disch:=omega)[hlj];and_intros<;>(try omega);apply Z;refine zt ⟨[2,3,47,54],[],[],[],[]⟩ fun _ _ Z=>?_;simp (disch:=omega)[hlj];and_intros<;>(try omega);apply Z;apply aN;apply aC;refine zk [0,3,4,5,7,8,9,11,12,13] ?_;refine zt ⟨[2,3,47,54],[],[],[],[]⟩ fun _ _ Z=>?_;simp (disch:=omega)[hlj];and_intros<;>(try omega);apply Z;refine bJ (k + 1) ?_ ?_ (aV rfl ?_ (by simp) (by simp))
      ·omega
      ·try dsimp only
       omega
      ·have hz := oO (An (SI.ofL nE l) j) l k c1 ((Bz (SI.ofL nE l) j g2 hj (by omega) _).2 g5) (tU c7 g6);simp [qH, hz]
     ·try simp at c7
      apply aG;apply aN;apply aC;refine zk [0,3,4,5,7,8,9,11,12,13] ?_;refine zt ⟨[2,3,47,54],[],[],[],[]⟩ fun _ _ Z=>?_;simp (disch:=omega)[hlj];and_intros<;>(try omega);apply Z;refine bJ (k + 1) ?_ ?_ (aV rfl ?_ (by simp) (by simp))
      ·omega
      ·try dsimp only
       omega
      ·have hz := nI (An (SI.ofL nE l) j) l k c1 (fun _ => sI g6 c7);simp [qH, hz]
   ·try simp at g5
    refine aL 8 (by simp) fun _ Y=>?_;simp (disch:=omega)[ga3,ga15,ga18,hlj];and_intros<;>(try omega);apply Y;simp only [List.drop];simp (disch:=omega)[ga3,ga15,ga18,hlj];and_intros<;>(try omega);apply Z;refine cI (t := false) (by simp) (fun h => by cases h) (fun _ => ?_);apply aG;apply aN;apply aC;refine zk [0,3,4,5,7,8,9,11,12,13] ?_;refine zt ⟨[2,3,47,54],[],[],[],[]⟩ fun _ _ Z=>?_;simp (disch:=omega)[hlj];and_intros<;>(try omega);apply Z;refine bJ (k + 1) ?_ ?_ (aV rfl ?_ (by simp) (by simp))
    ·omega
    ·try dsimp only
     omega
    ·have hz := nI (An (SI.ofL nE l) j) l k c1 (fun h => absurd ((Bz (SI.ofL nE l) j g2 hj (by omega) _).1 h) (by omega));simp [qH, hz]
 ·try simp at c1
  obtain rfl : k = l.length := by omega
  apply bD;apply bE;apply bG;apply aY;apply aC;apply aE;refine zr ⟨[2,3,47,54],[],[],[],[]⟩ fun _ _ Z=>?_;simp (disch:=omega)[hlj];and_intros<;>(try omega);apply Z;refine zi ?_;refine ⟨fun c8=>?_,fun c8=>?_⟩
  ·try simp at c8
   have hne := Fb l j hj;rw [c8] at hne;have hjl : ¬ j < (SI.ofL nE l).length := fun e => by rw [List.getElem?_eq_getElem e] at hne; cases hne
   have hja : zP (SI.ofL nE l) j = SI.ofL nE l := List.take_of_length_le (by omega);refine zk [0,3,4,5,7,8,9] ?_;refine zr ⟨[2,3,47,54],[],[],[],[]⟩ fun _ _ Z=>?_;simp (disch:=omega)[hlj,hja];and_intros<;>(try omega);apply Z;apply aF;apply bK;apply fR;apply oI;apply fR;simp [aS]
  ·try simp at c8
   have hne := Fb l j hj;have hjl : j < (SI.ofL nE l).length := by
    by_cases e : j < (SI.ofL nE l).length
    ·exact e
    ·rw [List.getElem?_eq_none (by omega)] at hne; rw [hne] at c8; cases c8
   have hnv : (dY (An (SI.ofL nE l) j) l l.length).getD 0 = (SI.ofL nE l)[j].ID := by rw [hne, List.getElem?_eq_getElem hjl]; rfl
   apply aG;apply aC;refine zk [0,3,4,5,7,8,9] ?_;refine zr ⟨[2,3,47,54],[],[],[],[]⟩ fun _ _ Z=>?_;refine aB 2 fun _ Y=>?_;simp (disch:=omega)[hlj,hnv];and_intros<;>(try omega);apply Y;simp only [List.drop];refine aH fun _ Y=>?_;simp (disch:=omega)[hlj,hnv];refine dW (Mo l j _ (by omega) hjl) ?_;apply Y;simp (disch:=omega)[hlj,hnv];and_intros<;>(try omega);apply Z;refine zk [0,3,4,5,7,8,9] ?_;refine zt ⟨[2,3,47,54],[],[],[],[]⟩ fun _ _ Z=>?_;simp (disch:=omega)[hlj,hnv];and_intros<;>(try omega);apply Z;apply aN;refine bJ (j + 1) ?_ ?_ (aV rfl ?_ (by simp) (by simp))
   ·omega
   ·try dsimp only
    omega
   ·simp (disch:=omega)[yO,hlj,hnv]
end Go.Proofs.YtighdhfgcdjmeaaGreatDoor
namespace Go.Proofs.YtighdhfgcdjmeaaGreatDoor
open Go Go.Vm
set_option maxRecDepth 20000
set_option linter.all false
set_option maxHeartbeats 8000000
theorem Nl (n : Nat) (t : TN) (l : List EN) (σ : List (List D)) (hn : n ≤ 1000) (hgt : TG t) (hct : dJ t ≤ n) (hl : l.length ≤ 9999) : Ct Tryz.prog 15 [gF t, .sl false (l.map bP)] σ (fun r σ' => r = .sl true ((qF l n t).map bP) ∧ σ' = σ) := by
 refine zf (rs:=[.tmp 4]) Tryz.func15 Tryz.ntmps15 Tryz.results15 ?_;simp only [aQ];have hsl := fM (SI.ofL nE l) n t ⟨[], []⟩;refine zr ⟨[4],[],[],[],[]⟩ fun _ _ Z=>?_;simp;and_intros<;>(try omega);apply Z;refine zd ⟨[4],[],[],[],[]⟩ [.op {},.op {},.op {},.op {rL:=true},.op {},.pure,.op {},.pure,.op {}] fun all hall _ Z=>?_;refine aL 5 (by simp) fun _ Y=>?_;simp;and_intros<;>(try omega);apply Y;simp only [List.drop];refine bH fun _ Y=>?_;simp;refine nG (fun _ => (Ng l hl n t hn hgt hct ⟨[], []⟩ _ (by simp; omega) rfl)) ?_;apply Y;refine aL 1 (by simp) fun _ Y=>?_;simp;and_intros<;>(try omega);apply Y;simp only [List.drop];refine bH fun _ Y=>?_;simp;refine nG (fun _ => (Nr (l ++ dU (SI.ofL nE l) n t ⟨[], []⟩) _ (by simp; omega))) ?_;apply Y;simp;and_intros<;>(try omega);apply Z;apply aF;simp [aS, qF]
theorem Vl (l : List EN) (σ : List (List D)) (hl : l.length ≤ 999999) : Ct Tryz.prog 13 [.sl false (l.map bP), .sl false (l.map bP)] σ (fun r σ' => r = .bool true ∧ σ' = σ) := by
 refine zf (rs:=[.tmp 4]) Tryz.func13 Tryz.ntmps13 Tryz.results13 ?_;simp only [aQ];refine bV fun _ _ Z=>?_;simp (disch:=omega);and_intros<;>(try omega);apply Z;apply aE;refine bV fun _ _ Z=>?_;simp (disch:=omega);and_intros<;>(try omega);apply Z;refine zi ?_;refine ⟨fun c1=>?_,fun c1=>?_⟩
 ·simp at c1
 ·try simp at c1
  apply aG;apply aC;apply aE;refine bV fun _ _ Z=>?_;simp (disch:=omega);and_intros<;>(try omega);apply Z;apply aI;refine zk [0,1,4,12,13] ?_;refine cM (fun (k : Nat) => [(13, .d (.v (.int .i64 (k : Int)))), (5, .d (.any))]) [4, 5, 13, 14, 15, 16, 17, 18, 19, 20, 21, 22, 23, 24, 25, 26, 27, 28, 29, 30, 31, 32, 33, 34, 35, 36, 37, 38, 39, 40] (fun (k : Nat) => k ≤ l.length) (fun (k : Nat) => l.length - k) (0) (by simp <;> rfl) ?_ ?_ ?_
  ·simp
  ·simp
  rintro k hk;simp only [List.cons_append, List.nil_append];refine bV fun _ _ Z=>?_;simp (disch:=omega);and_intros<;>(try omega);apply Z;apply aE;refine zi ?_;refine ⟨fun c2=>?_,fun c2=>?_⟩
  ·try simp at c2
   apply aG;apply aC;apply aE;apply aI;refine bV fun _ _ Z=>?_;simp (disch:=omega);and_intros<;>(try omega);apply Z;refine zk [0,1,5,12,13] ?_;refine zd ⟨[],[],[],[],[]⟩ [.op {},.op {},.op {},.op {},.op {},.op {},.op {},.op {},.op {},.op {},.op {},.op {},.op {},.op {},.op {},.op {},.op {},.op {},.op {},.op {},.op {},.op {},.op {},.op {}] fun all hall _ Z=>?_;have ga11 : bA all 11 = some 27 := hall 11;refine aL 8 (by simp) fun _ Y=>?_;simp (disch:=omega)[ga11];and_intros<;>(try omega);apply Y;simp only [List.drop];refine aL 4 (by simp) fun _ Y=>?_;simp (disch:=omega)[ga11];and_intros<;>(try omega);apply Y;simp only [List.drop];refine jE 27 (by simp <;> rfl) ?_;refine ⟨fun g3 => ?_, fun g3 => ?_⟩
   ·simp at g3
   ·try simp at g3
    refine aL 8 (by simp) fun _ Y=>?_;simp (disch:=omega)[ga11];and_intros<;>(try omega);apply Y;simp only [List.drop];simp (disch:=omega)[ga11];and_intros<;>(try omega);apply Z;refine zi ?_;refine ⟨fun c4=>?_,fun c4=>?_⟩
    ·simp at c4
    ·try simp at c4
     apply aG;apply aN;apply aC;refine zk [0,1,5,12,13] ?_;refine Fe fun _ _ Z=>?_;simp (disch:=omega);and_intros<;>(try omega);apply Z;refine bJ (k + 1) ?_ ?_ (aV rfl ?_ (by simp) (by simp))
     ·omega
     ·try dsimp only
      omega
     ·simp (disch:=omega)
  ·try simp at c2
   apply bD;apply bE;apply bG;apply aY;apply aC;refine bV fun _ _ Z=>?_;simp (disch:=omega);and_intros<;>(try omega);apply Z;apply aF;simp [aS]
theorem wR (l : List FL) (e : List EN) (σ : List (List D)) (hl : l.length ≤ 9223372036854775807) (hf : ∀ f ∈ l, FO f) (he : e.length ≤ 9223372036854775807) : Ct Tryz.prog 4 [.sl false (l.map xN), .sl false (e.map bP)] σ (fun r σ' => r = .bool true) := by
 refine zf (rs:=[.tmp 4]) Tryz.func4 Tryz.ntmps4 Tryz.results4 ?_;simp only [aQ];refine bV fun _ _ Z=>?_;simp;and_intros<;>(try omega);apply Z;apply aE;refine bV fun _ _ Z=>?_;refine aH fun _ Y=>?_;simp;refine dW (Jf _) ?_;apply Y;simp;and_intros<;>(try omega);apply Z;refine zi ?_;refine ⟨fun c1=>?_,fun c1=>?_⟩
 ·simp at c1
 ·try simp at c1
  apply aG;apply aC;refine bV fun _ _ Z=>?_;refine aB 1 fun _ Y=>?_;simp;and_intros<;>(try omega);apply Y;simp only [List.drop];refine aH fun _ Y=>?_;simp;refine Vd (Ql l 20 _ (by omega) hl hf) ?_;rintro _ τ1 ⟨⟨v, hr1, hv, hvc⟩, hτ1⟩;subst hr1 hτ1;apply Y;refine aH fun _ Y=>?_;simp;refine Vd (Qn hv 1 _ (by omega)) ?_;rintro _ τ2 ⟨⟨t, hr2, hg2, hcc⟩, hτ2⟩;subst hr2 hτ2;have hc : dJ t ≤ 25 := by omega
  apply Y;simp;and_intros<;>(try omega);apply Z;refine bV fun _ _ Z=>?_;refine aB 1 fun _ Y=>?_;simp;and_intros<;>(try omega);apply Y;simp only [List.drop];refine aH fun _ Y=>?_;simp;refine dW (Sx e 20 _ he (by omega)) ?_;have hx : (e.take 20).length ≤ 9999 := by simp; omega
  generalize e.take 20 = x at hx ⊢;have hsx : (qF x 25 t).length ≤ 999999 := by have h1 := SI.ofL_len nE (x ++ dU (SI.ofL nE x) 25 t ⟨[], []⟩); have h2 := fM (SI.ofL nE x) 25 t ⟨[], []⟩; simp only [List.length_append] at h1; unfold qF; omega
  apply Y;simp;and_intros<;>(try omega);apply Z;refine zk [4,5,7,8] ?_;refine zd ⟨[],[],[],[],[]⟩ [.op {rL:=true},.op {},.pure,.op {rL:=true},.pure,.op {},.pure,.pure,.op {}] fun all hall _ Z=>?_;refine aL 2 (by simp) fun _ Y=>?_;simp;and_intros<;>(try omega);apply Y;simp only [List.drop];refine bH fun _ Y=>?_;simp;refine nG (fun _ => (Fq 25 t x _ (by omega) hg2 hc hx)) ?_;apply Y;refine aL 1 (by simp) fun _ Y=>?_;simp;and_intros<;>(try omega);apply Y;simp only [List.drop];refine bH fun _ Y=>?_;simp;refine nG (fun _ => (Eb 25 t (by omega) hg2 hc _)) ?_;apply Y;refine aL 1 (by simp) fun _ Y=>?_;simp;and_intros<;>(try omega);apply Y;simp only [List.drop];refine bH fun _ Y=>?_;simp;refine nG (fun _ => (Nl 25 t x _ (by omega) hg2 hc hx)) ?_;apply Y;refine bH fun _ Y=>?_;simp;refine nG (fun _ => (Vl (qF x 25 t) _ hsx)) ?_;apply Y;simp;and_intros<;>(try omega);apply Z;apply aF;simp [aS]
end Go.Proofs.YtighdhfgcdjmeaaGreatDoor

