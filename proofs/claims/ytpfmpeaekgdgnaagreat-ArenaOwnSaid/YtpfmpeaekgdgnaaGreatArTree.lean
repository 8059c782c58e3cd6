import Derived.Test.YtpfmpeaekgdgnaaGreatWkAr10
namespace Go.Proofs.YtpfmpeaekgdgnaaGreat
open Go Go.Vm
set_option linter.all false
structure WT (l : List ND) (rk : Int → Nat) : Prop where
 nd : (l.map ND.ID).Nodup
 kids : ∀ n ∈ l, ∀ k ∈ n.kids, ∃ c ∈ l, c.ID = k ∧ c.parent = n.ID
 par : ∀ n ∈ l, n.parent = -1 ∨ ∃ p ∈ l, p.ID = n.parent ∧ n.ID ∈ p.kids
 nn : ∀ n ∈ l, 0 ≤ n.ID
 kn : ∀ n ∈ l, n.kids.Nodup
 dec : ∀ n ∈ l, ∀ k ∈ n.kids, rk k < rk n.ID
def Dw : Nat → List ND → Int → List Int
 | 0, _, id => [id]
 | f + 1, l, id => id :: (aM l id).kids.flatMap (Dw f l)
def bY (l : List ND) (rk : Int → Nat) (id : Int) : List Int := Dw (rk id) l id
theorem fN {l : List ND} (h : (l.map ND.ID).Nodup) {a b : ND} (ha : a ∈ l) (hb : b ∈ l) (e : a.ID = b.ID) : a = b := by
 obtain ⟨i, hi, rfl⟩ := List.getElem_of_mem ha;obtain ⟨j, hj, rfl⟩ := List.getElem_of_mem hb;have hp := List.pairwise_iff_getElem.1 h;rcases Nat.lt_trichotomy i j with h1 | rfl | h1
 ·exact absurd e (by have := hp i j (by simpa using hi) (by simpa using hj) h1; rwa [List.getElem_map, List.getElem_map] at this)
 ·rfl
 ·exact absurd e.symm (by have := hp j i (by simpa using hj) (by simpa using hi) h1; rwa [List.getElem_map, List.getElem_map] at this)
theorem Dt {l : List ND} (h : (l.map ND.ID).Nodup) {n : ND} (hn : n ∈ l) : fL l n.ID = some n := by
 cases e : fL l n.ID with
 | none =>
  unfold fL at e;rw [List.find?_eq_none] at e;exact absurd (by simp : decide (n.ID = n.ID) = true) (e n hn)
 | some m =>
  obtain ⟨h1, h2⟩ := iG e;rw [fN h h1 hn h2]
theorem gZ {l : List ND} (h : (l.map ND.ID).Nodup) {n : ND} (hn : n ∈ l) : aM l n.ID = n := by unfold aM; rw [Dt h hn]; rfl
theorem eB {l : List ND} {id : Int} (h : dQ l id = true) : ∃ n ∈ l, n.ID = id ∧ aM l id = n := by
 unfold dQ at h;cases hq : fL l id with
 | none => rw [hq] at h; cases h
 | some n => obtain ⟨h1, h2⟩ := iG hq; exact ⟨n, h1, h2, by unfold aM; rw [hq]; rfl⟩
theorem eV {l : List ND} {id : Int} (h : dQ l id = false) : aM l id = gS := by
 unfold aM; unfold dQ at h;cases hq : fL l id with
 | none => rfl
 | some n => rw [hq] at h; cases h
theorem gJ {l : List ND} {id : Int} : dQ l id = true ↔ ∃ n ∈ l, n.ID = id := by
 constructor
 ·intro h; obtain ⟨n, h1, h2, _⟩ := eB h; exact ⟨n, h1, h2⟩
 ·rintro ⟨n, h1, rfl⟩;cases h : dQ l n.ID with
  | true => rfl
  | false => exact absurd rfl (oO h n h1)
def Dec (l : List ND) (rk : Int → Nat) : Prop := ∀ id, ∀ k ∈ (aM l id).kids, rk k < rk id
theorem WT.Dec {l : List ND} {rk : Int → Nat} (h : WT l rk) : Dec l rk := fun id k hk => by
 cases hl : dQ l id with
 | false => rw [eV hl] at hk; cases hk
 | true =>
  obtain ⟨n, h1, h2, h3⟩ := eB hl;rw [h3] at hk;rw [← h2]; exact h.dec n h1 k hk
theorem kR {α β : Type} {l : List α} {f g : α → List β} (h : ∀ a ∈ l, f a = g a) : l.flatMap f = l.flatMap g := by
 induction l with
 | nil => rfl
 | cons a l ih => rw [List.flatMap_cons, List.flatMap_cons, h a (by simp), ih fun b hb => h b (by simp [hb])]
theorem Dec.nil {l : List ND} {rk : Int → Nat} (hd : Dec l rk) {id : Int} (h : rk id = 0) : (aM l id).kids = [] :=
 List.eq_nil_iff_forall_not_mem.2 fun k hk => by have := hd id k hk; omega
theorem Aa {l : List ND} {rk : Int → Nat} (hd : Dec l rk) : ∀ (f g : Nat) (id : Int), rk id ≤ f → rk id ≤ g → Dw f l id = Dw g l id
 | 0, 0, id, _, _ => rfl
 | 0, g + 1, id, h, _ => by simp [Dw, hd.nil (show rk id = 0 by omega)]
 | f + 1, 0, id, _, h => by simp [Dw, hd.nil (show rk id = 0 by omega)]
 | f + 1, g + 1, id, h1, h2 => by
  simp only [Dw];congr 1;exact kR fun k hk => Aa hd f g k (by have := hd id k hk; omega) (by have := hd id k hk; omega)
theorem gG {l : List ND} {rk : Int → Nat} (hd : Dec l rk) (id : Int) : bY l rk id = id :: (aM l id).kids.flatMap (bY l rk) := by
 unfold bY;rw [Aa hd (rk id) (rk id + 1) id (Nat.le_refl _) (by omega)];simp only [Dw];congr 1;exact kR fun k hk => Aa hd (rk id) (rk k) k (by have := hd id k hk; omega) (Nat.le_refl _)
theorem jE {l : List ND} {rk : Int → Nat} (hd : Dec l rk) (id : Int) : id ∈ bY l rk id := by rw [gG hd]; exact List.mem_cons_self
theorem zJ {l : List ND} {rk : Int → Nat} (hd : Dec l rk) {id k i : Int} (hk : k ∈ (aM l id).kids) (hi : i ∈ bY l rk k) : i ∈ bY l rk id := by
 rw [gG hd]; exact List.mem_cons_of_mem _ (List.mem_flatMap.2 ⟨k, hk, hi⟩)
theorem lM {l : List ND} {rk : Int → Nat} (hd : Dec l rk) {id i : Int} (h : i ∈ bY l rk id) : i = id ∨ ∃ k ∈ (aM l id).kids, i ∈ bY l rk k := by
 rw [gG hd] at h;rcases List.mem_cons.1 h with h | h
 ·exact .inl h
 ·obtain ⟨k, h1, h2⟩ := List.mem_flatMap.1 h; exact .inr ⟨k, h1, h2⟩
theorem aAg {l : List ND} {rk : Int → Nat} (hd : Dec l rk) : ∀ (n : Nat) (id : Int), rk id ≤ n → ∀ i ∈ bY l rk id, rk i ≤ rk id := by
 intro n;induction n with
 | zero =>
  intro id hn i hi;rcases lM hd hi with rfl | ⟨k, hk, _⟩
  ·exact Nat.le_refl _
  ·have := hd id k hk; omega
 | succ n ih =>
  intro id hn i hi;rcases lM hd hi with rfl | ⟨k, hk, hik⟩
  ·exact Nat.le_refl _
  ·have h1 := hd id k hk;have := ih k (by omega) i hik;omega
theorem Az {l : List ND} {rk : Int → Nat} (hd : Dec l rk) {id i : Int} (h : i ∈ bY l rk id) : rk i ≤ rk id := aAg hd (rk id) id (Nat.le_refl _) i h
theorem Jw {l : List ND} {rk : Int → Nat} (hd : Dec l rk) {a b : Int} (hab : a ∈ bY l rk b) : ∀ {c : Int}, b ∈ bY l rk c → a ∈ bY l rk c := by
 intro c;generalize hn : rk c = n;induction n using Nat.strongRecOn generalizing c with
 | _ n ih =>
  intro hbc;rcases lM hd hbc with rfl | ⟨k, hk, hik⟩
  ·exact hab
  ·have h1 := hd c k hk;exact zJ hd hk (ih (rk k) (by omega) rfl hik)
variable {l : List ND} {rk : Int → Nat}
theorem mY (h : WT l rk) {n : ND} (hn : n ∈ l) {b : Int} (hb : n.ID ∈ bY l rk b) : n.ID = b ∨ ∃ p ∈ l, p.ID = n.parent ∧ n.ID ∈ p.kids ∧ p.ID ∈ bY l rk b := by
 have hd := h.Dec;generalize hm : rk b = m;induction m using Nat.strongRecOn generalizing b with
 | _ m ih =>
  rcases lM hd hb with e | ⟨k, hk, hik⟩
  ·exact .inl e
  ·have h1 := hd b k hk;have hlb : dQ l b = true := by
    cases hl : dQ l b with
    | true => rfl
    | false => rw [eV hl] at hk; cases hk
   obtain ⟨q, q1, q2, q3⟩ := eB hlb;rw [q3] at hk;rcases ih (rk k) (by omega) hik rfl with e | ⟨p, p1, p2, p3, p4⟩
   ·obtain ⟨c, c1, c2, c3⟩ := h.kids q q1 k hk;have : c = n := fN h.nd c1 hn (by rw [c2, e]);subst this;refine .inr ⟨q, q1, c3.symm, by rw [e]; exact hk, by rw [q2]; exact jE hd b⟩
   ·exact .inr ⟨p, p1, p2, p3, zJ hd (by rw [q3]; exact hk) p4⟩
theorem uP (h : WT l rk) {p : ND} (hp : p ∈ l) {k b : Int} (hk : k ∈ p.kids) (hb : p.ID ∈ bY l rk b) : k ∈ bY l rk b :=
 Jw h.Dec (zJ h.Dec (by rw [gZ h.nd hp]; exact hk) (jE h.Dec k)) hb
theorem Ip (h : WT l rk) {b i : Int} (hb : dQ l b = true) (hi : i ∈ bY l rk b) : dQ l i = true := by
 have hd := h.Dec;generalize hm : rk b = m;induction m using Nat.strongRecOn generalizing b with
 | _ m ih =>
  rcases lM hd hi with rfl | ⟨k, hk, hik⟩
  ·exact hb
  ·have h1 := hd b k hk;obtain ⟨q, q1, q2, q3⟩ := eB hb;rw [q3] at hk;obtain ⟨c, c1, c2, _⟩ := h.kids q q1 k hk;exact ih (rk k) (by omega) (gJ.2 ⟨c, c1, c2⟩) hik rfl
theorem Lp (h : WT l rk) {a b : Int} : ∀ {n : ND}, n ∈ l → n.ID ∈ bY l rk a → n.ID ∈ bY l rk b → a ∈ bY l rk b ∨ b ∈ bY l rk a := by
 intro n;have hd := h.Dec;generalize hm : rk a - rk n.ID = m;induction m using Nat.strongRecOn generalizing n with
 | _ m ih =>
  intro hn ha hb;rcases mY h hn ha with e | ⟨p, p1, p2, p3, p4⟩
  ·left; rw [← e]; exact hb
  ·rcases mY h hn hb with e | ⟨q, q1, q2, q3, q4⟩
   ·right; rw [← e]; exact ha
   ·have : p = q := fN h.nd p1 q1 (by rw [p2, q2]);subst this;have h1 := h.dec p p1 _ p3;have h2 := Az hd p4;exact ih (rk a - rk p.ID) (by omega) rfl p1 p4 q4
theorem Np (h : WT l rk) : ∀ {b : Int}, (bY l rk b).Nodup := by
 intro b;have hd := h.Dec;generalize hm : rk b = m;induction m using Nat.strongRecOn generalizing b with
 | _ m ih =>
  rw [gG hd];refine List.nodup_cons.2 ⟨fun hi => ?_, ?_⟩
  ·obtain ⟨k, hk, hik⟩ := List.mem_flatMap.1 hi;have h1 := hd b k hk;have h2 := Az hd hik;omega
  ·cases hl : dQ l b with
   | false => rw [eV hl]; simp [gS]
   | true =>
    obtain ⟨q, q1, q2, q3⟩ := eB hl;rw [q3];have key : ∀ K : List Int, K.Nodup → (∀ k ∈ K, k ∈ q.kids) → (K.flatMap (bY l rk)).Nodup := by
     intro K;induction K with
     | nil => intro _ _; simp
     | cons k K ihK =>
      intro hK hsub;have hK' := List.nodup_cons.1 hK;rw [List.flatMap_cons, List.nodup_append];have hk1 := h.dec q q1 k (hsub k (by simp));refine ⟨ih (rk k) (by rw [q2] at hk1; omega) rfl, ihK hK'.2 fun j hj => hsub j (by simp [hj]), fun i hi j hj hij => ?_⟩;subst hij;obtain ⟨k2, hk2, hik2⟩ := List.mem_flatMap.1 hj;have hne : k ≠ k2 := fun e => hK'.1 (e ▸ hk2);have hk2q := hsub k2 (by simp [hk2]);obtain ⟨c, c1, c2, c3⟩ := h.kids q q1 k (hsub k (by simp));obtain ⟨c', d1, d2, d3⟩ := h.kids q q1 k2 hk2q;have hisL : dQ l i = true := Ip h (gJ.2 ⟨c, c1, c2⟩) hi;obtain ⟨n, n1, n2, _⟩ := eB hisL;have hk2' := h.dec q q1 k2 hk2q;rcases Lp h n1 (by rw [n2]; exact hi) (by rw [n2]; exact hik2) with hc | hc
      ·rcases mY h c1 (by rw [c2]; exact hc) with e | ⟨p, p1, p2, p3, p4⟩
       ·exact hne (by rw [← c2, e])
       ·have : p = q := fN h.nd p1 q1 (by rw [p2, c3]);subst this;have := Az hd p4;omega
      ·rcases mY h d1 (by rw [d2]; exact hc) with e | ⟨p, p1, p2, p3, p4⟩
       ·exact hne (by rw [← d2, e])
       ·have : p = q := fN h.nd p1 q1 (by rw [p2, d3]);subst this;have := Az hd p4;omega
    exact key q.kids (h.kn q q1) fun k hk => hk
theorem yC {α : Type} [DecidableEq α] : ∀ {a b : List α}, a.Nodup → (∀ x ∈ a, x ∈ b) → a.length ≤ b.length
 | [], b, _, _ => Nat.zero_le _
 | x :: a, b, hn, hs => by
  have hn' := List.nodup_cons.1 hn;have hx := hs x (by simp);have := yC (a := a) (b := b.erase x) hn'.2 fun y hy => (List.mem_erase_of_ne (by rintro rfl; exact hn'.1 hy)).2 (hs y (by simp [hy]));rw [List.length_erase_of_mem hx] at this;have := List.length_pos_of_mem hx;simp only [List.length_cons]; omega
theorem Ii (h : WT l rk) (b : Int) : (bY l rk b).length ≤ l.length + 1 := by
 cases hl : dQ l b with
 | false => rw [gG h.Dec, eV hl]; simp [gS]
 | true =>
  have : (bY l rk b).length ≤ (l.map ND.ID).length := yC (Np h) fun i hi => by
   obtain ⟨n, n1, n2, _⟩ := eB (Ip h hl hi);rw [← n2]; exact List.mem_map.2 ⟨n, n1, rfl⟩
  simpa using Nat.le_succ_of_le this
theorem WT.Tr (h : WT l rk) (hl : l.length ≤ 1000) : Tr l (bY l rk) rk :=
 ⟨gG h.Dec, h.Dec, fun id => by have := Ii h id; omega⟩
end Go.Proofs.YtpfmpeaekgdgnaaGreat

