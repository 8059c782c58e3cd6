import Derived.Test.YtpfmpeaekgdgnaaGreatWkTr2
import Derived.Test.YtpfmpeaekgdgnaaGreatArAw
namespace Go.Proofs.YtpfmpeaekgdgnaaGreat
open Go Go.Vm
set_option linter.all false
set_option maxHeartbeats 1000000
structure LX (k m M l : Nat) (d : DS) (rk : Int → Nat) (x : RD) (ops : List TOp) (σ : List (List D)) : Prop where
 ix : IX k m M d rk x σ
 off : Off m d l
 at_ : σ[l]? = some (eN m ops)
 len : ops.length ≤ k
variable {k m M l : Nat} {d d' : DS} {rk rk' : Int → Nat} {σ σ2 : List (List D)} {x y : RD} {ops : List TOp}
theorem LX.step (h : LX k m M l d rk x ops σ) (hi : IX (k + 1) m M d' rk' y σ2) (fr : FrO m d d' σ σ2) : σ2[l]? = some (eN m ops) ∧ ∀ c o, LX (k + 1) m M l d' rk' y (Pt ops c o) (nt l m ops c o σ2) := by
 obtain ⟨o1, o2⟩ := h.off.step (gR h.at_) fr;rw [h.at_] at o2;refine ⟨o2, fun c o => ⟨?_, o1, aBq o2, by have := Zu ops c o; have := h.len; omega⟩⟩;unfold nt; split
 ·exact hi.put o1 _
 ·exact hi
theorem LX.keep (h : LX k m M l d rk x ops σ) : LX (k + 1) m M l d rk x ops σ := ⟨h.ix.mono, h.off, h.at_, by have := h.len; omega⟩
def Oth (m : Nat) (L : Nat → Prop) (d d' : DS) (σ σ' : List (List D)) : Prop := σ.length ≤ σ'.length ∧ ∀ i, i < σ.length → Off m d i → ¬ L i → Off m d' i ∧ σ'[i]? = σ[i]?
theorem FrO.oth (fr : FrO m d d' σ σ2) (L : Nat → Prop) : Oth m L d d' σ σ2 := ⟨fr.len, fun _ hi ho _ => ho.step hi fr⟩
theorem FrO.othN (fr : FrO m d d' σ σ2) (l : Nat) (ops : List TOp) (c : Int) (o : TOp) : Oth m (· = l) d d' σ (nt l m ops c o σ2) := by
 refine ⟨?_, fun i hi ho hl => ?_⟩
 ·unfold nt; split
  ·rw [List.length_set]; exact fr.len
  ·exact fr.len
 ·obtain ⟨h1, h2⟩ := ho.step hi fr;refine ⟨h1, ?_⟩;unfold nt; split
  ·rw [List.getElem?_set_ne (fun e => hl e.symm)]; exact h2
  ·exact h2
theorem Oth.refl (m : Nat) (L : Nat → Prop) (d : DS) (σ : List (List D)) : Oth m L d d σ σ := ⟨Nat.le_refl _, fun _ _ h _ => ⟨h, rfl⟩⟩
theorem Oth.trans {L : Nat → Prop} {d1 d2 d3 : DS} {s1 s2 s3 : List (List D)} (h : Oth m L d1 d2 s1 s2) (g : Oth m L d2 d3 s2 s3) : Oth m L d1 d3 s1 s3 :=
 ⟨Nat.le_trans h.1 g.1, fun i hi ho hl => by
  obtain ⟨a, b⟩ := h.2 i hi ho hl;obtain ⟨a', b'⟩ := g.2 i (by have := h.1; omega) a hl;exact ⟨a', by rw [b', b]⟩⟩
def BelOf (l : List ND) (b : Int → List Int) : Prop := ∃ rk, Dec l rk ∧ b = bW l rk
theorem BelOf.uniq {l : List ND} {b b' : Int → List Int} (h : BelOf l b) (h' : BelOf l b') : b = b' := by
 obtain ⟨r, h1, rfl⟩ := h;obtain ⟨r', h2, rfl⟩ := h';have : ∀ n id, r id ≤ n → bW l r id = bW l r' id := by
  intro n;induction n with
  | zero =>
   intro id hid;rw [fF h1, fF h2];have : (aL l id).kids = [] := h1.nil (by omega);rw [this]; rfl
  | succ n ih =>
   intro id hid;rw [fF h1, fF h2];congr 1;exact gO fun k hk => ih k (by have := h1 id k hk; omega)
 funext id;exact this (r id) id (Nat.le_refl _)
def aGi (x : RD) (b b2 : Int → List Int) (o : TOp) (y : RD) (n c : Int) : Prop := ((o.kind = 1 ∨ o.kind = 2) → ¬ x.next = o.a → y = x ∧ c = 1) ∧ (o.kind = 1 → x.next = o.a → addX x 2 o.name = (y, n, c)) ∧ (o.kind = 2 → x.next = o.a → addX x 1 o.value = (y, n, c)) ∧ (o.kind = 3 → insX x b o.a o.b o.c = (y, c)) ∧ (o.kind = 4 → movX x o.a o.b = (y, c)) ∧
  (o.kind = 5 → remX x b2 o.a = (y, c)) ∧ (o.kind < 1 ∨ 13 < o.kind → y = x ∧ c = 14) ∧ (6 ≤ o.kind → o.kind ≤ 13 → setX x (o.kind - 6) o.a o.name o.value o.c = (y, c))
def Doc (x : RD) (o : TOp) (y : RD) (c : Int) : Prop := ∃ b b2 n, BelOf x.l b ∧ BelOf (remP x.l o.a) b2 ∧ aGi x b b2 o y n c
theorem pr2 {α β : Type} {p : α × β} {a a' : α} {b b' : β} (h : p = (a, b)) (h' : p = (a', b')) : a = a' ∧ b = b' := by rw [h] at h'; cases h'; exact ⟨rfl, rfl⟩
theorem Doc.uniq {x y y' : RD} {o : TOp} {c c' : Int} (h : Doc x o y c) (h' : Doc x o y' c') : y = y' ∧ c = c' := by
 obtain ⟨b, b2, n, h1, h2, h⟩ := h;obtain ⟨b', b2', n', h1', h2', h'⟩ := h';obtain rfl := h1.uniq h1';obtain rfl := h2.uniq h2';obtain ⟨q1, q2, q3, q4, q5, q6, q7, q8⟩ := h;obtain ⟨r1, r2, r3, r4, r5, r6, r7, r8⟩ := h';by_cases k12 : o.kind = 1 ∨ o.kind = 2
 ·by_cases hn : x.next = o.a
  ·rcases k12 with k | k
   ·have := pr2 (q2 k hn) (r2 k hn); exact ⟨this.1, congrArg Prod.snd this.2⟩
   ·have := pr2 (q3 k hn) (r3 k hn); exact ⟨this.1, congrArg Prod.snd this.2⟩
  ·have a := q1 k12 hn;have b := r1 k12 hn;exact ⟨a.1.trans b.1.symm, a.2.trans b.2.symm⟩
 ·by_cases k3 : o.kind = 3
  ·exact pr2 (q4 k3) (r4 k3)
  ·by_cases k4 : o.kind = 4
   ·exact pr2 (q5 k4) (r5 k4)
   ·by_cases k5 : o.kind = 5
    ·exact pr2 (q6 k5) (r6 k5)
    ·by_cases k6 : 6 ≤ o.kind ∧ o.kind ≤ 13
     ·exact pr2 (q8 k6.1 k6.2) (r8 k6.1 k6.2)
     ·have a := q7 (by omega);have b := r7 (by omega);exact ⟨a.1.trans b.1.symm, a.2.trans b.2.symm⟩
theorem Ko {x : RD} {kind : Int} {s : ByteArray} (h : (addX x kind s).2.2 = 0) : (addX x kind s).2.1 = x.next := by
 revert h; unfold addX; (repeat' split) <;> simp
theorem dD (h : IX k m M d rk x σ) (hk : k ≤ 800) (o : TOp) (s1 : o.name.size ≤ 1000) (s2 : o.value.size ≤ 1000) (y : RD) (n c : Int) :
  (q1 : (o.kind = 1 ∨ o.kind = 2) → ¬ x.next = o.a → y = x ∧ c = 1) → (q2 : o.kind = 1 → x.next = o.a → addX x 2 o.name = (y, n, c)) → (q3 : o.kind = 2 → x.next = o.a → addX x 1 o.value = (y, n, c)) → (q4 : o.kind = 3 → insX x (bW d.l rk) o.a o.b o.c = (y, c)) → (q5 : o.kind = 4 → movX x o.a o.b = (y, c)) →
  (q6 : o.kind = 5 → remX x (bW (remP d.l o.a) rk) o.a = (y, c)) → (q7 : o.kind < 1 ∨ 13 < o.kind → y = x ∧ c = 14) → (q8 : 6 ≤ o.kind → o.kind ≤ 13 → setX x (o.kind - 6) o.a o.name o.value o.c = (y, c)) → Doc x o y c ∧ ∀ τ, Ct Tryz.prog 30 [fQ x, hD o] τ (fun r τ' => r = .tup [fQ y, D.int c] ∧ τ' = τ) := by
 obtain ⟨hi, hx⟩ := h;obtain ⟨b1, b2, b3⟩ := hi.bounds (by omega);have hnb : NB x.l := hx.nb (hi.ip.NB (by omega));have htr : Tr d.l (bW d.l rk) rk := hi.wt.Tr (by have := hi.ip.len; rw [lR]; omega);have htr1 : Tr x.l (bW d.l rk) rk := htr.perm hx.fd;have htr2 : Tr (remP x.l o.a) (bW (remP d.l o.a) rk) rk := (Va hi.wt (by have := hi.ip.len; rw [lR]; omega) _).perm (mD (hx.remP _) (by rw [qR]; exact hx.nd));have hnx : 0 ≤ x.next ∧ x.next ≤ 1000000 := by rw [hx.next]; exact b3
 have hD1 : Dec d.l rk := hi.wt.Dec;have e1 : bW d.l rk = bW x.l rk := (sD hx.fd rk).symm;have e2 : bW (remP d.l o.a) rk = bW (remP x.l o.a) rk := (sD (mD (hx.remP _) (by rw [qR]; exact hx.nd)) rk).symm;exact fun q1 q2 q3 q4 q5 q6 q7 q8 => ⟨⟨_, _, n, ⟨rk, fun i k hk => by rw [hx.fd] at hk; exact hD1 i k hk, e1⟩, ⟨rk, fun i k hk => by rw [mD (hx.remP _) (by rw [qR]; exact hx.nd)] at hk; exact Dec.rem hi.wt o.a i k hk, e2⟩, q1, q2, q3, q4, q5, q6, q7, q8⟩, fun τ => Zg x y o n c (bW d.l rk) (bW (remP d.l o.a) rk) rk τ hnb hnx htr1 htr2 (fun i => by rw [hx.fd]; exact aB9 hi hk i) (fun i => by rw [hx.fd]; exact aA8 hi i) (fun i => by rw [hx.fd]; exact aDa hi i) (fun i => by rw [hx.fd]; exact aDy hi i) s1 s2 q1 q2 q3 q4 q5 q6 q7 q8⟩
def eY (x : RD) (a : Act) (o : TOp) : TOp := if a.kind < 2 then { o with a := x.next } else o
theorem En (a : Act) (hkn : (0 ≤ a.kind ∧ a.kind ≤ 4) ∨ (10 ≤ a.kind ∧ a.kind ≤ 17)) (h : LX k m M l d rk x ops σ) (hk : k ≤ 800) (h1 : a.name.size ≤ 1000) (h2 : a.value.size ≤ 1000) :
  ∃ d' rk' σ' y n c, Ct Tryz.prog 29 [.ref l 0, nI a] σ (fun r τ => r = .tup [hD (jC a n), D.int c] ∧ τ = σ') ∧ LX (k + 1) m M l d' rk' y (Pt ops c (jC a n)) σ' ∧ (Doc x (eY x a (jC a n)) y c ∧ ∀ τ, Ct Tryz.prog 30 [fQ x, hD (eY x a (jC a n))] τ (fun r τ' => r = .tup [fQ y, D.int c] ∧ τ' = τ)) ∧ Oth m (· = l) d d' σ σ' ∧ (c = 0 → eY x a (jC a n) = jC a n) := by
 have hh := h;obtain ⟨⟨hi, hx⟩, hoff, hat, hlen⟩ := h;have hl : ops.length ≤ 100000 := by omega
 have e0 : (⟨#[]⟩ : ByteArray).size ≤ 1000 := by decide
 by_cases q0 : a.kind = 0
 ·obtain ⟨d', rk', σ', hc, hi', e, fr⟩ := Ik k m M d rk a.name σ hi hk (by omega);obtain ⟨p1, p2⟩ := hx.addX hi.ip.lt 2 a.name;obtain ⟨o2, st⟩ := hh.step ⟨hi', by rw [e]; exact p2⟩ fr;have ho : ∀ n : Int, jC a n = ⟨1, n, 0, 0, a.name, ⟨#[]⟩⟩ := fun n => by unfold jC; rw [if_pos q0]
  refine ⟨d', rk', _, _, (addX d.x 2 a.name).2.1, _, fI l a (addX d.x 2 a.name).2.1 _ _ σ (fun _ => tT l m ops a.name _ _ σ' σ hat hc o2 hl) (fun q => by omega) (fun q => by omega) (fun q => by omega) (fun q => by omega) (fun q => by omega) (fun q => by omega) (fun q => by omega) (fun q => by omega) (fun q => by omega) (fun q => by omega) (fun q => by omega) (fun q => absurd q0 q.1), (by rw [ho]; exact st _ _), ?_, fr.othN l ops _ _, ?_⟩
  all_goals rw [ho]
  ·unfold eY; rw [if_pos (by omega)];exact dD ⟨hi, hx⟩ hk _ (by first | exact h1 | exact e0) (by first | exact h2 | exact e0) _ _ _ (fun _ q => absurd rfl q) (fun _ _ => dJ p1) (fun q _ => by simp at q) (fun q => by simp at q) (fun q => by simp at q) (fun q => by simp at q) (fun q => by simp at q) (fun q => by simp at q)
  ·intro h0;have h9 := Ko h0;unfold eY; rw [if_pos (by omega), h9, hx.next]
 by_cases q1 : a.kind = 1
 ·obtain ⟨d', rk', σ', hc, hi', e, fr⟩ := Si k m M d rk a.value σ hi hk;obtain ⟨p1, p2⟩ := hx.addX hi.ip.lt 1 a.value;obtain ⟨o2, st⟩ := hh.step ⟨hi', by rw [e]; exact p2⟩ fr;have ho : ∀ n : Int, jC a n = ⟨2, n, 0, 0, ⟨#[]⟩, a.value⟩ := fun n => by unfold jC; rw [if_neg q0, if_pos q1]
  refine ⟨d', rk', _, _, (addX d.x 1 a.value).2.1, _, fI l a (addX d.x 1 a.value).2.1 _ _ σ (fun q => by omega) (fun _ => Ro l m ops a.value _ _ σ' σ hat hc o2 hl) (fun q => by omega) (fun q => by omega) (fun q => by omega) (fun q => by omega) (fun q => by omega) (fun q => by omega) (fun q => by omega) (fun q => by omega) (fun q => by omega) (fun q => by omega) (fun q => absurd q1 q.2.1), (by rw [ho]; exact st _ _), ?_, fr.othN l ops _ _, ?_⟩
  all_goals rw [ho]
  ·unfold eY; rw [if_pos (by omega)];exact dD ⟨hi, hx⟩ hk _ (by first | exact h1 | exact e0) (by first | exact h2 | exact e0) _ _ _ (fun _ q => absurd rfl q) (fun q _ => by simp at q) (fun _ _ => dJ p1) (fun q => by simp at q) (fun q => by simp at q) (fun q => by simp at q) (fun q => by simp at q) (fun q => by simp at q)
  ·intro h0;have h9 := Ko h0;unfold eY; rw [if_pos (by omega), h9, hx.next]
 by_cases q2 : a.kind = 2
 ·obtain ⟨d', rk', σ', hc, hi', e, fr⟩ := Gs k m M d rk a.a a.b a.c σ hi hk;obtain ⟨p1, p2⟩ := hx.insX (bW d.l rk) a.a a.b a.c;obtain ⟨o2, st⟩ := hh.step ⟨hi', by rw [e]; exact p2⟩ fr;have ho : ∀ n : Int, jC a n = ⟨3, a.a, a.b, a.c, ⟨#[]⟩, ⟨#[]⟩⟩ := fun n => by unfold jC; rw [if_neg q0, if_neg q1, if_pos q2]
  refine ⟨d', rk', _, _, 0, _, fI l a 0 _ _ σ (fun q => by omega) (fun q => by omega) (fun _ => wT l m ops a.a a.b a.c _ σ' σ hat hc o2 hl) (fun q => by omega) (fun q => by omega) (fun q => by omega) (fun q => by omega) (fun q => by omega) (fun q => by omega) (fun q => by omega) (fun q => by omega) (fun q => by omega) (fun q => absurd q2 q.2.2.1), (by rw [ho]; exact st _ _), ?_, fr.othN l ops _ _, ?_⟩
  all_goals rw [ho]
  ·unfold eY; rw [if_neg (by omega)];exact dD ⟨hi, hx⟩ hk _ (by first | exact h1 | exact e0) (by first | exact h2 | exact e0) _ 0 _ (fun q _ => by simp at q) (fun q _ => by simp at q) (fun q _ => by simp at q) (fun _ => dJ p1) (fun q => by simp at q) (fun q => by simp at q) (fun q => by simp at q) (fun q => by simp at q)
  ·exact fun _ => by unfold eY; rw [if_neg (by omega)]
 by_cases q3 : a.kind = 3
 ·obtain ⟨d', rk', σ', hc, hi', e, fr⟩ := Vf k m M d rk a.a a.b σ hi hk;obtain ⟨p1, p2⟩ := hx.movX a.a a.b;obtain ⟨o2, st⟩ := hh.step ⟨hi', by rw [e]; exact p2⟩ fr;have ho : ∀ n : Int, jC a n = ⟨4, a.a, a.b, 0, ⟨#[]⟩, ⟨#[]⟩⟩ := fun n => by unfold jC; rw [if_neg q0, if_neg q1, if_neg q2, if_pos q3]
  refine ⟨d', rk', _, _, 0, _, fI l a 0 _ _ σ (fun q => by omega) (fun q => by omega) (fun q => by omega) (fun _ => Vn l m ops a.a a.b _ σ' σ hat hc o2 hl) (fun q => by omega) (fun q => by omega) (fun q => by omega) (fun q => by omega) (fun q => by omega) (fun q => by omega) (fun q => by omega) (fun q => by omega) (fun q => absurd q3 q.2.2.2.1), (by rw [ho]; exact st _ _), ?_, fr.othN l ops _ _, ?_⟩
  all_goals rw [ho]
  ·unfold eY; rw [if_neg (by omega)];exact dD ⟨hi, hx⟩ hk _ (by first | exact h1 | exact e0) (by first | exact h2 | exact e0) _ 0 _ (fun q _ => by simp at q) (fun q _ => by simp at q) (fun q _ => by simp at q) (fun q => by simp at q) (fun _ => dJ p1) (fun q => by simp at q) (fun q => by simp at q) (fun q => by simp at q)
  ·exact fun _ => by unfold eY; rw [if_neg (by omega)]
 by_cases q4 : a.kind = 4
 ·obtain ⟨d', rk', σ', hc, hi', e, fr⟩ := Qp k m M d rk a.a σ hi hk;obtain ⟨p1, p2⟩ := hx.remX (bW (remP d.l a.a) rk) a.a;obtain ⟨o2, st⟩ := hh.step ⟨hi', by rw [e]; exact p2⟩ fr;have ho : ∀ n : Int, jC a n = ⟨5, a.a, 0, 0, ⟨#[]⟩, ⟨#[]⟩⟩ := fun n => by unfold jC; rw [if_neg q0, if_neg q1, if_neg q2, if_neg q3, if_pos q4]
  refine ⟨d', rk', _, _, 0, _, fI l a 0 _ _ σ (fun q => by omega) (fun q => by omega) (fun q => by omega) (fun q => by omega) (fun _ => Ie l m ops a.a _ σ' σ hat hc o2 hl) (fun q => by omega) (fun q => by omega) (fun q => by omega) (fun q => by omega) (fun q => by omega) (fun q => by omega) (fun q => by omega) (fun q => absurd q4 q.2.2.2.2.1), (by rw [ho]; exact st _ _), ?_, fr.othN l ops _ _, ?_⟩
  all_goals rw [ho]
  ·unfold eY; rw [if_neg (by omega)];exact dD ⟨hi, hx⟩ hk _ (by first | exact h1 | exact e0) (by first | exact h2 | exact e0) _ 0 _ (fun q _ => by simp at q) (fun q _ => by simp at q) (fun q _ => by simp at q) (fun q => by simp at q) (fun q => by simp at q) (fun _ => dJ p1) (fun q => by simp at q) (fun q => by simp at q)
  ·exact fun _ => by unfold eY; rw [if_neg (by omega)]
 by_cases q5 : a.kind = 10
 ·obtain ⟨d', rk', σ', hc, hi', e, fr⟩ := Kc k m M d rk σ a.a a.name ⟨#[]⟩ 0 hi hk (by omega);obtain ⟨p1, p2⟩ := hx.setX 0 a.a a.name ⟨#[]⟩ 0;obtain ⟨o2, st⟩ := hh.step ⟨hi', by rw [e]; exact p2⟩ fr;have ho : ∀ n : Int, jC a n = ⟨6, a.a, 0, 0, a.name, ⟨#[]⟩⟩ := fun n => by unfold jC; rw [if_neg q0, if_neg q1, if_neg q2, if_neg q3, if_neg q4, if_pos q5]
  refine ⟨d', rk', _, _, 0, _, fI l a 0 _ _ σ (fun q => by omega) (fun q => by omega) (fun q => by omega) (fun q => by omega) (fun q => by omega) (fun _ => Gm l m ops a.a a.name _ σ' σ hat hc o2 hl) (fun q => by omega) (fun q => by omega) (fun q => by omega) (fun q => by omega) (fun q => by omega) (fun q => by omega) (fun q => absurd q5 q.2.2.2.2.2.1), (by rw [ho]; exact st _ _), ?_, fr.othN l ops _ _, ?_⟩
  all_goals rw [ho]
  ·unfold eY; rw [if_neg (by omega)];exact dD ⟨hi, hx⟩ hk _ (by first | exact h1 | exact e0) (by first | exact h2 | exact e0) _ 0 _ (fun q _ => by simp at q) (fun q _ => by simp at q) (fun q _ => by simp at q) (fun q => by simp at q) (fun q => by simp at q) (fun q => by simp at q) (fun q => by simp at q) (fun _ _ => dJ p1)
  ·exact fun _ => by unfold eY; rw [if_neg (by omega)]
 by_cases q6 : a.kind = 11
 ·obtain ⟨d', rk', σ', hc, hi', e, fr⟩ := Km k m M d rk σ a.a ⟨#[]⟩ a.value 0 hi hk;obtain ⟨p1, p2⟩ := hx.setX 1 a.a ⟨#[]⟩ a.value 0;obtain ⟨o2, st⟩ := hh.step ⟨hi', by rw [e]; exact p2⟩ fr;have ho : ∀ n : Int, jC a n = ⟨7, a.a, 0, 0, ⟨#[]⟩, a.value⟩ := fun n => by unfold jC; rw [if_neg q0, if_neg q1, if_neg q2, if_neg q3, if_neg q4, if_neg q5, if_pos q6]
  refine ⟨d', rk', _, _, 0, _, fI l a 0 _ _ σ (fun q => by omega) (fun q => by omega) (fun q => by omega) (fun q => by omega) (fun q => by omega) (fun q => by omega) (fun _ => Dw l m ops a.a a.value _ σ' σ hat hc o2 hl) (fun q => by omega) (fun q => by omega) (fun q => by omega) (fun q => by omega) (fun q => by omega) (fun q => absurd q6 q.2.2.2.2.2.2.1), (by rw [ho]; exact st _ _), ?_, fr.othN l ops _ _, ?_⟩
  all_goals rw [ho]
  ·unfold eY; rw [if_neg (by omega)];exact dD ⟨hi, hx⟩ hk _ (by first | exact h1 | exact e0) (by first | exact h2 | exact e0) _ 0 _ (fun q _ => by simp at q) (fun q _ => by simp at q) (fun q _ => by simp at q) (fun q => by simp at q) (fun q => by simp at q) (fun q => by simp at q) (fun q => by simp at q) (fun _ _ => dJ p1)
  ·exact fun _ => by unfold eY; rw [if_neg (by omega)]
 by_cases q7 : a.kind = 12
 ·obtain ⟨d', rk', σ', hc, hi', e, fr⟩ := Jf k m M d rk σ a.a a.name a.value 0 hi hk (by omega);obtain ⟨p1, p2⟩ := hx.setX 2 a.a a.name a.value 0;obtain ⟨o2, st⟩ := hh.step ⟨hi', by rw [e]; exact p2⟩ fr;have ho : ∀ n : Int, jC a n = ⟨8, a.a, 0, 0, a.name, a.value⟩ := fun n => by unfold jC; rw [if_neg q0, if_neg q1, if_neg q2, if_neg q3, if_neg q4, if_neg q5, if_neg q6, if_pos q7]
  refine ⟨d', rk', _, _, 0, _, fI l a 0 _ _ σ (fun q => by omega) (fun q => by omega) (fun q => by omega) (fun q => by omega) (fun q => by omega) (fun q => by omega) (fun q => by omega) (fun _ => Da l m ops a.a a.name a.value _ σ' σ hat hc o2 hl) (fun q => by omega) (fun q => by omega) (fun q => by omega) (fun q => by omega) (fun q => absurd q7 q.2.2.2.2.2.2.2.1), (by rw [ho]; exact st _ _), ?_, fr.othN l ops _ _, ?_⟩
  all_goals rw [ho]
  ·unfold eY; rw [if_neg (by omega)];exact dD ⟨hi, hx⟩ hk _ (by first | exact h1 | exact e0) (by first | exact h2 | exact e0) _ 0 _ (fun q _ => by simp at q) (fun q _ => by simp at q) (fun q _ => by simp at q) (fun q => by simp at q) (fun q => by simp at q) (fun q => by simp at q) (fun q => by simp at q) (fun _ _ => dJ p1)
  ·exact fun _ => by unfold eY; rw [if_neg (by omega)]
 by_cases q8 : a.kind = 13
 ·obtain ⟨d', rk', σ', hc, hi', e, fr⟩ := Ed k m M d rk σ a.a a.name ⟨#[]⟩ 0 hi hk (by omega);obtain ⟨p1, p2⟩ := hx.setX 3 a.a a.name ⟨#[]⟩ 0;obtain ⟨o2, st⟩ := hh.step ⟨hi', by rw [e]; exact p2⟩ fr;have ho : ∀ n : Int, jC a n = ⟨9, a.a, 0, 0, a.name, ⟨#[]⟩⟩ := fun n => by unfold jC; rw [if_neg q0, if_neg q1, if_neg q2, if_neg q3, if_neg q4, if_neg q5, if_neg q6, if_neg q7, if_pos q8]
  refine ⟨d', rk', _, _, 0, _, fI l a 0 _ _ σ (fun q => by omega) (fun q => by omega) (fun q => by omega) (fun q => by omega) (fun q => by omega) (fun q => by omega) (fun q => by omega) (fun q => by omega) (fun _ => Au l m ops a.a a.name _ σ' σ hat hc o2 hl) (fun q => by omega) (fun q => by omega) (fun q => by omega) (fun q => absurd q8 q.2.2.2.2.2.2.2.2.1), (by rw [ho]; exact st _ _), ?_, fr.othN l ops _ _, ?_⟩
  all_goals rw [ho]
  ·unfold eY; rw [if_neg (by omega)];exact dD ⟨hi, hx⟩ hk _ (by first | exact h1 | exact e0) (by first | exact h2 | exact e0) _ 0 _ (fun q _ => by simp at q) (fun q _ => by simp at q) (fun q _ => by simp at q) (fun q => by simp at q) (fun q => by simp at q) (fun q => by simp at q) (fun q => by simp at q) (fun _ _ => dJ p1)
  ·exact fun _ => by unfold eY; rw [if_neg (by omega)]
 by_cases q9 : a.kind = 14
 ·obtain ⟨d', rk', σ', hc, hi', e, fr⟩ := Jp k m M d rk σ a.a a.name ⟨#[]⟩ a.c hi hk (by omega);obtain ⟨p1, p2⟩ := hx.setX 4 a.a a.name ⟨#[]⟩ a.c;obtain ⟨o2, st⟩ := hh.step ⟨hi', by rw [e]; exact p2⟩ fr;have ho : ∀ n : Int, jC a n = ⟨10, a.a, 0, a.c, a.name, ⟨#[]⟩⟩ := fun n => by unfold jC; rw [if_neg q0, if_neg q1, if_neg q2, if_neg q3, if_neg q4, if_neg q5, if_neg q6, if_neg q7, if_neg q8, if_pos q9]
  refine ⟨d', rk', _, _, 0, _, fI l a 0 _ _ σ (fun q => by omega) (fun q => by omega) (fun q => by omega) (fun q => by omega) (fun q => by omega) (fun q => by omega) (fun q => by omega) (fun q => by omega) (fun q => by omega) (fun _ => Bf l m ops a.a a.name a.c _ σ' σ hat hc o2 hl) (fun q => by omega) (fun q => by omega) (fun q => absurd q9 q.2.2.2.2.2.2.2.2.2.1), (by rw [ho]; exact st _ _), ?_, fr.othN l ops _ _, ?_⟩
  all_goals rw [ho]
  ·unfold eY; rw [if_neg (by omega)];exact dD ⟨hi, hx⟩ hk _ (by first | exact h1 | exact e0) (by first | exact h2 | exact e0) _ 0 _ (fun q _ => by simp at q) (fun q _ => by simp at q) (fun q _ => by simp at q) (fun q => by simp at q) (fun q => by simp at q) (fun q => by simp at q) (fun q => by simp at q) (fun _ _ => dJ p1)
  ·exact fun _ => by unfold eY; rw [if_neg (by omega)]
 by_cases q10 : a.kind = 15
 ·obtain ⟨d', rk', σ', hc, hi', e, fr⟩ := Dp k m M d rk σ a.a a.name ⟨#[]⟩ 0 hi hk (by omega);obtain ⟨p1, p2⟩ := hx.setX 5 a.a a.name ⟨#[]⟩ 0;obtain ⟨o2, st⟩ := hh.step ⟨hi', by rw [e]; exact p2⟩ fr;have ho : ∀ n : Int, jC a n = ⟨11, a.a, 0, 0, a.name, ⟨#[]⟩⟩ := fun n => by unfold jC; rw [if_neg q0, if_neg q1, if_neg q2, if_neg q3, if_neg q4, if_neg q5, if_neg q6, if_neg q7, if_neg q8, if_neg q9, if_pos q10]
  refine ⟨d', rk', _, _, 0, _, fI l a 0 _ _ σ (fun q => by omega) (fun q => by omega) (fun q => by omega) (fun q => by omega) (fun q => by omega) (fun q => by omega) (fun q => by omega) (fun q => by omega) (fun q => by omega) (fun q => by omega) (fun _ => yB l m ops a.a a.name _ σ' σ hat hc o2 hl) (fun q => by omega) (fun q => absurd q10 q.2.2.2.2.2.2.2.2.2.2.1), (by rw [ho]; exact st _ _), ?_, fr.othN l ops _ _, ?_⟩
  all_goals rw [ho]
  ·unfold eY; rw [if_neg (by omega)];exact dD ⟨hi, hx⟩ hk _ (by first | exact h1 | exact e0) (by first | exact h2 | exact e0) _ 0 _ (fun q _ => by simp at q) (fun q _ => by simp at q) (fun q _ => by simp at q) (fun q => by simp at q) (fun q => by simp at q) (fun q => by simp at q) (fun q => by simp at q) (fun _ _ => dJ p1)
  ·exact fun _ => by unfold eY; rw [if_neg (by omega)]
 by_cases q11 : a.kind = 16
 ·obtain ⟨d', rk', σ', hc, hi', e, fr⟩ := Du k m M d rk σ a.a a.name ⟨#[]⟩ 0 hi hk (by omega);obtain ⟨p1, p2⟩ := hx.setX 6 a.a a.name ⟨#[]⟩ 0;obtain ⟨o2, st⟩ := hh.step ⟨hi', by rw [e]; exact p2⟩ fr;have ho : ∀ n : Int, jC a n = ⟨12, a.a, 0, 0, a.name, ⟨#[]⟩⟩ := fun n => by unfold jC; rw [if_neg q0, if_neg q1, if_neg q2, if_neg q3, if_neg q4, if_neg q5, if_neg q6, if_neg q7, if_neg q8, if_neg q9, if_neg q10, if_pos q11]
  refine ⟨d', rk', _, _, 0, _, fI l a 0 _ _ σ (fun q => by omega) (fun q => by omega) (fun q => by omega) (fun q => by omega) (fun q => by omega) (fun q => by omega) (fun q => by omega) (fun q => by omega) (fun q => by omega) (fun q => by omega) (fun q => by omega) (fun _ => At l m ops a.a a.name _ σ' σ hat hc o2 hl) (fun q => absurd q11 q.2.2.2.2.2.2.2.2.2.2.2), (by rw [ho]; exact st _ _), ?_, fr.othN l ops _ _, ?_⟩
  all_goals rw [ho]
  ·unfold eY; rw [if_neg (by omega)];exact dD ⟨hi, hx⟩ hk _ (by first | exact h1 | exact e0) (by first | exact h2 | exact e0) _ 0 _ (fun q _ => by simp at q) (fun q _ => by simp at q) (fun q _ => by simp at q) (fun q => by simp at q) (fun q => by simp at q) (fun q => by simp at q) (fun q => by simp at q) (fun _ _ => dJ p1)
  ·exact fun _ => by unfold eY; rw [if_neg (by omega)]
 have q12 : a.kind = 17 := by omega
 obtain ⟨d', rk', σ', hc, hi', e, fr⟩ := Ef k m M d rk σ a.a a.name ⟨#[]⟩ 0 7 (by decide) hi hk (by omega);obtain ⟨p1, p2⟩ := hx.setX 7 a.a a.name ⟨#[]⟩ 0;obtain ⟨o2, st⟩ := hh.step ⟨hi', by rw [e]; exact p2⟩ fr;have ho : ∀ n : Int, jC a n = ⟨13, a.a, 0, 0, a.name, ⟨#[]⟩⟩ := fun n => by unfold jC; rw [if_neg q0, if_neg q1, if_neg q2, if_neg q3, if_neg q4, if_neg q5, if_neg q6, if_neg q7, if_neg q8, if_neg q9, if_neg q10, if_neg q11]
 refine ⟨d', rk', _, _, 0, _, fI l a 0 _ _ σ (fun q => by omega) (fun q => by omega) (fun q => by omega) (fun q => by omega) (fun q => by omega) (fun q => by omega) (fun q => by omega) (fun q => by omega) (fun q => by omega) (fun q => by omega) (fun q => by omega) (fun q => by omega) (fun _ => xZ l m ops a.a a.name _ σ' σ hat hc o2 hl), (by rw [ho]; exact st _ _), ?_, fr.othN l ops _ _, ?_⟩
 all_goals rw [ho]
 ·unfold eY; rw [if_neg (by omega)];exact dD ⟨hi, hx⟩ hk _ (by first | exact h1 | exact e0) (by first | exact h2 | exact e0) _ 0 _ (fun q _ => by simp at q) (fun q _ => by simp at q) (fun q _ => by simp at q) (fun q => by simp at q) (fun q => by simp at q) (fun q => by simp at q) (fun q => by simp at q) (fun _ _ => dJ p1)
 ·exact fun _ => by unfold eY; rw [if_neg (by omega)]
end Go.Proofs.YtpfmpeaekgdgnaaGreat
namespace Go.Proofs.YtpfmpeaekgdgnaaGreat
open Go Go.Vm
set_option linter.all false
set_option maxHeartbeats 1000000
abbrev Xz : TOp := ⟨1, 1, 0, 0, pB, ⟨#[]⟩⟩
abbrev op2 : TOp := ⟨3, 0, 0, 1, ⟨#[]⟩, ⟨#[]⟩⟩
theorem aCz {m M l : Nat} {d : DS} {rk : Int → Nat} {τ : List (List D)} (h0 : IX 0 m M d rk (newX 3) τ) (hx : d.x = newX 3) (ho : Off m d l) (hat : τ[l]? = some (eN m [])) :
  ∃ σ1 σ2, Ct Tryz.prog 40 [.ref m 0, D.str pB] τ (fun r τ' => r = .tup [D.int 1, D.int 0] ∧ τ' = σ1) ∧ σ1[l]? = some (eN m []) ∧ Ct Tryz.prog 41 [.ref m 0, D.int 0, D.int 0, D.int 1] (nt l m [] 0 Xz σ1) (fun r τ' => r = D.int 0 ∧ τ' = σ2) ∧ (nt l m [] 0 Xz σ1)[l]? = some (eN m [Xz]) ∧ σ2[l]? = some (eN m [Xz]) ∧ (nt l m [Xz] 0 op2 σ2)[l]? = some (eN m [Xz, op2]) := by
 have hL : LX 0 m M l d rk (newX 3) [] τ := ⟨h0, ho, hat, Nat.le_refl _⟩;obtain ⟨d1, rk1, σ1, c1, i1, e1, f1⟩ := Ik 0 m M d rk pB τ h0.iv (by omega) (by decide);rw [hx, aCx] at c1 e1;obtain ⟨o1, st1⟩ := hL.step (y := Zx) ⟨i1, by rw [e1]; exact XP.refl (by decide)⟩ f1;have L1 := st1 0 Xz;have hl1 : d1.l = Zx.l := aEz e1;obtain ⟨d2, rk2, σ2, c2, i2, e2, f2⟩ := Gs 1 m M d1 rk1 0 0 1 _ L1.ix.iv (by omega);rw [e1, hl1, aCe (bel := bW Zx.l rk1) (fun id => fF (hl1 ▸ i1.wt.Dec) id)] at c2 e2;obtain ⟨o2, st2⟩ := L1.step (y := awY) ⟨i2, by rw [e2]; exact XP.refl (by decide)⟩ f2;exact ⟨σ1, σ2, c1, o1, c2, L1.at_, o2, (st2 0 op2).at_⟩
end Go.Proofs.YtpfmpeaekgdgnaaGreat

