import Derived.Test.YtighdhfgcdjmeaaWkL21
namespace Go.Proofs.Ytighdhfgcdjmeaa
open Go Go.Vm
set_option linter.all false
set_option maxHeartbeats 4000000
theorem Oz {v : VN} (h : VG v) : Qw v := by
 induction h with
 | mk v h hk ih =>
  exact fun i σ hi => (Iq v i σ h hi (fun k hk' => ⟨hk k hk', ih k hk'⟩)).trim fun r σ' ⟨⟨t, hr, hg, hc⟩, J, hs⟩ => ⟨σ, J, hs, rfl, by
   rw [hr];exact Sc.tup fun d hd => by
    simp only [List.mem_cons, List.not_mem_nil, or_false] at hd;rcases hd with rfl | rfl
    ·exact Qq _ t
    ·exact Sc.v _, fun n cs h => .inl h, ⟨t, hr, hg, hc⟩, rfl⟩
theorem Pj {l : List TN} {k : TN} (hk : k ∈ l) : jS k ≤ (l.map jS).sum := by
 induction l with
 | nil => cases hk
 | cons a l ih =>
  rcases List.mem_cons.1 hk with rfl | hk
  ·simp
  ·have := ih hk; simp only [List.map_cons, List.sum_cons]; omega
theorem Pf (l : List TN) : l.length ≤ (l.map jS).sum := by
 induction l with
 | nil => exact Nat.le_refl _
 | cons a l ih => have := nN a; simp only [List.map_cons, List.sum_cons, List.length_cons]; omega
theorem rY : ∀ (n : Nat) (t : TN), n ≤ 1000 → TG t → jS t ≤ n → Bx n t ∧ Vu n t
 | 0, t, _, _, h => absurd (nN t) (by omega)
 | n + 1, t, hn, hg, h => by
  cases hg with
  | mk _ hf hk =>
   have hc := nN t;have hl := Pf t.kids;have hkk : ∀ k ∈ t.kids, Bx n k ∧ Vu n k := fun k hm => rY n k (by omega) (hk k hm) (by have := Pj hm; omega);exact ⟨⟨⟨by have := hf.1.1; omega, hf.1.2⟩, by have := hf.2.2; omega, by omega, fun k hm => (hkk k hm).1⟩, ⟨by have := hf.2.1.1; omega, hf.2.1.2⟩, fun k hm => (hkk k hm).2⟩
theorem tF (pl : TN → Int → Int → Int → List EN) (hp : ∀ t x y g, (pl t x y g).length ≤ jS t) (n : Nat) (t : TN) (x y iw : Int) : ∀ k, k ≤ t.kids.length → (gL pl n t x y iw k).length ≤ ((t.kids.take k).map jS).sum
 | 0, _ => by rw [vB]; exact Nat.zero_le _
 | k + 1, h => by
  have ih := tF pl hp n t x y iw k (by omega);have hP : k < (jI n t iw).length := by rw [rR]; omega
  rw [iB pl n t x y iw k (by omega) hP, List.length_append, cS _ _ (by omega), List.map_append, List.sum_append];have := hp t.kids[k] (jM [x, gF t dO, ((jI n t iw)[k]).x]) (jM [y, gF t dO, ((jI n t iw)[k]).y]) (fF n t t.kids[k] iw);simp only [List.map_cons, List.map_nil, List.sum_cons, List.sum_nil];omega
theorem nL : ∀ (n : Nat) (t : TN) (x y g : Int), (cK n t x y g).length ≤ jS t
 | 0, t, _, _, _ => Nat.zero_le _
 | n + 1, t, x, y, g => by
  have hc := nN t;have hk := tF (cK n) (fun t x y g => nL n t x y g) n t x y (cB t g) t.kids.length (Nat.le_refl _);rw [List.take_length] at hk;simp only [cK, List.length_cons];split
  ·simp; omega
  ·omega
def jL : List ByteArray := [kW, kH, dO, mM, lL, tP]
abbrev kF (a b : List PI) : Prop := ∀ c ∈ jL, iG a c = iG b c ∧ kL nP a c = kL nP b c
def EqT : Nat → TN → TN → Prop
 | 0, _, _ => True
 | n + 1, t, u => t.ID = u.ID ∧ t.kind = u.kind ∧ t.text = u.text ∧ kF t.styles u.styles ∧ t.kids.length = u.kids.length ∧ ∀ (i : Nat) (h : i < t.kids.length) (h' : i < u.kids.length), EqT n t.kids[i] u.kids[i]
theorem EqT.refl : ∀ (n : Nat) (t : TN), EqT n t t
 | 0, _ => trivial
 | n + 1, t => ⟨rfl, rfl, rfl, fun c _ => ⟨rfl, rfl⟩, rfl, fun i h h' => EqT.refl n _⟩
theorem EqT.trans : ∀ (n : Nat) {t u v : TN}, EqT n t u → EqT n u v → EqT n t v
 | 0, _, _, _, _, _ => trivial
 | n + 1, t, u, v, ⟨a1, a2, a3, a4, a5, a6⟩, ⟨b1, b2, b3, b4, b5, b6⟩ => ⟨a1.trans b1, a2.trans b2, a3.trans b3, fun c hc => ⟨(a4 c hc).1.trans (b4 c hc).1, (a4 c hc).2.trans (b4 c hc).2⟩, a5.trans b5, fun i h h' => EqT.trans n (a6 i h (by omega)) (b6 i (by omega) h')⟩
theorem iT {t u : TN} (h : kF t.styles u.styles) {c : ByteArray} (hc : c ∈ jL) : gF t c = gF u c := by unfold gF; rw [(h c hc).1]
theorem Am {t u : TN} (h : kF t.styles u.styles) {c : ByteArray} (hc : c ∈ jL) : Qv t c = Qv u c := by unfold Qv; rw [(h c hc).2]
theorem tZ {t u : TN} (h : kF t.styles u.styles) (g : Int) : iW t g = iW u g := by unfold iW; rw [iT h (c := kW) (by simp [jL]), Am h (c := kW) (by simp [jL])]
theorem sS {t u : TN} (h : kF t.styles u.styles) (g : Int) : cB t g = cB u g := by unfold cB; rw [tZ h, iT h (c := dO) (by simp [jL])]
theorem Co {t u : TN} (h : kF t.styles u.styles) : rF t = rF u := by unfold rF; rw [(h tP (by simp [jL])).1]
theorem xC {t u : TN} (h : kF t.styles u.styles) : kG t = kG u := by unfold kG; rw [iT h (c := lL) (by simp [jL])]
theorem Ci {t u : TN} (h : kF t.styles u.styles) (g : Int) : yM t g = yM u g := by unfold yM; rw [xC h, iT h (c := mM) (by simp [jL])]
theorem Hm {t u : TN} (h : kF t.styles u.styles) (g : Int) : qT t g = qT u g := by unfold qT; rw [Am h (c := kH) (by simp [jL]), iT h (c := kH) (by simp [jL]), iT h (c := dO) (by simp [jL])]
theorem It {α : Type} (f : TN → α) (g : TN → α) {a b : List TN} (hl : a.length = b.length) (h : ∀ (i : Nat) (h : i < a.length) (h' : i < b.length), f a[i] = g b[i]) : a.map f = b.map g :=
 List.ext_getElem (by simpa using hl) fun i h1 h2 => by
  simp only [List.getElem_map];exact h i (by simpa using h1) (by simpa using h2)
theorem Jr (f : TN → Int) (l : List TN) : wJ f l = (l.map f).foldl max 0 := by unfold wJ; rw [List.foldl_map]
theorem uV : ∀ (n : Nat) {t u : TN}, EqT n t u → mL n t = mL n u
 | 0, _, _, _ => rfl
 | n + 1, t, u, ⟨a1, a2, a3, a4, a5, a6⟩ => by
  simp only [mL, a2, a3, Am a4 (c := kW) (by simp [jL]), iT a4 (c := kW) (by simp [jL]), iT a4 (c := dO) (by simp [jL]), Jr];rw [It (mL n) (mL n) a5 fun i h h' => uV n (a6 i h h')]
theorem tN {n : Nat} {t u k j : TN} (h : kF t.styles u.styles) (hk : EqT n k j) (g : Int) : fF n t k g = fF n u j g := by unfold fF; rw [Co h, uV n hk, Ci h]
theorem Sd {n : Nat} (sz : TN → Int → SZ) {t u : TN} (h : EqT (n + 1) t u) (hz : ∀ (i : Nat) (h : i < t.kids.length) (h' : i < u.kids.length) (g : Int), sz t.kids[i] g = sz u.kids[i] g) (g : Int) : wT n sz t g = wT n sz u g := by
 obtain ⟨a1, a2, a3, a4, a5, a6⟩ := h;exact It _ _ a5 fun i h h' => by rw [tN a4 (a6 i h h'), hz i h h']
theorem Ck {n : Nat} (sz : TN → Int → SZ) {t u : TN} (h : EqT (n + 1) t u) (hz : ∀ (i : Nat) (h : i < t.kids.length) (h' : i < u.kids.length) (g : Int), sz t.kids[i] g = sz u.kids[i] g) (g : Int) : mN n sz t g = mN n sz u g := by
 have hs := h.2.2.2.1;unfold mN;rw [Sd sz h hz, Co hs, xC hs, Ci hs, iT hs (c := mM) (by simp [jL])]
theorem qV : ∀ (n : Nat) {t u : TN}, EqT n t u → ∀ g, cU n t g = cU n u g
 | 0, _, _, _ => fun _ => rfl
 | n + 1, t, u, h => fun g => by
  have hs := h.2.2.2.1;simp only [cU, uV (n + 1) h, h.2.1, tZ hs, sS hs, Ck (cU n) h fun i h1 h2 g => qV n (h.2.2.2.2.2 i h1 h2) g, Hm hs]
theorem Hx {n : Nat} (pl : TN → Int → Int → Int → List EN) {t u : TN} (h : EqT (n + 1) t u) (hp : ∀ (i : Nat) (h : i < t.kids.length) (h' : i < u.kids.length) (x y g : Int), pl t.kids[i] x y g = pl u.kids[i] x y g) (x y g : Int) (k : Nat) : gL pl n t x y g k = gL pl n u x y g k := by
 have hs := h.2.2.2.1;have hl := h.2.2.2.2.1;have hP : jI n t g = jI n u g := by
  unfold jI;rw [Ck (cU n) h fun i h1 h2 g => qV n (h.2.2.2.2.2 i h1 h2) g]
 unfold gL;congr 1;funext i;rw [hP, iT hs (c := dO) (by simp [jL])];by_cases hi : i < t.kids.length
 ·have hi' : i < u.kids.length := by omega
  rw [List.getElem?_eq_getElem hi, List.getElem?_eq_getElem hi'];cases (jI n u g)[i]? with
  | none => rfl
  | some p =>
   show pl _ _ _ _ = pl _ _ _ _
   rw [hp i hi hi', tN hs (h.2.2.2.2.2 i hi hi')]
 ·rw [List.getElem?_eq_none (l := t.kids) (by omega), List.getElem?_eq_none (l := u.kids) (by omega)]
theorem oT : ∀ (n : Nat) {t u : TN}, EqT n t u → ∀ x y g, cK n t x y g = cK n u x y g
 | 0, _, _, _ => fun _ _ _ => rfl
 | n + 1, t, u, h => fun x y g => by
  have hs := h.2.2.2.1;simp only [cK, qV (n + 1) h, h.1, h.2.1, sS hs, h.2.2.2.2.1];rw [Hx (cK n) h fun i h1 h2 x y g => oT n (h.2.2.2.2.2 i h1 h2) x y g]
abbrev Ty : ByteArray := ⟨#[116, 45, 100, 120]⟩
abbrev kGh : ByteArray := ⟨#[116, 45, 103, 104, 111, 115, 116]⟩
theorem Mp (l : List PI) (p : PI) (c : ByteArray) (h : ¬ p.name = c) : (cZ nP l p).find? (fun q => decide (q.name = c)) = l.find? (fun q => decide (q.name = c)) := by
 induction l with
 | nil => simp [cZ, h]
 | cons q l ih =>
  unfold cZ;split
  ·simp only [List.find?_cons, ih]
  ·split
   ·rename_i h1 h2;have : ¬ q.name = c := by rw [show q.name = p.name from h2]; exact h
    simp [List.find?_cons, h, this]
   ·simp [List.find?_cons, h]
theorem nM (l : List PI) (c : ByteArray) : kL nP l c = (l.find? fun q => decide (q.name = c)).isSome := by
 unfold kL;induction l with
 | nil => rfl
 | cons q l ih => by_cases h : q.name = c <;> simp [List.find?_cons, h, ih]
theorem Dq (l : List PI) (c : ByteArray) (h : lA c = false) : (wZ l).find? (fun q => decide (q.name = c)) = l.find? (fun q => decide (q.name = c)) := by
 unfold wZ;induction l with
 | nil => rfl
 | cons q l ih =>
  by_cases hq : q.name = c
  ·simp [List.filter_cons, hq, h]
  ·by_cases hp : lA q.name = true <;> simp [List.filter_cons, List.find?_cons, hp, hq, ih]
theorem Mb {c : ByteArray} (hc : c ∈ jL) : ¬ Ty = c ∧ lA c = false := by
 simp only [jL, List.mem_cons, List.not_mem_nil, or_false] at hc;rcases hc with rfl | rfl | rfl | rfl | rfl | rfl <;> decide +kernel
theorem Mr (l : List PI) (dx : Int) : kF (cZ nP l ⟨Ty, dx⟩) l := fun c hc => by
 have h := Mp l ⟨Ty, dx⟩ c (Mb hc).1;exact ⟨by unfold iG; rw [h], by rw [nM, nM, h]⟩
theorem Fv (l : List PI) : kF l (wZ l) := fun c hc => by
 have h := Dq l c (Mb hc).2;exact ⟨by unfold iG; rw [h], by rw [nM, nM, h]⟩
theorem Cz : ∀ (n : Nat) (t : TN), EqT n t (gR n t)
 | 0, _ => trivial
 | n + 1, t => ⟨rfl, rfl, rfl, Fv _, by simp [gR], fun i h h' => by
   simp only [gR, List.getElem_map];exact Cz n _⟩
def zG (t : TN) (dx : Int) : TN := { t with styles := cZ nP t.styles ⟨Ty, dx⟩, attrs := cZ nA t.attrs ⟨kGh, ⟨#[]⟩⟩ }
theorem Qb (n : Nat) (t : TN) (dx : Int) : EqT n (zG t dx) t := by
 cases n with
 | zero => trivial
 | succ n => exact ⟨rfl, rfl, rfl, Mr _ _, rfl, fun i h h' => EqT.refl n _⟩
theorem Ow {n : Nat} {t : TN} (h : Bx (n + 1) t) (h4 : t.styles.length ≤ 4) (dx : Int) : Bx (n + 1) (zG t dx) :=
 ⟨⟨by have := oC nP t.styles ⟨Ty, dx⟩; simp only [zG]; omega, iP nP h.1.2 _⟩, h.2⟩
theorem Ce : ∀ (n : Nat) (t : TN), Bx n t → Bx n (gR n t)
 | 0, _, h => h.elim
 | n + 1, t, h => ⟨⟨Nat.le_trans (List.length_filter_le _ _) h.1.1, List.Pairwise.filter _ h.1.2⟩, h.2.1, by simp only [gR, List.length_map]; exact h.2.2.1, fun k hk => by
   simp only [gR] at hk;obtain ⟨j, hj, rfl⟩ := List.mem_map.1 hk;exact Ce n j (h.2.2.2 j hj)⟩
theorem Nr (t : TN) (dx g : Int) (σ : List (List D)) (hg : TG t) (hc : jS t ≤ 25) : Ct Try.prog 9 [fE (zG t dx), D.int g] σ (fun r σ' => r = .sl false ((nJ 25 t g).map cH) ∧ σ' = σ) := by
 have e := oT 25 (Qb 25 t dx) 0 0 g;have h := Bu 25 (zG t dx) g σ (Ow (rY 25 t (by decide) hg hc).1 (by cases hg with | mk _ h _ => exact h.1.1) dx) (by rw [e]; have := nL 25 t 0 0 g; omega);unfold nJ at h;rw [e] at h;exact h
theorem Ns (t : TN) (g : Int) (σ : List (List D)) (hg : TG t) (hc : jS t ≤ 25) : Ct Try.prog 9 [fE (gR 25 t), D.int g] σ (fun r σ' => r = .sl false ((nJ 25 t g).map cH) ∧ σ' = σ) := by
 have e := (oT 25 (Cz 25 t) 0 0 g).symm;have h := Bu 25 (gR 25 t) g σ (Ce 25 t (rY 25 t (by decide) hg hc).1) (by rw [e]; have := nL 25 t 0 0 g; omega);unfold nJ at h;rw [e] at h;exact h
theorem Hj (t : TN) (σ : List (List D)) (hg : TG t) (hc : jS t ≤ 25) : Ct Try.prog 11 [fE t] σ (fun r σ' => r = fE (gR 25 t) ∧ σ' = σ) :=
 Db 25 t (rY 25 t (by decide) hg hc).1 (rY 25 t (by decide) hg hc).2 σ
theorem Pc (t : TN) (g : Int) (hc : jS t ≤ 25) : (nJ 25 t g).length ≤ 999999 := by
 have h1 := SI.ofL_len nE (cK 25 t 0 0 g);have h2 := nL 25 t 0 0 g;show (SI.ofL nE (cK 25 t 0 0 g)).length ≤ 999999
 omega
end Go.Proofs.Ytighdhfgcdjmeaa

