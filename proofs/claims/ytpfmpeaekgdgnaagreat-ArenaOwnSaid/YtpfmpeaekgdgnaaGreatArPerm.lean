import Derived.Test.YtpfmpeaekgdgnaaGreatWkAr15
namespace Go.Proofs.YtpfmpeaekgdgnaaGreat
open Go Go.Vm
set_option linter.all false
variable {l : List ND} {rk : Int → Nat}
theorem WT.map (h : WT l rk) (f : ND → ND) (rk' : Int → Nat) (hID : ∀ n ∈ l, (f n).ID = n.ID) (hk : ∀ n ∈ l, ∀ k ∈ (f n).kids, ∃ c ∈ l, c.ID = k ∧ (f c).parent = n.ID)
  (hp : ∀ n ∈ l, (f n).parent = -1 ∨ ∃ p ∈ l, p.ID = (f n).parent ∧ n.ID ∈ (f p).kids) (hn : ∀ n ∈ l, (f n).kids.Nodup) (hd : ∀ n ∈ l, ∀ k ∈ (f n).kids, rk' k < rk' n.ID) : WT (l.map f) rk' := by
 refine ⟨?_, fun n hn' k hk' => ?_, fun n hn' => ?_, fun n hn' => ?_, fun n hn' => ?_, fun n hn' k hk' => ?_⟩
 ·have : (l.map f).map ND.ID = l.map ND.ID := by
   rw [List.map_map]; exact List.map_congr_left fun n hn => hID n hn
  rw [this]; exact h.nd
 all_goals obtain ⟨x, hx, rfl⟩ := List.mem_map.1 hn'
 ·obtain ⟨c, c1, c2, c3⟩ := hk x hx k hk';exact ⟨f c, List.mem_map.2 ⟨c, c1, rfl⟩, by rw [hID c c1, c2], by rw [hID x hx, c3]⟩
 ·rcases hp x hx with e | ⟨p, p1, p2, p3⟩
  ·exact .inl e
  ·exact .inr ⟨f p, List.mem_map.2 ⟨p, p1, rfl⟩, by rw [hID p p1, p2], by rw [hID x hx]; exact p3⟩
 ·rw [hID x hx]; exact h.nn x hx
 ·exact hn x hx
 ·rw [hID x hx]; exact hd x hx k hk'
theorem WT.put (h : WT l rk) {n n' : ND} (hn : n ∈ l) (h1 : n'.ID = n.ID) (h2 : n'.kids = n.kids) (h3 : n'.parent = n.parent) : WT (dC l n') rk := by
 have hx : ∀ x ∈ l, (if x.ID = n'.ID then n' else x).ID = x.ID ∧ (if x.ID = n'.ID then n' else x).kids = x.kids ∧ (if x.ID = n'.ID then n' else x).parent = x.parent := by
  intro x hx;split
  ·rename_i e;have : x = n := fN h.nd hx hn (by rw [e, h1]);subst this; exact ⟨h1, h2, h3⟩
  ·exact ⟨rfl, rfl, rfl⟩
 refine h.map _ rk (fun x m => (hx x m).1) (fun x m k hk => ?_) (fun x m => ?_) (fun x m => ?_) (fun x m k hk => ?_)
 ·rw [(hx x m).2.1] at hk;obtain ⟨c, c1, c2, c3⟩ := h.kids x m k hk;exact ⟨c, c1, c2, by rw [(hx c c1).2.2]; exact c3⟩
 ·rw [(hx x m).2.2];rcases h.par x m with e | ⟨p, p1, p2, p3⟩
  ·exact .inl e
  ·exact .inr ⟨p, p1, p2, by rw [(hx p p1).2.1]; exact p3⟩
 ·rw [(hx x m).2.1]; exact h.kn x m
 ·rw [(hx x m).2.1] at hk; exact h.dec x m k hk
theorem WT.add (h : WT l rk) {n : ND} (h1 : n.ID ∉ l.map ND.ID) (h2 : 0 ≤ n.ID) (h3 : n.kids = []) (h4 : n.parent = -1) : WT (l ++ [n]) rk := by
 refine ⟨?_, fun x hx k hk => ?_, fun x hx => ?_, fun x hx => ?_, fun x hx => ?_, fun x hx k hk => ?_⟩
 ·rw [List.map_append, List.nodup_append];refine ⟨h.nd, by simp, fun a ha b hb => ?_⟩;simp at hb; subst hb;rintro rfl; exact h1 ha
 all_goals rcases List.mem_append.1 hx with hx | hx
 all_goals try (simp only [List.mem_singleton] at hx; subst hx)
 ·obtain ⟨c, c1, c2⟩ := h.kids x hx k hk;exact ⟨c, List.mem_append_left _ c1, c2⟩
 ·rw [h3] at hk; cases hk
 ·rcases h.par x hx with e | ⟨p, p1, p2⟩
  ·exact .inl e
  ·exact .inr ⟨p, List.mem_append_left _ p1, p2⟩
 ·exact .inl h4
 ·exact h.nn x hx
 ·exact h2
 ·exact h.kn x hx
 ·rw [h3]; exact List.nodup_nil
 ·exact h.dec x hx k hk
 ·rw [h3] at hk; cases hk
theorem nB {K : List Int} {i : Nat} {x y : Int} : y ∈ dT K i x ↔ y = x ∨ y ∈ K := by
 unfold dT;rw [List.mem_append, List.mem_cons];have := List.mem_append (a := y) (s := K.take i) (t := K.drop i);rw [List.take_append_drop] at this;rw [this];constructor
 ·rintro (h | h | h)
  ·exact .inr (.inl h)
  ·exact .inl h
  ·exact .inr (.inr h)
 ·rintro (h | h | h)
  ·exact .inr (.inl h)
  ·exact .inl h
  ·exact .inr (.inr h)
theorem uH {K : List Int} {i : Nat} {x : Int} (h : K.Nodup) (hx : x ∉ K) : (dT K i x).Nodup := by
 unfold dT;have h0 : (K.take i ++ K.drop i).Nodup := by rw [List.take_append_drop]; exact h
 rw [List.nodup_append] at h0 ⊢;refine ⟨h0.1, List.nodup_cons.2 ⟨fun hm => hx (List.mem_of_mem_drop hm), h0.2.1⟩, fun a ha b hb => ?_⟩;rcases List.mem_cons.1 hb with rfl | hb
 ·rintro rfl; exact hx (List.mem_of_mem_take ha)
 ·exact h0.2.2 a ha b hb
theorem lT {K : List Int} {x y : Int} : y ∈ eN K x ↔ y ∈ K ∧ y ≠ x := by
 unfold eN; simp
theorem uI {K : List Int} {x : Int} (h : K.Nodup) : (eN K x).Nodup := h.sublist List.filter_sublist
theorem WT.ins (h : WT l rk) {p n : ND} (hp : p ∈ l) (hn : n ∈ l) (hpar : n.parent = -1) (hw : p.ID ∉ bY l rk n.ID) (i : Nat) :
  ∃ rk', WT (dC (dC l (eM p (dT p.kids i n.ID))) (uU n p.ID)) rk' := by
 have hd := h.Dec;have hne : p.ID ≠ n.ID := fun e => hw (by rw [e]; exact jE hd _)
 let f : ND → ND := fun x => if x.ID = n.ID then uU n p.ID else if x.ID = p.ID then eM p (dT p.kids i n.ID) else x
 have hl : dC (dC l (eM p (dT p.kids i n.ID))) (uU n p.ID) = l.map f := by
  unfold dC;rw [List.map_map];refine List.map_congr_left fun x hx => ?_;simp only [Function.comp, f];have e1 : (eM p (dT p.kids i n.ID)).ID = p.ID := rfl;have e2 : (uU n p.ID).ID = n.ID := rfl;rw [e1, e2];by_cases h1 : x.ID = p.ID
  ·rw [if_pos h1, if_neg (by rw [e1]; exact hne), if_neg (by rw [h1]; exact hne)]
  ·rw [if_neg h1]
 have fp : f p = eM p (dT p.kids i n.ID) := by simp only [f]; rw [if_neg hne]; simp
 have fn : f n = uU n p.ID := by simp only [f]; simp
 have fo : ∀ x ∈ l, x ≠ p → x ≠ n → f x = x := fun x hx h1 h2 => by
  simp only [f];rw [if_neg fun e => h2 (fN h.nd hx hn e), if_neg fun e => h1 (fN h.nd hx hp e)]
 have hpn : p ≠ n := fun e => hne (by rw [e]);have hID : ∀ x ∈ l, (f x).ID = x.ID := fun x hx => by
  by_cases h1 : x = p
  ·subst h1; rw [fp]; rfl
  ·by_cases h2 : x = n
   ·subst h2; rw [fn]; rfl
   ·rw [fo x hx h1 h2]
 have hkids : ∀ x ∈ l, x ≠ p → (f x).kids = x.kids := fun x hx h1 => by
  by_cases h2 : x = n
  ·subst h2; rw [fn]; rfl
  ·rw [fo x hx h1 h2]
 have hparx : ∀ x ∈ l, x ≠ n → (f x).parent = x.parent := fun x hx h2 => by
  by_cases h1 : x = p
  ·subst h1; rw [fp]; rfl
  ·rw [fo x hx h1 h2]
 have hpnn := h.nn p hp;have hnk : ∀ x ∈ l, n.ID ∉ x.kids := fun x hx hk => by
  obtain ⟨c, c1, c2, c3⟩ := h.kids x hx _ hk;have : c = n := fN h.nd c1 hn c2;subst this;have := h.nn x hx;omega
 refine ⟨fun x => if x ∈ bY l rk n.ID then rk x else rk x + (rk n.ID + 1), ?_⟩;rw [hl];refine h.map f _ hID (fun x hx k hk => ?_) (fun x hx => ?_) (fun x hx => ?_) (fun x hx k hk => ?_)
 ·by_cases h1 : x = p
  ·subst h1;rw [fp] at hk;rcases nB.1 hk with rfl | hk
   ·exact ⟨n, hn, rfl, by rw [fn]; rfl⟩
   ·obtain ⟨c, c1, c2, c3⟩ := h.kids x hx k hk;refine ⟨c, c1, c2, ?_⟩;rw [hparx c c1 (by rintro rfl; omega)]; exact c3
  ·rw [hkids x hx h1] at hk;obtain ⟨c, c1, c2, c3⟩ := h.kids x hx k hk;have := h.nn x hx;refine ⟨c, c1, c2, ?_⟩;rw [hparx c c1 (by rintro rfl; omega)]; exact c3
 ·by_cases h2 : x = n
  ·subst h2;rw [fn];exact .inr ⟨p, hp, rfl, by rw [fp]; exact nB.2 (.inl rfl)⟩
  ·rw [hparx x hx h2];rcases h.par x hx with e | ⟨q, q1, q2, q3⟩
   ·exact .inl e
   ·refine .inr ⟨q, q1, q2, ?_⟩;by_cases h1 : q = p
    ·subst h1; rw [fp]; exact nB.2 (.inr q3)
    ·rw [hkids q q1 h1]; exact q3
 ·by_cases h1 : x = p
  ·subst h1; rw [fp]; exact uH (h.kn x hx) (hnk x hx)
  ·rw [hkids x hx h1]; exact h.kn x hx
 ·have old : ∀ k ∈ x.kids, (if k ∈ bY l rk n.ID then rk k else rk k + (rk n.ID + 1)) < if x.ID ∈ bY l rk n.ID then rk x.ID else rk x.ID + (rk n.ID + 1) := fun k hk => by
   have h3 := h.dec x hx k hk;by_cases h4 : x.ID ∈ bY l rk n.ID
   ·rw [if_pos h4, if_pos (uP h hx hk h4)]; exact h3
   ·rw [if_neg h4]; split <;> omega
  by_cases h1 : x = p
  ·subst h1;rw [fp] at hk;rcases nB.1 hk with rfl | hk
   ·show (if n.ID ∈ bY l rk n.ID then _ else _) < if x.ID ∈ bY l rk n.ID then _ else _
    rw [if_pos (jE hd _), if_neg hw]; omega
   ·exact old k hk
  ·rw [hkids x hx h1] at hk; exact old k hk
theorem WT.mov (h : WT l rk) {p : ND} (hp : p ∈ l) {K : List Int} (hK : K.Nodup) (hm : ∀ k, k ∈ K ↔ k ∈ p.kids) : WT (dC l (eM p K)) rk := by
 have hx : ∀ x ∈ l, (if x.ID = (eM p K).ID then eM p K else x).ID = x.ID ∧ (∀ k, k ∈ (if x.ID = (eM p K).ID then eM p K else x).kids ↔ k ∈ x.kids) ∧ (if x.ID = (eM p K).ID then eM p K else x).parent = x.parent ∧ (if x.ID = (eM p K).ID then eM p K else x).kids.Nodup := by
  intro x hx;split
  ·rename_i e;have : x = p := fN h.nd hx hp e;subst this; exact ⟨rfl, hm, rfl, hK⟩
  ·exact ⟨rfl, fun k => Iff.rfl, rfl, h.kn x hx⟩
 refine h.map _ rk (fun x m => (hx x m).1) (fun x m k hk => ?_) (fun x m => ?_) (fun x m => (hx x m).2.2.2) (fun x m k hk => ?_)
 ·obtain ⟨c, c1, c2, c3⟩ := h.kids x m k (((hx x m).2.1 k).1 hk);exact ⟨c, c1, c2, by rw [(hx c c1).2.2.1]; exact c3⟩
 ·rw [(hx x m).2.2.1];rcases h.par x m with e | ⟨q, q1, q2, q3⟩
  ·exact .inl e
  ·exact .inr ⟨q, q1, q2, ((hx q q1).2.1 _).2 q3⟩
 ·exact h.dec x m k (((hx x m).2.1 k).1 hk)
theorem sF (hnd : (l.map ND.ID).Nodup) {p p' : ND} (hp : p ∈ l) (e : p'.ID = p.ID) (id : Int) : aM (dC l p') id = if id = p.ID then p' else aM l id := by
 have hnd' : ((dC l p').map ND.ID).Nodup := by
  have : (dC l p').map ND.ID = l.map ND.ID := by
   unfold dC; rw [List.map_map];refine List.map_congr_left fun x hx => ?_;simp only [Function.comp]; split
   ·rename_i h; exact h.symm
   ·rfl
  rw [this]; exact hnd
 split
 ·rename_i h;subst h;have hm : p' ∈ dC l p' := List.mem_map.2 ⟨p, hp, by rw [if_pos e.symm]⟩;rw [← e]; exact gZ hnd' hm
 ·rename_i h;cases hl : dQ l id with
  | true =>
   obtain ⟨x, x1, x2, x3⟩ := eB hl;have hx : x ∈ dC l p' := List.mem_map.2 ⟨x, x1, by rw [if_neg (by rw [x2, e]; exact h)]⟩;rw [x3, ← x2]; exact gZ hnd' hx
  | false =>
   rw [eV hl];refine eV ?_;cases hl2 : dQ (dC l p') id with
   | false => rfl
   | true =>
    obtain ⟨y, y1, y2⟩ := gJ.1 hl2;obtain ⟨x, hx, hy⟩ := List.mem_map.1 y1;have : dQ l id = true := by
     refine gJ.2 ⟨x, hx, ?_⟩;rw [← y2, ← hy];split
     ·rename_i h; exact h
     ·rfl
    rw [hl] at this; cases this
theorem Il (p' : ND) (id : Int) : dQ (dC l p') id = dQ l id := by
 rw [Bool.eq_iff_iff, gJ, gJ];constructor
 ·rintro ⟨y, y1, y2⟩;obtain ⟨x, hx, hy⟩ := List.mem_map.1 y1;refine ⟨x, hx, ?_⟩;rw [← y2, ← hy];split
  ·rename_i h; exact h
  ·rfl
 ·rintro ⟨x, x1, x2⟩;refine ⟨_, List.mem_map.2 ⟨x, x1, rfl⟩, ?_⟩;split
  ·rename_i h; rw [← h]; exact x2
  ·exact x2
theorem Dec.rem (h : WT l rk) (id : Int) : Dec (remP l id) rk := fun i k hk => by
 unfold remP at hk;split at hk
 ·rename_i hp;obtain ⟨p, p1, p2, p3⟩ := eB hp;rw [p3, sF h.nd p1 (p' := eM p (eN p.kids id)) rfl] at hk;split at hk
  ·rename_i e;subst e;exact h.dec p p1 k (lT.1 hk).1
  ·exact h.Dec i k hk
 ·exact h.Dec i k hk
theorem Dm (h : WT l rk) (id j : Int) : ((aM (remP l id) j).kids).Sublist (aM l j).kids := by
 unfold remP;split
 ·rename_i hp;obtain ⟨p, p1, p2, p3⟩ := eB hp;rw [p3, sF h.nd p1 (p' := eM p (eN p.kids id)) rfl];split
  ·rename_i e;subst e;rw [gZ h.nd p1];exact List.filter_sublist
  ·exact List.Sublist.refl _
 ·exact List.Sublist.refl _
theorem Bj {K1 K : List Int} (hs : K1.Sublist K) {f g : Int → List Int} (h : ∀ k ∈ K, (f k).length ≤ (g k).length) : (K1.flatMap f).length ≤ (K.flatMap g).length := by
 induction hs with
 | slnil => simp
 | cons a hs ih =>
  rw [List.flatMap_cons, List.length_append];have := ih fun k hk => h k (by simp [hk]);omega
 | cons_cons a hs ih =>
  rw [List.flatMap_cons, List.flatMap_cons, List.length_append, List.length_append];have h1 := ih fun k hk => h k (by simp [hk]);have h2 := h a (by simp);omega
theorem Wo (h : WT l rk) (id : Int) : ∀ j, (bY (remP l id) rk j).length ≤ (bY l rk j).length := by
 intro j;generalize hm : rk j = m;induction m using Nat.strongRecOn generalizing j with
 | _ m ih =>
  rw [gG (Dec.rem h id), gG h.Dec, List.length_cons, List.length_cons];have := Bj (Dm h id j) (f := bY (remP l id) rk) (g := bY l rk) fun k hk => ih (rk k) (by have := h.Dec j k hk; omega) k rfl;omega
theorem Sv (h : WT l rk) (hl : l.length ≤ 1000) (id : Int) : Tr (remP l id) (bY (remP l id) rk) rk :=
 ⟨gG (Dec.rem h id), Dec.rem h id, fun j => by have h1 := Wo h id j; have h2 := Ii h j; omega⟩
theorem Yd (h : WT l rk) {n : ND} (hn : n ∈ l) : ∀ j, rk j ≤ rk n.ID → bY (remP l n.ID) rk j = bY l rk j := by
 intro j;generalize hm : rk j = m;induction m using Nat.strongRecOn generalizing j with
 | _ m ih =>
  intro hj;have hk : (aM (remP l n.ID) j).kids = (aM l j).kids := by
   unfold remP;split
   ·rename_i hp;rw [gZ h.nd hn] at hp ⊢;obtain ⟨p, p1, p2, p3⟩ := eB hp;rw [p3, sF h.nd p1 (p' := eM p (eN p.kids n.ID)) rfl];split
    ·rename_i e;subst e;exfalso;rcases h.par n hn with e | ⟨q, q1, q2, q3⟩
     ·have := h.nn p p1; omega
     ·have : q = p := fN h.nd q1 p1 (by rw [q2, p2]);subst this;have := h.dec q q1 _ q3;omega
    ·rfl
   ·rfl
  rw [gG (Dec.rem h _), gG h.Dec, hk];congr 1;refine kR fun k hk' => ?_;have := h.Dec j k hk';exact ih (rk k) (by omega) k rfl (by omega)
theorem wT (B : List Int) (i : Int) : (B.any fun k => decide (k = i)) = true ↔ i ∈ B := by rw [tZ]; simp
theorem WT.rem (h : WT l rk) {n : ND} (hn : n ∈ l) : WT (lW (remP l n.ID) (bY l rk n.ID)) rk := by
 have hd := h.Dec
 let pid := n.parent
 let f : ND → ND := fun x => if dQ l n.parent = true ∧ x.ID = n.parent then eM x (eN x.kids n.ID) else x
 have hl : remP l n.ID = l.map f := by
  unfold remP;rw [gZ h.nd hn];split
  ·rename_i hp;obtain ⟨p, p1, p2, p3⟩ := eB hp;unfold dC;refine List.map_congr_left fun x hx => ?_;rw [p3];have e1 : (eM p (eN p.kids n.ID)).ID = p.ID := rfl;simp only [f, e1];by_cases e : x.ID = p.ID
   ·have : x = p := fN h.nd hx p1 e;subst this;rw [if_pos rfl, if_pos ⟨hp, p2⟩]
   ·rw [if_neg e, if_neg fun e2 => e (by rw [e2.2, p2])]
  ·rename_i hp;rw [List.map_congr_left (g := id)]
   ·simp
   ·intro x _; simp only [f]; rw [if_neg fun e => hp e.1]; rfl
 have fID : ∀ x, (f x).ID = x.ID := fun x => by simp only [f]; split <;> rfl
 have fpar : ∀ x, (f x).parent = x.parent := fun x => by simp only [f]; split <;> rfl
 have fk : ∀ x k, k ∈ (f x).kids → k ∈ x.kids := fun x k hk => by
  simp only [f] at hk;split at hk
  ·exact (lT.1 hk).1
  ·exact hk
 have fk2 : ∀ x k, k ∈ x.kids → k ≠ n.ID → k ∈ (f x).kids := fun x k hk hne => by
  simp only [f];split
  ·exact lT.2 ⟨hk, hne⟩
  ·exact hk
 have hB : ∀ y, y ∈ lW (remP l n.ID) (bY l rk n.ID) ↔ ∃ x ∈ l, f x = y ∧ x.ID ∉ bY l rk n.ID := fun y => by
  unfold lW;rw [List.mem_filter, hl, List.mem_map];constructor
  ·rintro ⟨⟨x, hx, rfl⟩, hb⟩;refine ⟨x, hx, rfl, fun hm => ?_⟩;rw [fID] at hb;rw [(wT _ _).2 hm] at hb; cases hb
  ·rintro ⟨x, hx, rfl, hb⟩;refine ⟨⟨x, hx, rfl⟩, ?_⟩;rw [fID];cases hc : (bY l rk n.ID).any fun k => decide (k = x.ID) with
   | false => rfl
   | true => exact absurd ((wT _ _).1 hc) hb
 have hself := jE hd n.ID;refine ⟨?_, fun y hy k hk => ?_, fun y hy => ?_, fun y hy => ?_, fun y hy => ?_, fun y hy k hk => ?_⟩
 ·have : (lW (remP l n.ID) (bY l rk n.ID)).map ND.ID = (l.filter fun x => !(bY l rk n.ID).any fun k => decide (k = x.ID)).map ND.ID := by
   unfold lW;rw [hl, List.filter_map, List.map_map];have e1 : ((fun n_1 : ND => !(bY l rk n.ID).any fun k => decide (k = n_1.ID)) ∘ f) = fun x => !(bY l rk n.ID).any fun k => decide (k = x.ID) := by
    funext x; simp only [Function.comp, fID]
   rw [e1];exact List.map_congr_left fun x _ => fID x
  rw [this];exact h.nd.sublist (List.Sublist.map _ List.filter_sublist)
 all_goals obtain ⟨x, hx, rfl, hb⟩ := (hB _).1 hy
 ·have hkx := fk x k hk;obtain ⟨c, c1, c2, c3⟩ := h.kids x hx k hkx;refine ⟨f c, (hB _).2 ⟨c, c1, rfl, fun hm => ?_⟩, by rw [fID, c2], by rw [fpar, fID, c3]⟩;rcases mY h c1 hm with e | ⟨q, q1, q2, q3, q4⟩
  ·have : c = n := fN h.nd c1 hn e;subst this
   -- its parent qB it no more
   have hpl : dQ l c.parent = true := gJ.2 ⟨x, hx, c3.symm⟩;simp only [f] at hk;rw [if_pos ⟨hpl, c3.symm⟩] at hk;exact (lT.1 hk).2 c2.symm
  ·have : q = x := fN h.nd q1 hx (by rw [q2, c3]);subst this; exact hb q4
 ·rw [fpar, fID];rcases h.par x hx with e | ⟨p, p1, p2, p3⟩
  ·exact .inl e
  ·refine .inr ⟨f p, (hB _).2 ⟨p, p1, rfl, fun hm => hb (uP h p1 p3 hm)⟩, by rw [fID, p2], fk2 p _ p3 fun e => hb (by rw [e]; exact hself)⟩
 ·rw [fID]; exact h.nn x hx
 ·simp only [f];split
  ·exact uI (h.kn x hx)
  ·exact h.kn x hx
 ·rw [fID]; exact h.dec x hx k (fk x k hk)
end Go.Proofs.YtpfmpeaekgdgnaaGreat
namespace Go.Proofs.YtpfmpeaekgdgnaaGreat
open Go Go.Vm
set_option linter.all false
variable {k m M : Nat} {d : DS} {rk : Int → Nat} {σ : List (List D)}
theorem Vv (es : List EN) {e : EN} {n' : ND} (hid : ∀ x ∈ es, x.o = e.o → x.n.ID = n'.ID) : (Ax es e.o n').map Bg = es.map Bg := by
 unfold Ax;rw [List.map_map];refine List.map_congr_left fun x hx => ?_;simp only [Function.comp];split
 ·rename_i h; simp only [Bg, hid x hx h]
 ·rfl
theorem aAf (es : List EN) (o : Nat) (n' : ND) : (Ax es o n').map EN.o = es.map EN.o := by
 unfold Ax;rw [List.map_map];refine List.map_congr_left fun x hx => ?_;simp only [Function.comp]; split <;> rfl
theorem DO.upd (h : DO m M d σ) {e : EN} (he : e ∈ d.es) {n' : ND} (hid : n'.ID = e.n.ID) : DO m M (nU d e.o n') (σ.set e.o (dD n')) := by
 have hx : ∀ x ∈ d.es, x.o = e.o → x.n.ID = n'.ID := fun x hx ho => by rw [yT h.nd hx he ho, hid]
 have hdc : kM M (nU d e.o n') = kM M d := by simp only [nU, kM, Vv d.es hx]
 refine ⟨?_, fun y hy => ?_, fun y hy => ?_, ?_, by rw [List.length_set]; exact h.hM⟩
 ·rw [List.getElem?_set_ne (h.nm e he), hdc]; exact h.hm
 ·obtain ⟨x, hx', rfl⟩ := List.mem_map.1 hy;by_cases ho : x.o = e.o
  ·rw [if_pos ho];show (σ.set e.o (dD n'))[x.o]? = some (dD n')
   rw [ho]; exact aJ (h.hn e he) _
  ·rw [if_neg ho, List.getElem?_set_ne (Ne.symm ho)]; exact h.hn x hx'
 ·obtain ⟨x, hx', rfl⟩ := List.mem_map.1 hy;split <;> exact h.nm x hx'
 ·show ((Ax d.es e.o n').map EN.o).Nodup
  rw [aAf]; exact h.nd
theorem sZ (ho : (d.es.map EN.o).Nodup) (hn : (d.l.map ND.ID).Nodup) {e : EN} (he : e ∈ d.es) {n' : ND} (hid : n'.ID = e.n.ID) : (nU d e.o n').l = dC d.l n' := by
 unfold nU Ax dC;simp only [DS.l, List.map_map];refine List.map_congr_left fun x hx => ?_;simp only [Function.comp];by_cases h : x.o = e.o
 ·have := yT ho hx he h;subst this;rw [if_pos rfl, if_pos hid.symm]
 ·rw [if_neg h, if_neg];intro h2;apply h;have h3 : x.n = e.n := fN hn (dJ hx) (dJ he) (by rw [h2, hid]);obtain ⟨i, hi, rfl⟩ := List.getElem_of_mem hx;obtain ⟨j, hj, rfl⟩ := List.getElem_of_mem he;have hp := List.pairwise_iff_getElem.1 hn;rcases Nat.lt_trichotomy i j with h1 | rfl | h1
  ·exact absurd (congrArg ND.ID h3) (by have := hp i j (by simpa using hi) (by simpa using hj) h1; simpa using this)
  ·rfl
  ·exact absurd (congrArg ND.ID h3.symm) (by have := hp j i (by simpa using hj) (by simpa using hi) h1; simpa using this)
theorem To {es : List EN} {x : EN} {o : Nat} {n' : ND} (hx : x ∈ es) (h : x.o ≠ o) : x ∈ Ax es o n' := List.mem_map.2 ⟨x, hx, by rw [if_neg h]⟩
theorem lU (l : List ND) (n' : ND) : (dC l n').map ND.ID = l.map ND.ID := by
 unfold dC; rw [List.map_map];refine List.map_congr_left fun x hx => ?_;simp only [Function.comp]; split
 ·rename_i h; exact h.symm
 ·rfl
theorem DO.add (h : DO m M d σ) (n : ND) : DO m M (mD d n σ.length) (σ.set m (kM M (mD d n σ.length)) ++ [dD n]) := by
 refine ⟨bO h.hm _ _, fun y hy => ?_, fun y hy => ?_, ?_, by rw [List.length_append, List.length_set]; have := h.hM; omega⟩
 ·rcases List.mem_append.1 hy with hy | hy
  ·rw [List.getElem?_append_left (by rw [List.length_set]; exact h.lt hy), List.getElem?_set_ne (Ne.symm (h.nm y hy))]; exact h.hn y hy
  ·simp only [List.mem_singleton] at hy; subst hy;show (σ.set m _ ++ [dD n])[σ.length]? = _
   rw [List.getElem?_append_right (by simp)]; simp
 ·rcases List.mem_append.1 hy with hy | hy
  ·exact h.nm y hy
  ·simp only [List.mem_singleton] at hy; subst hy;have := gU h.hm;show σ.length ≠ m; omega
 ·show ((d.es ++ [_]).map EN.o).Nodup
  rw [List.map_append, List.nodup_append];refine ⟨h.nd, by simp, fun a ha b hb => ?_⟩;simp at hb; subst hb;obtain ⟨x, hx, rfl⟩ := List.mem_map.1 ha;have := h.lt hx; omega
theorem DO.del (h : DO m M d σ) (g : List Int) : DO m M (mP d g) (σ.set m (kM M (mP d g))) := by
 have hm : ∀ y ∈ (mP d g).es, y ∈ d.es := fun y hy => (List.mem_filter.1 hy).1;refine ⟨aJ h.hm _, fun y hy => ?_, fun y hy => h.nm y (hm y hy), h.nd.sublist (List.Sublist.map _ List.filter_sublist), by rw [List.length_set]; exact h.hM⟩;rw [List.getElem?_set_ne (Ne.symm (h.nm y (hm y hy)))]; exact h.hn y (hm y hy)
theorem Hc (d : DS) (g : List Int) : (mP d g).l = lW d.l g := by
 unfold mP lW;simp only [DS.l, List.filter_map];rfl
structure IP0 (k : Nat) (d : DS) : Prop where
 nd : (d.l.map ND.ID).Nodup
 len : d.es.length ≤ k + 1
 most : 1 ≤ d.most ∧ d.most ≤ 65536
 nx : 1 ≤ d.next ∧ d.next ≤ k + 1
 lt : ∀ n ∈ d.l, n.ID < d.next
 sz : ∀ n ∈ d.l, n.kids.length ≤ k ∧ n.classes.length ≤ k ∧ n.attrs.length ≤ k ∧ n.styles.length ≤ k
 st : ∀ n ∈ d.l, cC nA n.attrs ∧ cC nP n.styles
 rt : ∃ n ∈ d.l, n.ID = 0 ∧ n.parent = -1 ∧ n.kind = 2
 kd : ∀ n ∈ d.l, n.kind = 1 ∨ n.kind = 2
 room : (d.es.length : Int) - 1 ≤ d.most
structure IV (k m M : Nat) (d : DS) (rk : Int → Nat) (σ : List (List D)) : Prop where
 ho : DO m M d σ
 ip : IP0 k d
 wt : WT d.l rk
theorem IP0.mono (h : IP0 k d) {k' : Nat} (hk : k ≤ k') : IP0 k' d :=
 ⟨h.nd, by have := h.len; omega, h.most, ⟨h.nx.1, by have := h.nx.2; omega⟩, h.lt, fun n hn => by obtain ⟨a, b, c, e⟩ := h.sz n hn; exact ⟨by omega, by omega, by omega, by omega⟩, h.st, h.rt, h.kd, h.room⟩
theorem IV.mono (h : IV k m M d rk σ) : IV (k + 1) m M d rk σ := ⟨h.ho, h.ip.mono (by omega), h.wt⟩
theorem IV.app (h : IV k m M d rk σ) (J : List (List D)) : IV k m M d rk (σ ++ J) := ⟨h.ho.app J, h.ip, h.wt⟩
theorem IP0.NB (h : IP0 k d) (hk : k ≤ 900) : NB d.l :=
 ⟨by have := h.len; simp only [DS.l, List.length_map]; omega, fun n hn => by have := (h.sz n hn).1; omega, fun n hn => by have := (h.sz n hn).2.1; omega, fun n hn => by have := (h.sz n hn).2.2.1; omega, fun n hn => by have := (h.sz n hn).2.2.2; omega⟩
theorem mV (d : DS) : d.l.length = d.es.length := by simp
theorem IV.WD (h : IV k m M d rk σ) (hk : k ≤ 900) : WD d (bY d.l rk) rk :=
 ⟨h.ip.NB hk, fun e he => gZ h.ip.nd (dJ he), h.wt.Tr (by have := h.ip.len; rw [mV]; omega), fun e he k hk => by
  obtain ⟨c, c1, c2, _⟩ := h.wt.kids _ (dJ he) k hk;exact gJ.2 ⟨c, c1, c2⟩⟩
theorem aBp {n : ND} (h : n ∈ d.l) : ∃ e ∈ d.es, e.n = n := List.mem_map.1 h
theorem IV.WP (h : IV k m M d rk σ) : WP d := by
 refine ⟨fun e he => ?_, fun e he => h.wt.nn _ (dJ he)⟩;rcases h.wt.par _ (dJ he) with e1 | ⟨p, p1, p2, p3⟩
 ·exact .inl e1
 ·obtain ⟨q, q1, rfl⟩ := aBp p1;refine .inr ⟨q, q1, p2, fun ho => ?_⟩;have := yT h.ho.nd q1 he ho;subst this;have := h.wt.dec _ p1 _ p3;omega
theorem IP0.root (h : IP0 k d) : dQ d.l 0 = true := by
 obtain ⟨n, h1, h2, _⟩ := h.rt;exact gJ.2 ⟨n, h1, h2⟩
theorem IP0.fresh (h : IP0 k d) : dQ d.l d.next = false := by
 cases hl : dQ d.l d.next with
 | false => rfl
 | true => obtain ⟨n, h1, h2⟩ := gJ.1 hl; have := h.lt n h1; omega
theorem Cc (d : DS) (o : Nat) (n' : ND) : (nU d o n').es.length = d.es.length := by simp [nU, Ax]
theorem IP0.put (h : IP0 k d) (ho : (d.es.map EN.o).Nodup) {e : EN} (he : e ∈ d.es) {n' : ND} {k' : Nat} (hk : k ≤ k') (hid : n'.ID = e.n.ID) (hs : n'.kids.length ≤ k' ∧ n'.classes.length ≤ k' ∧ n'.attrs.length ≤ k' ∧ n'.styles.length ≤ k')
  (hst : cC nA n'.attrs ∧ cC nP n'.styles) (hr : n'.ID = 0 → n'.parent = e.n.parent) (hkd : n'.kind = e.n.kind) : IP0 k' (nU d e.o n') := by
 have hl := sZ ho h.nd he hid;have hm : ∀ y ∈ (nU d e.o n').l, y = n' ∨ y ∈ d.l := fun y hy => by
  rw [hl] at hy;unfold dC at hy;obtain ⟨x, hx, rfl⟩ := List.mem_map.1 hy;split
  ·exact .inl rfl
  ·exact .inr hx
 refine ⟨by rw [hl, lU]; exact h.nd, by rw [Cc]; have := h.len; omega, h.most, ⟨h.nx.1, by have := h.nx.2; show d.next ≤ _; omega⟩, fun y hy => ?_, fun y hy => ?_, fun y hy => ?_, ?_, fun y hy => ?_, by rw [Cc]; exact h.room⟩
 ·rcases hm y hy with rfl | hy
  ·rw [hid]; exact h.lt _ (dJ he)
  ·exact h.lt y hy
 ·rcases hm y hy with rfl | hy
  ·exact hs
  ·obtain ⟨a, b, c, e⟩ := h.sz y hy; exact ⟨by omega, by omega, by omega, by omega⟩
 ·rcases hm y hy with rfl | hy
  ·exact hst
  ·exact h.st y hy
 ·obtain ⟨r, r1, r2, r3, r4⟩ := h.rt;rw [hl];by_cases e0 : r.ID = n'.ID
  ·have : r = e.n := fN h.nd r1 (dJ he) (by rw [e0, hid]);subst this;exact ⟨n', List.mem_map.2 ⟨e.n, r1, by rw [if_pos e0]⟩, by rw [← e0, r2], by rw [hr (by rw [← e0, r2]), r3], by rw [hkd, r4]⟩
  ·exact ⟨r, List.mem_map.2 ⟨r, r1, by rw [if_neg e0]⟩, r2, r3, r4⟩
 ·rcases hm y hy with rfl | hy
  ·rw [hkd]; exact h.kd _ (dJ he)
  ·exact h.kd y hy
theorem IV.add (h : IV k m M d rk σ) {n : ND} (hr : (d.es.length : Int) - 1 < d.most) (h1 : n.ID = d.next) (h3 : n.kids = []) (h4 : n.parent = -1) (h5 : n.classes = []) (h6 : n.attrs = []) (h7 : n.styles = []) (h8 : n.kind = 1 ∨ n.kind = 2) : IV (k + 1) m M (mD d n σ.length) rk (σ.set m (kM M (mD d n σ.length)) ++ [dD n]) := by
 have hl : (mD d n σ.length).l = d.l ++ [n] := by simp [mD, DS.l]
 have hm : ∀ y ∈ (mD d n σ.length).l, y ∈ d.l ∨ y = n := fun y hy => by rw [hl] at hy; simpa using hy
 have hnin : n.ID ∉ d.l.map ND.ID := fun hm => by
  obtain ⟨x, hx, e⟩ := List.mem_map.1 hm;have := h.ip.lt x hx; omega
 have hwt : WT (mD d n σ.length).l rk := by rw [hl]; exact h.wt.add hnin (by have := h.ip.nx.1; omega) h3 h4
 refine ⟨h.ho.add n, ⟨hwt.nd, ?_, h.ip.most, ?_, fun y hy => ?_, fun y hy => ?_, fun y hy => ?_, ?_, fun y hy => ?_, ?_⟩, hwt⟩
 ·have := h.ip.len; simp only [mD, List.length_append, List.length_cons, List.length_nil]; omega
 ·have := h.ip.nx; show 1 ≤ d.next + 1 ∧ d.next + 1 ≤ ((k + 1 : Nat) : Int) + 1; omega
 ·show y.ID < d.next + 1
  rcases hm y hy with hy | rfl
  ·have := h.ip.lt y hy; omega
  ·omega
 ·rcases hm y hy with hy | rfl
  ·obtain ⟨a, b, c, e⟩ := h.ip.sz y hy; exact ⟨by omega, by omega, by omega, by omega⟩
  ·rw [h3, h5, h6, h7]; simp
 ·rcases hm y hy with hy | rfl
  ·exact h.ip.st y hy
  ·rw [h6, h7]; exact ⟨List.Pairwise.nil, List.Pairwise.nil⟩
 ·obtain ⟨r, r1, r2⟩ := h.ip.rt;exact ⟨r, by rw [hl]; exact List.mem_append_left _ r1, r2⟩
 ·rcases hm y hy with hy | rfl
  ·exact h.ip.kd y hy
  ·exact h8
 ·simp only [mD, List.length_append, List.length_cons, List.length_nil];omega
theorem IV.set (h : IV k m M d rk σ) {e : EN} (he : e ∈ d.es) {n' : ND} (hid : n'.ID = e.n.ID) (h2 : n'.kids = e.n.kids) (h3 : n'.parent = e.n.parent) (h4 : n'.kind = e.n.kind) (hs : n'.classes.length ≤ k + 1 ∧ n'.attrs.length ≤ k + 1 ∧ n'.styles.length ≤ k + 1) (hst : cC nA n'.attrs ∧ cC nP n'.styles) :
  IV (k + 1) m M (nU d e.o n') rk (σ.set e.o (dD n')) ∧ (nU d e.o n').x = ⟨d.most, d.next, dC d.l n'⟩ := by
 have hl := sZ h.ho.nd h.ip.nd he hid;have hk := (h.ip.sz _ (dJ he)).1;refine ⟨⟨h.ho.upd he hid, h.ip.put h.ho.nd he (by omega) hid ⟨by rw [h2]; omega, hs⟩ hst (fun _ => h3) h4, by rw [hl]; exact h.wt.put (dJ he) hid h2 h3⟩, ?_⟩;show (⟨d.most, d.next, (nU d e.o n').l⟩ : RD) = _
 rw [hl]
theorem jV (n : ND) (K : List Int) : (eM n K).ID = n.ID := rfl
theorem Ab (n : ND) (p : Int) : (uU n p).ID = n.ID := rfl
theorem nH (d : DS) (o : Nat) (n' : ND) : ∀ e ∈ (nU d o n').es, ∃ e0 ∈ d.es, e0.o = e.o := fun e he => by
 obtain ⟨x, hx, rfl⟩ := List.mem_map.1 he;exact ⟨x, hx, by split <;> rfl⟩
theorem IV.ins (h : IV k m M d rk σ) {p n : EN} (hp : p ∈ d.es) (hn : n ∈ d.es) (hpar : n.n.parent = -1) (h0 : ¬ n.n.ID = 0) (hw : p.n.ID ∉ bY d.l rk n.n.ID) (i : Nat) (hi : i ≤ p.n.kids.length) :
  ∃ d' rk', IV (k + 1) m M d' rk' ((σ.set p.o (dD (eM p.n (dT p.n.kids i n.n.ID)))).set n.o (dD (uU n.n p.n.ID))) ∧ d'.x = ⟨d.most, d.next, dC (dC d.l (eM p.n (dT p.n.kids i n.n.ID))) (uU n.n p.n.ID)⟩ ∧ ∀ e ∈ d'.es, ∃ e0 ∈ d.es, e0.o = e.o := by
 have hne : n.o ≠ p.o := fun e => by
  have := yT h.ho.nd hn hp e;subst this;exact hw (jE h.wt.Dec _)
 obtain ⟨rk', hwt⟩ := h.wt.ins (dJ hp) (dJ hn) hpar hw i;have hd1 := h.ho.upd hp (jV p.n (dT p.n.kids i n.n.ID));have hn1 : n ∈ (nU d p.o (eM p.n (dT p.n.kids i n.n.ID))).es := To hn hne;obtain ⟨s1, s2, s3, s4⟩ := h.ip.sz _ (dJ hp);obtain ⟨t1, t2, t3, t4⟩ := h.ip.sz _ (dJ hn);have hp1 := h.ip.put h.ho.nd hp (k' := k + 1) (by omega) (jV p.n (dT p.n.kids i n.n.ID)) ⟨by show (dT _ _ _).length ≤ _; rw [eP _ _ _ hi]; omega, by show p.n.classes.length ≤ _; omega, by show p.n.attrs.length ≤ _; omega, by show p.n.styles.length ≤ _; omega⟩ (h.ip.st p.n (dJ hp)) (fun _ => rfl) rfl;have hl1 := sZ h.ho.nd h.ip.nd hp (jV p.n (dT p.n.kids i n.n.ID));have hd2 := hd1.upd hn1 (Ab n.n p.n.ID);have hp2 := hp1.put hd1.nd hn1 (k' := k + 1) (Nat.le_refl _) (Ab n.n p.n.ID) ⟨by show n.n.kids.length ≤ _; omega, by show n.n.classes.length ≤ _; omega, by show n.n.attrs.length ≤ _; omega, by show n.n.styles.length ≤ _; omega⟩ (h.ip.st n.n (dJ hn)) (fun e => absurd e h0) rfl;have hl2 := sZ hd1.nd hp1.nd hn1 (Ab n.n p.n.ID);refine ⟨_, rk', ⟨hd2, hp2, by rw [hl2, hl1]; exact hwt⟩, ?_, fun e he => by
  obtain ⟨e1, h1, q1⟩ := nH _ _ _ e he;obtain ⟨e2, h2, q2⟩ := nH _ _ _ e1 h1;exact ⟨e2, h2, q2.trans q1⟩⟩
 show (⟨d.most, d.next, (nU _ n.o _).l⟩ : RD) = _
 rw [hl2, hl1]
theorem IV.mov (h : IV k m M d rk σ) {p : EN} (hp : p ∈ d.es) {K : List Int} (hK : K.Nodup) (hm : ∀ j, j ∈ K ↔ j ∈ p.n.kids) (hlen : K.length ≤ k + 1) :
  ∃ d', IV (k + 1) m M d' rk (σ.set p.o (dD (eM p.n K))) ∧ d'.x = ⟨d.most, d.next, dC d.l (eM p.n K)⟩ ∧ ∀ e ∈ d'.es, ∃ e0 ∈ d.es, e0.o = e.o := by
 obtain ⟨s1, s2, s3, s4⟩ := h.ip.sz _ (dJ hp);have hl := sZ h.ho.nd h.ip.nd hp (jV p.n K);refine ⟨_, ⟨h.ho.upd hp (jV p.n K), h.ip.put h.ho.nd hp (k' := k + 1) (by omega) (jV p.n K) ⟨hlen, by show p.n.classes.length ≤ _; omega, by show p.n.attrs.length ≤ _; omega, by show p.n.styles.length ≤ _; omega⟩ (h.ip.st p.n (dJ hp)) (fun _ => rfl) rfl, by rw [hl]; exact h.wt.mov (dJ hp) hK hm⟩, ?_, nH _ _ _⟩;show (⟨d.most, d.next, (nU _ p.o _).l⟩ : RD) = _
 rw [hl]
end Go.Proofs.YtpfmpeaekgdgnaaGreat
namespace Go.Proofs.YtpfmpeaekgdgnaaGreat
open Go Go.Vm
set_option linter.all false
set_option maxHeartbeats 1000000
structure FrO (m : Nat) (d d' : DS) (σ σ' : List (List D)) : Prop where
 len : σ.length ≤ σ'.length
 keep : ∀ i, i < σ.length → i ≠ m → (∀ e ∈ d.es, e.o ≠ i) → σ'[i]? = σ[i]?
 own : ∀ e ∈ d'.es, (∃ e0 ∈ d.es, e0.o = e.o) ∨ σ.length ≤ e.o
theorem FrO.refl (m : Nat) (d : DS) (σ : List (List D)) : FrO m d d σ σ := ⟨Nat.le_refl _, fun _ _ _ _ => rfl, fun e he => .inl ⟨e, he, rfl⟩⟩
theorem FrO.upd {m : Nat} {d d' : DS} {σ : List (List D)} {e : EN} (he : e ∈ d.es) (c : List D) (ho : ∀ e ∈ d'.es, ∃ e0 ∈ d.es, e0.o = e.o) : FrO m d d' σ (σ.set e.o c) :=
 ⟨by rw [List.length_set]; exact Nat.le_refl _, fun i _ _ h => by rw [List.getElem?_set_ne (h e he)], fun x hx => .inl (ho x hx)⟩
theorem FrO.upd2 {m : Nat} {d d' : DS} {σ : List (List D)} {e f : EN} (he : e ∈ d.es) (hf : f ∈ d.es) (c c' : List D) (ho : ∀ e ∈ d'.es, ∃ e0 ∈ d.es, e0.o = e.o) : FrO m d d' σ ((σ.set e.o c).set f.o c') :=
 ⟨by rw [List.length_set, List.length_set]; exact Nat.le_refl _, fun i _ _ h => by rw [List.getElem?_set_ne (h f hf), List.getElem?_set_ne (h e he)], fun x hx => .inl (ho x hx)⟩
theorem FrO.add {m : Nat} {d : DS} {σ : List (List D)} {n : ND} {c c' : List D} : FrO m d (mD d n σ.length) σ (σ.set m c ++ [c']) :=
 ⟨by simp, fun i hi hm _ => by rw [List.getElem?_append_left (by rw [List.length_set]; exact hi), List.getElem?_set_ne (Ne.symm hm)], fun x hx => by
  rcases List.mem_append.1 hx with h | h
  ·exact .inl ⟨x, h, rfl⟩
  ·simp only [List.mem_singleton] at h; subst h; exact .inr (Nat.le_refl _)⟩
def DetQ (F : FuncId) (args : List D) (σ : List (List D)) (d : DS) (k m M : Nat) (y : RD × Int) : Prop := ∃ d' rk' σ', Ct Tryz.prog F args σ (fun r τ => r = D.int y.2 ∧ τ = σ') ∧ IV (k + 1) m M d' rk' σ' ∧ d'.x = y.1 ∧ FrO m d d' σ σ'
def DetA (F : FuncId) (args : List D) (σ : List (List D)) (d : DS) (k m M : Nat) (y : RD × Int × Int) : Prop := ∃ d' rk' σ', Ct Tryz.prog F args σ (fun r τ => r = .tup [D.int y.2.1, D.int y.2.2] ∧ τ = σ') ∧ IV (k + 1) m M d' rk' σ' ∧ d'.x = y.1 ∧ FrO m d d' σ σ'
variable {k m M : Nat} {d : DS} {rk : Int → Nat} {σ : List (List D)}
theorem DetQ.same {F : FuncId} {args : List D} (h : IV k m M d rk σ) {y : RD × Int} (hc : Ct Tryz.prog F args σ (fun r τ => r = D.int y.2 ∧ τ = σ)) (hy : y.1 = d.x) : DetQ F args σ d k m M y := ⟨d, rk, σ, hc, h.mono, hy.symm, FrO.refl _ _ _⟩
theorem DetA.same {F : FuncId} {args : List D} (h : IV k m M d rk σ) {y : RD × Int × Int} (hc : Ct Tryz.prog F args σ (fun r τ => r = .tup [D.int y.2.1, D.int y.2.2] ∧ τ = σ)) (hy : y.1 = d.x) : DetA F args σ d k m M y := ⟨d, rk, σ, hc, h.mono, hy.symm, FrO.refl _ _ _⟩
theorem Tz {N m : Nat} {σ σ1 : List (List D)} {a : List D} (h1 : ∀ (i : Nat) (cs : List D), σ1[i]? = some cs → σ[i]? = some cs ∨ ∀ x ∈ cs, Sc N x) (h : ∀ x ∈ a, Sc N x) : ∀ (i : Nat) (cs : List D), (σ1.set m a)[i]? = some cs → σ[i]? = some cs ∨ ∀ x ∈ cs, Sc N x := by
 intro i cs hn;rw [List.getElem?_set] at hn;split at hn
 ·split at hn
  ·simp only [Option.some.injEq] at hn; subst hn; exact .inr h
  ·cases hn
 ·exact h1 i cs hn
theorem Yp {N M : Nat} {d : DS} (hM : M < N) (h : ∀ e ∈ d.es, e.o < N) : ∀ x ∈ kM M d, Sc N x := by
 intro x hx;simp only [List.mem_cons, List.not_mem_nil, or_false] at hx;rcases hx with rfl | rfl | rfl
 ·exact Sc.v _
 ·exact Sc.v _
 ·refine Sc.mp hM fun k s y hy => ?_;obtain ⟨e, he, hk⟩ := List.mem_map.1 hy;simp only [Bg, Prod.mk.injEq] at hk;obtain ⟨rfl, rfl, rfl⟩ := hk;exact Sc.ref (h e he)
theorem Yv (N : Nat) (n : ND) : ∀ x ∈ dD n, Sc N x := by
 intro x hx;simp only [dD, List.mem_cons, List.not_mem_nil, or_false] at hx;rcases hx with rfl | rfl | rfl | rfl | rfl | rfl | rfl | rfl | rfl
 ·exact Sc.v _
 ·exact Sc.v _
 ·exact Sc.v _
 ·exact Sc.v _
 ·exact Sc.sl (Sc.map fun a => Sc.v _)
 ·exact Sc.sl (Sc.map fun a => Ze _ a)
 ·exact Sc.sl (Sc.map fun a => Zo _ a)
 ·exact Sc.v _
 ·exact Qw N n.kids
theorem Qz {x : RD} {s : ByteArray} (h : fE s = false) : addX x 2 s = (x, 0, 2) := by unfold addX; rw [if_pos ⟨rfl, h⟩]
theorem xQ {x : RD} {kind : Int} {s : ByteArray} (h : ¬ (kind = 2 ∧ fE s = false)) (h2 : x.most < (x.l.length : Int)) : addX x kind s = (x, 0, 8) := by unfold addX; rw [if_neg h, if_pos h2]
theorem Jd {x : RD} {kind : Int} {s : ByteArray} (h : ¬ (kind = 2 ∧ fE s = false)) (h2 : ¬ x.most < (x.l.length : Int)) : addX x kind s = (⟨x.most, x.next + 1, x.l ++ [kO x.next kind s]⟩, x.next, 0) := by unfold addX; rw [if_neg h, if_neg h2]
theorem IV.bounds (h : IV k m M d rk σ) (hk : k ≤ 900) : d.es.length ≤ 100000 ∧ (0 ≤ d.most ∧ d.most ≤ 100000) ∧ (0 ≤ d.next ∧ d.next ≤ 1000000) := by
 have h1 := h.ip.len; have h2 := h.ip.most; have h3 := h.ip.nx
 exact ⟨by omega, ⟨by omega, by omega⟩, ⟨by omega, by omega⟩⟩
theorem Su (k m M : Nat) (d : DS) (rk : Int → Nat) (s : ByteArray) (σ : List (List D)) (h : IV k m M d rk σ) (hk : k ≤ 800) (hs : s.size ≤ 1000) : DetA 40 [.ref m 0, D.str s] σ d k m M (addX d.x 2 s) := by
 obtain ⟨b1, b2, b3⟩ := h.bounds (by omega);cases hn : fE s with
 | false =>
  rw [Qz hn];exact DetA.same h (So m s σ hs hn) rfl
 | true =>
  have hc : ¬ ((2 : Int) = 2 ∧ fE s = false) := fun e => by rw [hn] at e; cases e.2
  by_cases hr : d.most < (d.l.length : Int)
  ·rw [xQ hc hr];exact DetA.same h (Ts m M d s σ h.ho b1 b2 (by rw [mV] at hr; omega) hs hn) rfl
  ·rw [Jd hc hr];have hr' : (d.es.length : Int) - 1 < d.most := by rw [mV] at hr; omega
   refine ⟨mD d (rN d.next 2 s ⟨#[]⟩) σ.length, rk, _, Qu m M d s σ h.ho b1 b2 hr' b3 h.ip.fresh hs hn, h.add hr' rfl rfl rfl rfl rfl rfl (.inr rfl), ?_, FrO.add⟩;simp [mD, DS.x, DS.l, rN, kO]
theorem aB2 (k m M : Nat) (d : DS) (rk : Int → Nat) (s : ByteArray) (σ : List (List D)) (h : IV k m M d rk σ) (hk : k ≤ 800) : DetA 44 [.ref m 0, D.str s] σ d k m M (addX d.x 1 s) := by
 obtain ⟨b1, b2, b3⟩ := h.bounds (by omega);have hc : ¬ ((1 : Int) = 2 ∧ fE s = false) := fun e => by cases e.1
 by_cases hr : d.most < (d.l.length : Int)
 ·rw [xQ hc hr];exact DetA.same h (Uw m M d s σ h.ho b1 b2 (by rw [mV] at hr; omega)) rfl
 ·rw [Jd hc hr];have hr' : (d.es.length : Int) - 1 < d.most := by rw [mV] at hr; omega
  refine ⟨mD d (rN d.next 1 ⟨#[]⟩ s) σ.length, rk, _, Se m M d s σ h.ho b1 b2 hr' b3 h.ip.fresh, h.add hr' rfl rfl rfl rfl rfl rfl (.inl rfl), ?_, FrO.add⟩;simp [mD, DS.x, DS.l, rN, kO]
theorem IV.fd (h : IV k m M d rk σ) {e : EN} (he : e ∈ d.es) : aM d.l e.n.ID = e.n := gZ h.ip.nd (dJ he)
theorem En (k m M : Nat) (d : DS) (rk : Int → Nat) (p at_ id : Int) (σ : List (List D)) (h : IV k m M d rk σ) (hk : k ≤ 800) : DetQ 41 [.ref m 0, D.int p, D.int at_, D.int id] σ d k m M (insX d.x (bY d.l rk) p at_ id) := by
 have hnb := h.ip.NB (by omega);cases hp : dQ d.l p with
 | false =>
  have e : insX d.x (bY d.l rk) p at_ id = (d.x, 11) := by unfold insX; rw [if_pos (.inl hp)]
  rw [e];exact DetQ.same h (Ff m M d id at_ p σ h.ho hp) rfl
 | true =>
  obtain ⟨ep, hep, rfl, hfp⟩ := hP hp;cases hi : dQ d.l id with
  | false =>
   have e : insX d.x (bY d.l rk) ep.n.ID at_ id = (d.x, 11) := by unfold insX; rw [if_pos (.inr hi)]
   rw [e];exact DetQ.same h (Fy m M d ep at_ id σ h.ho hep hi) rfl
  | true =>
   obtain ⟨en, hen, rfl, hfn⟩ := hP hi;have c1 : ¬ (dQ d.x.l ep.n.ID = false ∨ dQ d.x.l en.n.ID = false) := by
    rintro (e | e)
    ·have e : dQ d.l ep.n.ID = false := e; rw [hp] at e; cases e
    ·have e : dQ d.l en.n.ID = false := e; rw [hi] at e; cases e
   have fp : aM d.x.l ep.n.ID = ep.n := hfp;have fn : aM d.x.l en.n.ID = en.n := hfn;by_cases hkd : ep.n.kind = 2
   ·have hpar : (¬ en.n.parent = -1) ↔ 0 ≤ en.n.parent := by
     rcases h.wt.par _ (dJ hen) with e1 | ⟨q, q1, q2, q3⟩
     ·omega
     ·have := h.wt.nn q q1; omega
    have hct := Wi m M d rk ep en at_ σ h.ho hep hen hkd h.wt (hnb.en hep).1;have hbi : sM d rk ep en at_ ↔ (en.n.ID = 0 ∨ 0 ≤ en.n.parent ∨ iU d.l (bY d.l rk) ep.n.ID en.n.ID = true ∨ at_ < 0 ∨ (ep.n.kids.length : Int) < at_) := by
     unfold sM; rw [hpar]
    by_cases hb : sM d rk ep en at_
    ·have e : insX d.x (bY d.l rk) ep.n.ID at_ en.n.ID = (d.x, 1) := by
      unfold insX;rw [if_neg c1, fp, fn, if_neg (by rw [hkd]; simp), if_pos];exact hbi.1 hb
     rw [e];refine DetQ.same h (hct.mono ?_) rfl;rintro r σ' (⟨h1, h2, h3⟩ | ⟨h1, h2, _⟩)
     ·exact ⟨h1, h3⟩
     ·exact absurd hb h2
    ·have hb' := mt hbi.2 hb;have e : insX d.x (bY d.l rk) ep.n.ID at_ en.n.ID = (⟨d.most, d.next, dC (dC d.l (eM ep.n (dT ep.n.kids at_.toNat en.n.ID))) (uU en.n ep.n.ID)⟩, 0) := by
      unfold insX;rw [if_neg c1, fp, fn, if_neg (by rw [hkd]; simp), if_neg hb'];rfl
     rw [e];simp only [not_or] at hb';obtain ⟨g1, g2, g3, g4, g5⟩ := hb';have hw : ep.n.ID ∉ bY d.l rk en.n.ID := fun hm => by
      apply g3;unfold iU;rw [hp, hi, tZ]; simpa using hm
     obtain ⟨d', rk', a, b, ow⟩ := h.ins hep hen (by omega) g1 hw at_.toNat (by omega);refine ⟨d', rk', _, hct.mono ?_, a, b, FrO.upd2 hep hen _ _ ow⟩;rintro r σ' (⟨h1, h2, h3⟩ | ⟨h1, h2, i, h3, h4⟩)
     ·exact absurd h2 hb
     ·subst h3; exact ⟨h1, h4⟩
   ·have e : insX d.x (bY d.l rk) ep.n.ID at_ en.n.ID = (d.x, 14) := by
     unfold insX; rw [if_neg c1, fp, if_pos hkd]
    rw [e];exact DetQ.same h (Kl m M d ep en at_ σ h.ho hep hen hkd) rfl
theorem aAo (k m M : Nat) (d : DS) (rk : Int → Nat) (id at_ : Int) (σ : List (List D)) (h : IV k m M d rk σ) (hk : k ≤ 800) : DetQ 46 [.ref m 0, D.int id, D.int at_] σ d k m M (movX d.x id at_) := by
 have hnb := h.ip.NB (by omega);cases hi : dQ d.l id with
 | false =>
  have e : movX d.x id at_ = (d.x, 11) := by unfold movX; rw [if_pos hi]
  rw [e];exact DetQ.same h (Lc m M d id at_ σ h.ho hi) rfl
 | true =>
  obtain ⟨n, hn, rfl, hfn⟩ := hP hi;have c1 : ¬ dQ d.x.l n.n.ID = false := fun e => by have e : dQ d.l n.n.ID = false := e; rw [hi] at e; cases e
  have fn : aM d.x.l n.n.ID = n.n := hfn;rcases h.WP.par n hn with hpar | ⟨p, hp, hpp, hoo⟩
  ·have hno : dQ d.l (-1) = false := by
    cases hl : dQ d.l (-1) with
    | false => rfl
    | true => obtain ⟨y, y1, y2⟩ := gJ.1 hl; have := h.wt.nn y y1; omega
   have e : movX d.x n.n.ID at_ = (d.x, 1) := by
    unfold movX; rw [if_neg c1, fn, hpar, if_pos (.inl hno)]
   rw [e];exact DetQ.same h (Om m M d n at_ σ h.ho hn hpar) rfl
  ·have hpnn := h.wt.nn _ (dJ hp);have fp : aM d.x.l n.n.parent = p.n := by rw [← hpp]; exact h.fd hp
   have lp : dQ d.x.l n.n.parent = true := by rw [← hpp]; exact rX hp
   have hmem : n.n.ID ∈ p.n.kids := by
    rcases h.wt.par _ (dJ hn) with e1 | ⟨q, q1, q2, q3⟩
    ·omega
    ·have : q = p.n := fN h.ip.nd q1 (dJ hp) (by rw [q2, hpp]);rw [← this]; exact q3
   have hkn := h.wt.kn _ (dJ hp);have hct := Yh m M d p n at_ σ h.ho hp hn hpp (Ne.symm hoo) (hnb.en hp).1 (by omega) hkn;by_cases hb : at_ < 0 ∨ (p.n.kids.length : Int) ≤ at_
   ·have e : movX d.x n.n.ID at_ = (d.x, 1) := by
     unfold movX; rw [if_neg c1, fn, fp, lp, if_pos];exact .inr hb
    rw [e];refine DetQ.same h (hct.mono ?_) rfl;rintro r σ' (⟨h1, h2, h3⟩ | ⟨h1, h2, _⟩)
    ·exact ⟨h1, h3⟩
    ·exact absurd hb h2
   ·have e : movX d.x n.n.ID at_ = (⟨d.most, d.next, dC d.l (eM p.n (dT (eN p.n.kids n.n.ID) at_.toNat n.n.ID))⟩, 0) := by
     unfold movX; rw [if_neg c1, fn, fp, lp, if_neg (by rintro (e | e); cases e; exact hb e)];rfl
    rw [e];have hin : n.n.ID ∉ eN p.n.kids n.n.ID := fun hm => (lT.1 hm).2 rfl;have hsz := (h.ip.sz _ (dJ hp)).1;have hrl := mL p.n.kids n.n.ID;have hrg := zH hkn n.n.ID;have hlen : (dT (eN p.n.kids n.n.ID) at_.toNat n.n.ID).length ≤ k + 1 := by
     rw [eP _ _ _ (by omega)]; omega
    obtain ⟨d', a, b, ow⟩ := h.mov hp (uH (uI hkn) hin) (fun j => by
     rw [nB, lT];constructor
     ·rintro (rfl | ⟨a, _⟩)
      ·exact hmem
      ·exact a
     ·intro hj;by_cases e : j = n.n.ID
      ·exact .inl e
      ·exact .inr ⟨hj, e⟩) hlen
    refine ⟨d', rk, _, hct.mono ?_, a, b, FrO.upd hp _ ow⟩;rintro r σ' (⟨h1, h2, h3⟩ | ⟨h1, h2, i, h3, h4⟩)
    ·exact absurd h2 hb
    ·subst h3; exact ⟨h1, h4⟩
theorem aB8 (k m M : Nat) (d : DS) (rk : Int → Nat) (id : Int) (σ : List (List D)) (h : IV k m M d rk σ) (hk : k ≤ 800) : DetQ 48 [.ref m 0, D.int id] σ d k m M (remX d.x (bY (remP d.l id) rk) id) := by
 have hnb := h.ip.NB (by omega);cases hi : dQ d.l id with
 | false =>
  have e : remX d.x (bY (remP d.l id) rk) id = (d.x, 11) := by unfold remX; rw [if_pos hi]
  rw [e];exact DetQ.same h (Tm m M d id σ h.ho hi) rfl
 | true =>
  obtain ⟨n, hn, rfl, hfn⟩ := hP hi;have c1 : ¬ dQ d.x.l n.n.ID = false := fun e => by have e : dQ d.l n.n.ID = false := e; rw [hi] at e; cases e
  by_cases h0 : n.n.ID = 0
  ·have e : remX d.x (bY (remP d.l n.n.ID) rk) n.n.ID = (d.x, 1) := by unfold remX; rw [if_neg c1, if_pos h0]
   rw [e];exact DetQ.same h (Xx m M d n σ h.ho hn h0) rfl
  ·have e : remX d.x (bY (remP d.l n.n.ID) rk) n.n.ID = (⟨d.most, d.next, lW (remP d.l n.n.ID) (bY (remP d.l n.n.ID) rk n.n.ID)⟩, 0) := by unfold remX; rw [if_neg c1, if_neg h0]
   rw [e];have hB : bY (remP d.l n.n.ID) rk n.n.ID = bY d.l rk n.n.ID := Yd h.wt (dJ hn) _ (Nat.le_refl _);have hwt' := h.wt.rem (dJ hn)
   -- with whatever its parent qB come to be
   have main : ∀ (d1 : DS) (σ1 : List (List D)), d1.most = d.most → d1.next = d.next → d1.l = remP d.l n.n.ID → IP0 (k + 1) d1 → DO m M d1 σ1 → σ1.length = σ.length → (∀ i, i ≠ m → (∀ e ∈ d.es, e.o ≠ i) → σ1[i]? = σ[i]?) → (∀ e ∈ d1.es, ∃ e0 ∈ d.es, e0.o = e.o) → (∀ (i : Nat) (cs : List D), σ1[i]? = some cs → σ[i]? = some cs ∨ ∀ x ∈ cs, Sc σ.length x) → Ct Tryz.prog 86 [.ref m 0, .ref n.o 0] σ (fun r σ' => r = .tup [] ∧ σ' = σ1) →
     DetQ 48 [.ref m 0, D.int n.n.ID] σ d k m M (⟨d.most, d.next, lW (remP d.l n.n.ID) (bY (remP d.l n.n.ID) rk n.n.ID)⟩, 0) := by
    intro d1 σ1 em en el hip hdo hσl hkp how hsc hlv;have hnd1 : (d1.l.map ND.ID).Nodup := hip.nd;have hw1 : WD d1 (bY (remP d.l n.n.ID) rk) rk := by
     refine ⟨hip.NB (by omega), fun e he => gZ hnd1 (dJ he), by rw [el]; exact Sv h.wt (by have := h.ip.len; rw [mV]; omega) _, fun e he j hj => ?_⟩;have hfe : aM d1.l e.n.ID = e.n := gZ hnd1 (dJ he);have hj2 : j ∈ (aM d.l e.n.ID).kids := (Dm h.wt n.n.ID e.n.ID).subset (by rw [← el, hfe]; exact hj);have hle : dQ d.l e.n.ID = true := by
      cases hl : dQ d.l e.n.ID with
      | true => rfl
      | false => rw [eV hl] at hj2; cases hj2
     obtain ⟨q, q1, q2, q3⟩ := eB hle;rw [q3] at hj2;obtain ⟨c, c1, c2, _⟩ := h.wt.kids q q1 j hj2;rw [el];have : dQ d.l j = true := gJ.2 ⟨c, c1, c2⟩;unfold remP; split
     ·rw [Il]; exact this
     ·exact this
    have hid : dQ d1.l n.n.ID = true := by
     rw [el]; unfold remP; split
     ·rw [Il]; exact hi
     ·exact hi
    have hct0 := Vj m M d d1 n σ1 (bY (remP d.l n.n.ID) rk) rk σ h.ho hn h0 hlv hdo hw1 hid (by have := hnd1; rwa [DS.l, List.map_map] at this);have hl2 : (mP d1 (bY (remP d.l n.n.ID) rk n.n.ID)).l = lW (remP d.l n.n.ID) (bY (remP d.l n.n.ID) rk n.n.ID) := by rw [Hc, el]
    have hsub : ∀ y ∈ (mP d1 (bY (remP d.l n.n.ID) rk n.n.ID)).l, y ∈ d1.l := fun y hy => by
     rw [Hc] at hy; exact (List.mem_filter.1 hy).1
    have hlen : (mP d1 (bY (remP d.l n.n.ID) rk n.n.ID)).es.length ≤ d1.es.length := List.length_filter_le _ _;have hct := hct0.trim (Q' := fun r τ => r = D.int 0 ∧ τ = σ1.set m (kM M (mP d1 (bY (remP d.l n.n.ID) rk n.n.ID)))) fun r σ' ⟨hr, J, hs⟩ => ⟨_, J, hs, by rw [List.length_set, hσl], by rw [hr]; exact Sc.v _, Tz hsc (Yp (by have := hdo.hM; omega) fun e he => by have := hdo.lt (List.mem_filter.1 he).1; omega), hr, rfl⟩;refine ⟨mP d1 (bY (remP d.l n.n.ID) rk n.n.ID), rk, _, hct, ⟨hdo.del _, ⟨?_, ?_, hip.most, hip.nx, fun y hy => hip.lt y (hsub y hy), fun y hy => hip.sz y (hsub y hy), fun y hy => hip.st y (hsub y hy), ?_, fun y hy => hip.kd y (hsub y hy), ?_⟩, ?_⟩, ?_, by rw [List.length_set, hσl]; exact Nat.le_refl _, fun i hi hm ho => by rw [List.getElem?_set_ne (Ne.symm hm)]; exact hkp i hm ho, fun y hy => .inl (how y (List.mem_filter.1 hy).1)⟩
    ·rw [hl2, hB]; exact hwt'.nd
    ·have := hip.len; omega
    ·obtain ⟨r0, r1, r2, r3, r4⟩ := hip.rt;refine ⟨r0, ?_, r2, r3, r4⟩;rw [Hc];refine List.mem_filter.2 ⟨r1, ?_⟩;cases hc : (bY (remP d.l n.n.ID) rk n.n.ID).any fun j => decide (j = r0.ID) with
     | false => rfl
     | true =>
      exfalso;have hm := (wT _ _).1 hc;rw [hB, r2] at hm;obtain ⟨z, z1, z2, z3, z4⟩ := h.ip.rt;rcases mY h.wt z1 (by rw [z2]; exact hm) with e1 | ⟨q, q1, q2, _⟩
      ·exact h0 (by rw [← e1, z2])
      ·have := h.wt.nn q q1; omega
    ·have := hip.room; show (_ : Int) - 1 ≤ d1.most; omega
    ·rw [hl2, hB]; exact hwt'
    ·show (⟨d1.most, d1.next, _⟩ : RD) = _
     rw [hl2, em, en]
   rcases h.WP.par n hn with hpar | ⟨p, hp, hpp, hoo⟩
   ·have hno : dQ d.l n.n.parent = false := by
     cases hl : dQ d.l n.n.parent with
     | false => rfl
     | true => obtain ⟨y, y1, y2⟩ := gJ.1 hl; have := h.wt.nn y y1; omega
    have hrp : remP d.l n.n.ID = d.l := by unfold remP; rw [hfn, hno]; simp
    exact main d σ rfl rfl hrp.symm (h.ip.mono (by omega)) h.ho rfl (fun _ _ _ => rfl) (fun e he => ⟨e, he, rfl⟩) (fun _ _ h => .inl h) (Zu m M d n σ h.ho hn hno)
   ·have lp : dQ d.l n.n.parent = true := by rw [← hpp]; exact rX hp
    have fp : aM d.l n.n.parent = p.n := by rw [← hpp]; exact h.fd hp
    have hrp : remP d.l n.n.ID = dC d.l (eM p.n (eN p.n.kids n.n.ID)) := by unfold remP; rw [hfn, if_pos lp, fp]
    obtain ⟨s1, s2, s3, s4⟩ := h.ip.sz _ (dJ hp);have hrl := mL p.n.kids n.n.ID;have hip := h.ip.put h.ho.nd hp (k' := k + 1) (by omega) (jV p.n (eN p.n.kids n.n.ID)) ⟨by show (eN _ _).length ≤ _; omega, by show p.n.classes.length ≤ _; omega, by show p.n.attrs.length ≤ _; omega, by show p.n.styles.length ≤ _; omega⟩ (h.ip.st p.n (dJ hp)) (fun _ => rfl) rfl;exact main (nU d p.o (eM p.n (eN p.n.kids n.n.ID))) _ rfl rfl (by rw [hrp]; exact sZ h.ho.nd h.ip.nd hp (jV _ _)) hip (h.ho.upd hp (jV _ _)) (by rw [List.length_set]) (fun i _ hi => by rw [List.getElem?_set_ne (hi p hp)]) (nH _ _ _) (Tz (fun _ _ h => .inl h) (Yv _ _)) (Oz m M d p n σ h.ho hp hn hpp (Ne.symm hoo) (hnb.en hp).1)
end Go.Proofs.YtpfmpeaekgdgnaaGreat
namespace Go.Proofs.YtpfmpeaekgdgnaaGreat
open Go Go.Vm
set_option linter.all false
set_option maxHeartbeats 1000000
variable {k m M : Nat} {d : DS} {rk : Int → Nat} {σ : List (List D)}
def sV (q kk : Int) (nm name : ByteArray) : Prop := (q = 1 ∧ kk = 1 ∧ nm = ⟨#[]⟩) ∨ (¬ q = 1 ∧ kk = 2 ∧ nm = name)
theorem Rl (h : IV k m M d rk σ) {e : EN} (he : e ∈ d.es) {q kk : Int} {nm name : ByteArray} (ha : sV q kk nm name) (ho : kX e.n kk nm = 0) : ¬ e.n.ID = 0 ∧ (q = 1 ↔ (aM d.x.l e.n.ID).kind = 1) ∧ (q = 1 ∨ fE name = true) := by
 obtain ⟨o1, o2, o3⟩ := Jt ho;have hf : aM d.x.l e.n.ID = e.n := h.fd he;rw [hf];rcases ha with ⟨rfl, rfl, rfl⟩ | ⟨a1, rfl, rfl⟩
 ·exact ⟨o1, ⟨fun _ => o2, fun _ => rfl⟩, .inl rfl⟩
 ·exact ⟨o1, ⟨fun e1 => absurd e1 a1, fun e1 => by omega⟩, .inr (o3 rfl)⟩
theorem Vt (h : IV k m M d rk σ) {e : EN} (he : e ∈ d.es) {q kk : Int} {nm name v : ByteArray} {num : Int} (ha : sV q kk nm name) (ho : ¬ kX e.n kk nm = 0) : setX d.x q e.n.ID name v num = (d.x, kX e.n kk nm) := by
 have hf : aM d.x.l e.n.ID = e.n := h.fd he;have hl : dQ d.x.l e.n.ID = true := rX he;by_cases h0 : e.n.ID = 0
 ·rw [Ug hl h0]; unfold kX; rw [if_pos h0]
 ·have hkd := h.ip.kd _ (dJ he);by_cases h1 : e.n.kind = kk
  ·rcases ha with ⟨rfl, rfl, rfl⟩ | ⟨a1, rfl, rfl⟩
   ·exfalso; apply ho; unfold kX; rw [if_neg h0, if_neg (fun q => q h1), if_neg (by rintro ⟨a, _⟩; omega)]
   ·have h2 : fE nm = false := by
     cases hn : fE nm with
     | false => rfl
     | true => exfalso; apply ho; unfold kX; rw [if_neg h0, if_neg (fun q => q h1), if_neg (by rintro ⟨_, a⟩; rw [hn] at a; cases a)]
    rw [Ua hl h0 (by rw [hf]; constructor <;> intro a <;> omega) a1 h2];unfold kX; rw [if_neg h0, if_neg (fun q => q h1), if_pos ⟨rfl, h2⟩]
  ·rw [Ib hl h0 (by rw [hf]; rcases ha with ⟨rfl, rfl, rfl⟩ | ⟨a1, rfl, rfl⟩ <;> (intro a; omega))];unfold kX; rw [if_neg h0, if_pos h1]
theorem lF {F : FuncId} {args : List D} {q kk id num : Int} {nm name v : ByteArray} (h : IV k m M d rk σ) (hs : nm.size ≤ 1000) (ha : sV q kk nm name)
  (hN : ∀ c : Int, Ct Tryz.prog 123 [.ref m 0, D.int id, D.int kk, D.str nm] σ (fun r σ' => r = .tup [.v (.pointer none), D.int c] ∧ σ' = σ) → ¬ c = 0 → Ct Tryz.prog F args σ (fun r σ' => r = D.int c ∧ σ' = σ))
  (hX : ∀ e ∈ d.es, e.n.ID = id → kX e.n kk nm = 0 → Ct Tryz.prog 123 [.ref m 0, D.int id, D.int kk, D.str nm] σ (fun r σ' => r = .tup [.ref e.o 0, D.int 0] ∧ σ' = σ) → DetQ F args σ d k m M (setX d.x q id name v num)) :
  DetQ F args σ d k m M (setX d.x q id name v num) := by
 cases hl : dQ d.l id with
 | false =>
  have e : setX d.x q id name v num = (d.x, 11) := Jj hl;rw [e];exact DetQ.same h (hN 11 (Pn m M d id kk nm σ h.ho hl) (by decide)) rfl
 | true =>
  obtain ⟨e, he, rfl, hf⟩ := hP hl;by_cases ho : kX e.n kk nm = 0
  ·exact hX e he rfl ho (Xy m M d e kk nm σ h.ho he hs ho)
  ·rw [Vt h he ha ho];exact DetQ.same h (hN _ (We m M d e kk nm σ h.ho he hs ho) ho) rfl
theorem nL {F : FuncId} {args : List D} {q kk num : Int} {nm name v : ByteArray} (h : IV k m M d rk σ) {e : EN} (he : e ∈ d.es) (ha : sV q kk nm name) (ho : kX e.n kk nm = 0) {n' : ND} (hc : qU e.n q name v num = some n')
  (hid : n'.ID = e.n.ID) (h2 : n'.kids = e.n.kids) (h3 : n'.parent = e.n.parent) (h4 : n'.kind = e.n.kind) (hs : n'.classes.length ≤ k + 1 ∧ n'.attrs.length ≤ k + 1 ∧ n'.styles.length ≤ k + 1) (hst : cC nA n'.attrs ∧ cC nP n'.styles) (hct : Ct Tryz.prog F args σ (fun r σ' => r = D.int 0 ∧ σ' = σ.set e.o (dD n'))) :
  DetQ F args σ d k m M (setX d.x q e.n.ID name v num) := by
 obtain ⟨a1, a2, a3⟩ := Rl h he ha ho;have hf : aM d.x.l e.n.ID = e.n := h.fd he;rw [jU (rX he) a1 a2 a3 (by rw [hf]; exact hc)];obtain ⟨b1, b2⟩ := h.set he hid h2 h3 h4 hs hst;exact ⟨_, rk, _, hct, b1, b2, FrO.upd he _ (nH _ _ _)⟩
theorem zF {F : FuncId} {args : List D} {q kk num : Int} {nm name v : ByteArray} (h : IV k m M d rk σ) {e : EN} (he : e ∈ d.es) (ha : sV q kk nm name) (ho : kX e.n kk nm = 0) (hc : qU e.n q name v num = none) (hct : Ct Tryz.prog F args σ (fun r σ' => r = D.int 1 ∧ σ' = σ)) :
  DetQ F args σ d k m M (setX d.x q e.n.ID name v num) := by
 obtain ⟨a1, a2, a3⟩ := Rl h he ha ho;have hf : aM d.x.l e.n.ID = e.n := h.fd he;rw [qW (rX he) a1 a2 a3 (by rw [hf]; exact hc)];exact DetQ.same h hct rfl
theorem IV.szs (h : IV k m M d rk σ) {e : EN} (he : e ∈ d.es) : e.n.classes.length ≤ k ∧ e.n.attrs.length ≤ k ∧ e.n.styles.length ≤ k := (h.ip.sz _ (dJ he)).2
theorem IV.sts (h : IV k m M d rk σ) {e : EN} (he : e ∈ d.es) : cC nA e.n.attrs ∧ cC nP e.n.styles := h.ip.st _ (dJ he)
variable (k m M d rk) (id : Int) (s v : ByteArray) (num : Int) (σ)
theorem Xw (h : IV k m M d rk σ) (hk : k ≤ 800) (hs : s.size ≤ 1000) : DetQ 89 [.ref m 0, D.int id, D.str s] σ d k m M (setX d.x 0 id s v num) := by
 have ha : sV 0 2 s s := .inr ⟨by decide, rfl, rfl⟩;refine lF h hs ha (fun c => Qm m id c s σ) fun e he hid ho hown => ?_;subst hid;obtain ⟨z1, z2, z3⟩ := h.szs he;exact nL h he ha ho (n' := { e.n with tag := s }) (by simp [qU]) rfl rfl rfl rfl ⟨by dsimp only; omega, by dsimp only; omega, by dsimp only; omega⟩ (h.sts he) (Sw m e.o e.n.ID e.n s σ hown (h.ho.hn e he))
theorem Xk (h : IV k m M d rk σ) (hk : k ≤ 800) : DetQ 90 [.ref m 0, D.int id, D.str v] σ d k m M (setX d.x 1 id s v num) := by
 have ha : sV 1 1 ⟨#[]⟩ s := .inl ⟨rfl, rfl, rfl⟩;refine lF h (by decide) ha (fun c => Og m id c v σ) fun e he hid ho hown => ?_;subst hid;obtain ⟨z1, z2, z3⟩ := h.szs he;exact nL h he ha ho (n' := { e.n with text := v }) (by simp [qU]) rfl rfl rfl rfl ⟨by dsimp only; omega, by dsimp only; omega, by dsimp only; omega⟩ (h.sts he) (Py m e.o e.n.ID e.n v σ hown (h.ho.hn e he))
theorem Wa (h : IV k m M d rk σ) (hk : k ≤ 800) (hs : s.size ≤ 1000) : DetQ 91 [.ref m 0, D.int id, D.str s, D.str v] σ d k m M (setX d.x 2 id s v num) := by
 have ha : sV 2 2 s s := .inr ⟨by decide, rfl, rfl⟩;refine lF h hs ha (fun c => Qe m id c s v σ) fun e he hid ho hown => ?_;subst hid;obtain ⟨z1, z2, z3⟩ := h.szs he;obtain ⟨y1, y2⟩ := h.sts he;have hl := uZ nA e.n.attrs ⟨s, v⟩;exact nL h he ha ho (n' := { e.n with attrs := eF nA e.n.attrs ⟨s, v⟩ }) (by simp [qU]) rfl rfl rfl rfl ⟨by dsimp only; omega, by dsimp only; omega, by dsimp only; omega⟩ ⟨nQ nA y1 _, y2⟩ (Si m e.o e.n.ID e.n s v σ hown (h.ho.hn e he) (by omega) y1)
theorem Ov (h : IV k m M d rk σ) (hk : k ≤ 800) (hs : s.size ≤ 1000) : DetQ 92 [.ref m 0, D.int id, D.str s] σ d k m M (setX d.x 3 id s v num) := by
 have ha : sV 3 2 s s := .inr ⟨by decide, rfl, rfl⟩;refine lF h hs ha (fun c => Qf m id c s σ) fun e he hid ho hown => ?_;subst hid;obtain ⟨z1, z2, z3⟩ := h.szs he;obtain ⟨y1, y2⟩ := h.sts he;have hl := rG nA e.n.attrs s;cases hc : kY nA e.n.attrs s with
 | false => exact zF h he ha ho (by simp [qU, hc]) (Rn m e.o e.n.ID e.n s σ hown (h.ho.hn e he) (by omega) y1 hc)
 | true => exact nL h he ha ho (n' := { e.n with attrs := gW nA e.n.attrs s }) (by simp [qU, hc]) rfl rfl rfl rfl ⟨by dsimp only; omega, by dsimp only; omega, by dsimp only; omega⟩ ⟨tK nA y1 _, y2⟩ (Sz m e.o e.n.ID e.n s σ hown (h.ho.hn e he) (by omega) y1 hc)
theorem Vr (h : IV k m M d rk σ) (hk : k ≤ 800) (hs : s.size ≤ 1000) : DetQ 93 [.ref m 0, D.int id, D.str s, D.int num] σ d k m M (setX d.x 4 id s v num) := by
 have ha : sV 4 2 s s := .inr ⟨by decide, rfl, rfl⟩;refine lF h hs ha (fun c => Ti m id c s num σ) fun e he hid ho hown => ?_;subst hid;obtain ⟨z1, z2, z3⟩ := h.szs he;obtain ⟨y1, y2⟩ := h.sts he;have hl := uZ nP e.n.styles ⟨s, Bd num⟩;exact nL h he ha ho (n' := { e.n with styles := eF nP e.n.styles ⟨s, Bd num⟩ }) (by simp [qU]) rfl rfl rfl rfl ⟨by dsimp only; omega, by dsimp only; omega, by dsimp only; omega⟩ ⟨y1, nQ nP y2 _⟩ (Pe m e.o e.n.ID e.n s num σ hown (h.ho.hn e he) (by omega) y2)
theorem Uo (h : IV k m M d rk σ) (hk : k ≤ 800) (hs : s.size ≤ 1000) : DetQ 94 [.ref m 0, D.int id, D.str s] σ d k m M (setX d.x 5 id s v num) := by
 have ha : sV 5 2 s s := .inr ⟨by decide, rfl, rfl⟩;refine lF h hs ha (fun c => Pk m id c s σ) fun e he hid ho hown => ?_;subst hid;obtain ⟨z1, z2, z3⟩ := h.szs he;obtain ⟨y1, y2⟩ := h.sts he;have hl := rG nP e.n.styles s;cases hc : kY nP e.n.styles s with
 | false => exact zF h he ha ho (by simp [qU, hc]) (Rj m e.o e.n.ID e.n s σ hown (h.ho.hn e he) (by omega) y2 hc)
 | true => exact nL h he ha ho (n' := { e.n with styles := gW nP e.n.styles s }) (by simp [qU, hc]) rfl rfl rfl rfl ⟨by dsimp only; omega, by dsimp only; omega, by dsimp only; omega⟩ ⟨y1, tK nP y2 _⟩ (Pu m e.o e.n.ID e.n s σ hown (h.ho.hn e he) (by omega) y2 hc)
theorem Oe (h : IV k m M d rk σ) (hk : k ≤ 800) (hs : s.size ≤ 1000) : DetQ 95 [.ref m 0, D.int id, D.str s] σ d k m M (setX d.x 6 id s v num) := by
 have ha : sV 6 2 s s := .inr ⟨by decide, rfl, rfl⟩;refine lF h hs ha (fun c => Ta m id c s σ) fun e he hid ho hown => ?_;subst hid;obtain ⟨z1, z2, z3⟩ := h.szs he;cases hc : qB s e.n.classes with
 | true => exact zF h he ha ho (by simp [qU, hc]) (Of m e.o e.n.ID e.n s σ hown (h.ho.hn e he) (by omega) hc)
 | false => exact nL h he ha ho (n' := { e.n with classes := e.n.classes ++ [s] }) (by simp [qU, hc]) rfl rfl rfl rfl ⟨by simp; omega, by dsimp only; omega, by dsimp only; omega⟩ (h.sts he) (Ow m e.o e.n.ID e.n s σ hown (h.ho.hn e he) (by omega) hc)
theorem Tx (q : Int) (hq : ¬ q = 0 ∧ ¬ q = 1 ∧ ¬ q = 2 ∧ ¬ q = 3 ∧ ¬ q = 4 ∧ ¬ q = 5 ∧ ¬ q = 6) (h : IV k m M d rk σ) (hk : k ≤ 800) (hs : s.size ≤ 1000) : DetQ 96 [.ref m 0, D.int id, D.str s] σ d k m M (setX d.x q id s v num) := by
 obtain ⟨q0, q1, q2, q3, q4, q5, q6⟩ := hq;have ha : sV q 2 s s := .inr ⟨q1, rfl, rfl⟩;refine lF h hs ha (fun c => Tf m id c s σ) fun e he hid ho hown => ?_;subst hid;obtain ⟨z1, z2, z3⟩ := h.szs he;have hl := yD e.n.classes s;cases hc : qB s e.n.classes with
 | false => exact zF h he ha ho (by simp [qU, hc, q0, q1, q2, q3, q4, q5, q6]) (Tn m e.o e.n.ID e.n s σ hown (h.ho.hn e he) (by omega) hc)
 | true => exact nL h he ha ho (n' := { e.n with classes := jC e.n.classes s }) (by simp [qU, hc, q0, q1, q2, q3, q4, q5, q6]) rfl rfl rfl rfl ⟨by dsimp only; omega, by dsimp only; omega, by dsimp only; omega⟩ (h.sts he) (Rb m e.o e.n.ID e.n s σ hown (h.ho.hn e he) (by omega) hc)
end Go.Proofs.YtpfmpeaekgdgnaaGreat
namespace Go.Proofs.YtpfmpeaekgdgnaaGreat
open Go Go.Vm
set_option linter.all false
set_option maxHeartbeats 1000000
theorem wA {a b : List ND} (h : a.Perm b) (hn : (b.map ND.ID).Nodup) (id : Int) : fL a id = fL b id := by
 have ha : (a.map ND.ID).Nodup := (h.map ND.ID).nodup_iff.2 hn;cases e : fL b id with
 | some n =>
  obtain ⟨h1, rfl⟩ := iG e;exact Dt ha (h.mem_iff.2 h1)
 | none =>
  unfold fL at e ⊢;rw [List.find?_eq_none] at e ⊢;exact fun n h1 => e n (h.mem_iff.1 h1)
theorem vB {a b : List ND} (h : a.Perm b) (hn : (b.map ND.ID).Nodup) : aM a = aM b := funext fun id => by unfold aM; rw [wA h hn]
theorem On {a b : List ND} (h : a.Perm b) (hn : (b.map ND.ID).Nodup) : dQ a = dQ b := funext fun id => by unfold dQ; rw [wA h hn]
structure XP (d x : RD) : Prop where
 most : x.most = d.most
 next : x.next = d.next
 l : x.l.Perm d.l
 nd : (d.l.map ND.ID).Nodup
theorem XP.refl {d : RD} (h : (d.l.map ND.ID).Nodup) : XP d d := ⟨rfl, rfl, List.Perm.refl _, h⟩
variable {d x : RD}
theorem XP.fd (h : XP d x) : aM x.l = aM d.l := vB h.l h.nd
theorem XP.il (h : XP d x) : dQ x.l = dQ d.l := On h.l h.nd
theorem XP.wb (h : XP d x) : iU x.l = iU d.l := by funext b i o; unfold iU; rw [h.il]
theorem XP.ix (h : XP d x) : pH x.l = pH d.l := by funext i; unfold pH; rw [h.il, h.fd]
theorem XP.len (h : XP d x) : x.l.length = d.l.length := h.l.length_eq
theorem XP.nb (h : XP d x) (hn : NB d.l) : NB x.l := by
 have hm : ∀ n ∈ x.l, n ∈ d.l := fun n hn => h.l.mem_iff.1 hn;exact ⟨by rw [h.len]; exact hn.len, fun n h1 => hn.kids n (hm n h1), fun n h1 => hn.cls n (hm n h1), fun n h1 => hn.ats n (hm n h1), fun n h1 => hn.sts n (hm n h1)⟩
theorem Tr.perm {a b : List ND} (h : aM a = aM b) {bel : Int → List Int} {rk : Int → Nat} (ht : Tr b bel rk) : Tr a bel rk := ⟨fun id => by rw [h]; exact ht.eq id, fun id => by rw [h]; exact ht.dec id, ht.len⟩
theorem XP.put (h : XP d x) (n : ND) : (dC x.l n).Perm (dC d.l n) := by unfold dC; exact h.l.map _
theorem XP.remP (h : XP d x) (id : Int) : (Go.Proofs.YtpfmpeaekgdgnaaGreat.remP x.l id).Perm (Go.Proofs.YtpfmpeaekgdgnaaGreat.remP d.l id) := by
 unfold Go.Proofs.YtpfmpeaekgdgnaaGreat.remP;rw [h.fd, h.il];split
 ·exact h.put _
 ·exact h.l
theorem Cf (l : List ND) (id : Int) : (remP l id).map ND.ID = l.map ND.ID := by
 unfold remP; split
 ·exact lU _ _
 ·rfl
theorem XP.addX (h : XP d x) (hlt : ∀ n ∈ d.l, n.ID < d.next) (kind : Int) (s : ByteArray) : (addX x kind s).2 = (addX d kind s).2 ∧ XP (Go.Proofs.YtpfmpeaekgdgnaaGreat.addX d kind s).1 (Go.Proofs.YtpfmpeaekgdgnaaGreat.addX x kind s).1 := by
 unfold Go.Proofs.YtpfmpeaekgdgnaaGreat.addX;rw [h.most, h.next, h.len];split
 ·exact ⟨rfl, h⟩
 ·split
  ·exact ⟨rfl, h⟩
  ·refine ⟨rfl, rfl, rfl, h.l.append_right _, ?_⟩;rw [List.map_append, List.nodup_append];refine ⟨h.nd, by simp, fun a ha b hb => ?_⟩;simp only [List.map_cons, List.map_nil, List.mem_singleton] at hb;obtain ⟨n, h1, rfl⟩ := List.mem_map.1 ha;have := hlt n h1;simp only [kO] at hb;omega
theorem XP.insX (h : XP d x) (bel : Int → List Int) (p at_ id : Int) : (insX x bel p at_ id).2 = (insX d bel p at_ id).2 ∧ XP (Go.Proofs.YtpfmpeaekgdgnaaGreat.insX d bel p at_ id).1 (Go.Proofs.YtpfmpeaekgdgnaaGreat.insX x bel p at_ id).1 := by
 unfold Go.Proofs.YtpfmpeaekgdgnaaGreat.insX;rw [h.most, h.next, h.fd, h.il, h.wb];split
 ·exact ⟨rfl, h⟩
 ·split
  ·exact ⟨rfl, h⟩
  ·split
   ·exact ⟨rfl, h⟩
   ·refine ⟨rfl, rfl, rfl, ?_, ?_⟩
    ·unfold dC; exact (h.l.map _).map _
    ·show ((dC (dC d.l _) _).map ND.ID).Nodup
     rw [lU, lU]; exact h.nd
theorem XP.movX (h : XP d x) (id at_ : Int) : (movX x id at_).2 = (movX d id at_).2 ∧ XP (Go.Proofs.YtpfmpeaekgdgnaaGreat.movX d id at_).1 (Go.Proofs.YtpfmpeaekgdgnaaGreat.movX x id at_).1 := by
 unfold Go.Proofs.YtpfmpeaekgdgnaaGreat.movX;rw [h.most, h.next, h.fd, h.il];split
 ·exact ⟨rfl, h⟩
 ·split
  ·exact ⟨rfl, h⟩
  ·exact ⟨rfl, rfl, rfl, h.put _, by show ((dC d.l _).map ND.ID).Nodup; rw [lU]; exact h.nd⟩
theorem XP.remX (h : XP d x) (bel : Int → List Int) (id : Int) : (remX x bel id).2 = (remX d bel id).2 ∧ XP (Go.Proofs.YtpfmpeaekgdgnaaGreat.remX d bel id).1 (Go.Proofs.YtpfmpeaekgdgnaaGreat.remX x bel id).1 := by
 unfold Go.Proofs.YtpfmpeaekgdgnaaGreat.remX;rw [h.most, h.next, h.il];split
 ·exact ⟨rfl, h⟩
 ·split
  ·exact ⟨rfl, h⟩
  ·refine ⟨rfl, rfl, rfl, (h.remP id).filter _, ?_⟩;have hn : ((Go.Proofs.YtpfmpeaekgdgnaaGreat.remP d.l id).map ND.ID).Nodup := by rw [Cf]; exact h.nd
   exact hn.sublist (List.Sublist.map _ List.filter_sublist)
theorem XP.setX (h : XP d x) (kind id : Int) (name v : ByteArray) (num : Int) : (setX x kind id name v num).2 = (setX d kind id name v num).2 ∧ XP (Go.Proofs.YtpfmpeaekgdgnaaGreat.setX d kind id name v num).1 (Go.Proofs.YtpfmpeaekgdgnaaGreat.setX x kind id name v num).1 := by
 unfold Go.Proofs.YtpfmpeaekgdgnaaGreat.setX;rw [h.most, h.next, h.fd, h.il];split
 ·exact ⟨rfl, h⟩
 ·split
  ·exact ⟨rfl, h⟩
  ·split
   ·exact ⟨rfl, h⟩
   ·split
    ·exact ⟨rfl, h⟩
    ·split
     ·exact ⟨rfl, h⟩
     ·exact ⟨rfl, rfl, rfl, h.put _, by show ((dC d.l _).map ND.ID).Nodup; rw [lU]; exact h.nd⟩
def Nx (d d' : RD) : Prop := d'.most = d.most ∧ (d'.next = d.next ∨ d'.next = d.next + 1)
theorem Nx.refl (d : RD) : Nx d d := ⟨rfl, .inl rfl⟩
theorem Ie (d : RD) (kind : Int) (s : ByteArray) : Nx d (addX d kind s).1 := by
 unfold addX; split
 ·exact Nx.refl d
 ·split
  ·exact Nx.refl d
  ·exact ⟨rfl, .inr rfl⟩
theorem Xs (d : RD) (bel : Int → List Int) (p at_ id : Int) : Nx d (insX d bel p at_ id).1 := by
 unfold insX; (repeat' split) <;> exact ⟨rfl, .inl rfl⟩
theorem Wm (d : RD) (id at_ : Int) : Nx d (movX d id at_).1 := by
 unfold movX; (repeat' split) <;> exact ⟨rfl, .inl rfl⟩
theorem Vq (d : RD) (bel : Int → List Int) (id : Int) : Nx d (remX d bel id).1 := by
 unfold remX; (repeat' split) <;> exact ⟨rfl, .inl rfl⟩
theorem Yn (d : RD) (kind id : Int) (name v : ByteArray) (num : Int) : Nx d (setX d kind id name v num).1 := by
 unfold setX; (repeat' split) <;> exact ⟨rfl, .inl rfl⟩
structure IX (k m M : Nat) (d : DS) (rk : Int → Nat) (x : RD) (σ : List (List D)) : Prop where
 iv : IV k m M d rk σ
 xp : XP d.x x
theorem IX.app {k m M : Nat} {d : DS} {rk : Int → Nat} {x : RD} {σ : List (List D)} (h : IX k m M d rk x σ) (J : List (List D)) : IX k m M d rk x (σ ++ J) := ⟨h.iv.app J, h.xp⟩
theorem IX.mono {k m M : Nat} {d : DS} {rk : Int → Nat} {x : RD} {σ : List (List D)} (h : IX k m M d rk x σ) : IX (k + 1) m M d rk x σ := ⟨h.iv.mono, h.xp⟩
theorem DO.frame {m M : Nat} {d : DS} {σ σ' : List (List D)} (h : DO m M d σ) (hl : σ.length ≤ σ'.length) (hf : ∀ i, (i = m ∨ ∃ e ∈ d.es, e.o = i) → σ'[i]? = σ[i]?) : DO m M d σ' :=
 ⟨by rw [hf m (.inl rfl)]; exact h.hm, fun e he => by rw [hf e.o (.inr ⟨e, he, rfl⟩)]; exact h.hn e he, h.nm, h.nd, by have := h.hM; omega⟩
theorem IX.frame {k m M : Nat} {d : DS} {rk : Int → Nat} {x : RD} {σ σ' : List (List D)} (h : IX k m M d rk x σ) (hl : σ.length ≤ σ'.length) (hf : ∀ i, (i = m ∨ ∃ e ∈ d.es, e.o = i) → σ'[i]? = σ[i]?) : IX k m M d rk x σ' := ⟨⟨h.iv.ho.frame hl hf, h.iv.ip, h.iv.wt⟩, h.xp⟩
def Off (m : Nat) (d : DS) (i : Nat) : Prop := i ≠ m ∧ ∀ e ∈ d.es, e.o ≠ i
theorem Off.step {m i : Nat} {d d' : DS} {σ σ' : List (List D)} (h : Off m d i) (hi : i < σ.length) (hf : FrO m d d' σ σ') : Off m d' i ∧ σ'[i]? = σ[i]? :=
 ⟨⟨h.1, fun e he e1 => by
  rcases hf.own e he with ⟨e0, h0, q⟩ | h1
  ·exact h.2 e0 h0 (q.trans e1)
  ·omega⟩, hf.keep i hi h.1 h.2⟩
theorem IX.put {k m M : Nat} {d : DS} {rk : Int → Nat} {x : RD} {σ : List (List D)} (h : IX k m M d rk x σ) {i : Nat} (ho : Off m d i) (c : List D) : IX k m M d rk x (σ.set i c) :=
 h.frame (by rw [List.length_set]; exact Nat.le_refl _) fun j hj => by
  rw [List.getElem?_set_ne];rcases hj with rfl | ⟨e, he, rfl⟩
  ·exact ho.1
  ·exact fun q => ho.2 e he q.symm
theorem IX.off {k m M : Nat} {d : DS} {rk : Int → Nat} {x : RD} {σ : List (List D)} (h : IX k m M d rk x σ) {i : Nat} (hi : σ.length ≤ i) : Off m d i :=
 ⟨fun e => by have := gU h.iv.ho.hm; omega, fun e he q => by have := h.iv.ho.lt he; omega⟩
end Go.Proofs.YtpfmpeaekgdgnaaGreat

