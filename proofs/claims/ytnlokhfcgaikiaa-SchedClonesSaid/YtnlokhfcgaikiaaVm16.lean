import Derived.Test.YtnlokhfcgaikiaaVm15
namespace Go.Vm
open Go
section
variable {P : Program}
def resOne (P : Program) (s : St) : ResultVar → Option (D × Option Holder)
 | .tmp t => match s.env t with
  | .d (.tup _) => none
  | .d d => some (d, some (.slot t))
  | .lref _ _ => none
 | .cell a t => match tyI P t, s.env a with
  | some (ag, n), .lref m off => match s.loc[m]? with
   | some cs => match ldD ag n (cs.drop off) with
    | some y => if ag = true ∧ off = 0 then some (y, some (.loc m)) else some (y.s2, none)
    | none => none
   | none => none
  | _, _ => none
def resAll (P : Program) (s : St) : List ResultVar → Option (List (D × Option Holder))
 | [] => some []
 | r :: rs => match resOne P s r, resAll P s rs with
  | some x, some xs => some (x :: xs)
  | _, _ => none
def D.ofList : List D → D
 | [d] => d
 | ds => .tup ds
def resTag (hs : List (Option Holder)) : Tag → Option Tag
 | (.obj n, q) => some (.obj n, q)
 | (h, q) => (hs.findIdx? (· == some h)).map fun i => (.slot 0, (if hs.length = 1 then [] else [i]) ++ q)
def hsOk (hs : List (Option Holder)) : Bool := decide (hs.filterMap id).Nodup
def endQ (P : Program) (rs : List ResultVar) (Q : D → List (List D) → Prop) : Exit → St → Prop := fun e s =>
 (match e with | .normal | .ret => True | _ => False) ∧ match resAll P s rs with
  | some xs => hsOk (xs.map (·.2)) = true ∧ Q (D.ofList (xs.map (·.1))) s.obj
  | none => False
theorem findIdx_holder : ∀ (hs : List (Option Holder)) (i : Nat) (h : Holder), (hs.filterMap id).Nodup → hs[i]? = some (some h) → hs.findIdx? (· == some h) = some i
 | [], i, h, _, e => by simp at e
 | x :: hs, i, h, hn, e => by
  match i with
  | 0 =>
   simp only [List.getElem?_cons_zero, Option.some.injEq] at e
   simp [List.findIdx?_cons, e]
  | i + 1 =>
   have e' : hs[i]? = some (some h) := by simpa using e
   have hne : x ≠ some h := by
    intro ex
    subst ex
    have hmem : h ∈ hs.filterMap id := List.mem_filterMap.2 ⟨some h, List.mem_of_getElem? e', rfl⟩
    simp only [List.filterMap_cons, id] at hn
    exact (List.nodup_cons.1 hn).1 hmem
   have hn' : (hs.filterMap id).Nodup := by
    simp only [List.filterMap_cons] at hn
    split at hn
    ·exact hn
    ·exact (List.nodup_cons.1 hn).2
   have ih := findIdx_holder hs i h hn' e'
   simp [List.findIdx?_cons, hne, ih]
def resF (tmps : Array Value) : ResultVar → Sem Value
 | .tmp t => pure (tmps.getD t undef)
 | .cell a t => do loadVar t (← asAddr (tmps.getD a undef))
def resOwn (w : World) (g : Gh) (d : D) (v : Value) : Option Holder → Prop
 | some hd => (∀ n, hd ≠ .obj n) ∧ Own w g.M g.bs g.X hd [] d v
 | none => ∀ X h p, Own w g.M g.bs X h p d v
theorem resOne_sound {w : World} {g : Gh} {s : St} {tmps : Array Value} (hok : Ok w g s (vals tmps)) {r : ResultVar} {d : D} {ho : Option Holder} (h : resOne P s r = some (d, ho)) :
  ∃ v, (resF tmps r).run P w = .ok v w ∧ R g.M g.bs d v ∧ (∀ cs, d ≠ .tup cs) ∧ resOwn w g d v ho := by
 cases r with
 | tmp t =>
  have hs := hok.slot t
  simp only [resOne] at h
  split at h
  ·cases h
  ·rename_i y hne hy
   simp only [Option.some.injEq, Prod.mk.injEq] at h
   obtain ⟨rfl, rfl⟩ := h
   rw [hy] at hs
   exact ⟨_, rfl, hs.1, fun cs e => hne cs e, by simp, hs.2⟩
  ·cases h
 | cell a t =>
  simp only [resOne] at h
  split at h
  ·rename_i ag n m off ht ha
   split at h
   ·rename_i cs hcs
    split at h
    ·rename_i y hld
     obtain ⟨b, hb, hv⟩ := hok.rdL (x := .tmp a) ha
     have hv' : tmps.getD a undef = .pointer (some ⟨b, off, none⟩) := hv
     have hbx := hok.loc m b cs hb hcs
     obtain ⟨v, hrun, hr⟩ := run_loadVar (P := P) (cv_box hbx off) ht hld
     have hnt := loadVar_plain (cv_box hbx off) hld
     have hrun' : (resF tmps (.cell a t)).run P w = .ok v w := by
      simp only [resF, hv']
      simp [asAddr, hrun]
     split at h
     ·rename_i hc
      simp only [Option.some.injEq, Prod.mk.injEq] at h
      obtain ⟨rfl, rfl⟩ := h
      obtain ⟨rfl, rfl⟩ := hc
      refine ⟨v, hrun', hr, hnt, by simp, ?_⟩
      rcases hbx with rfl | ⟨cur, E, h1, h2, h3, h4, h5⟩
      ·simp only [ldD, if_true, List.drop_zero, List.take_nil] at hld
       split at hld
       ·simp only [Option.some.injEq] at hld
        subst hld
        cases hr with
        | agg _ vs hl hrr h1' => exact .agg _ _ vs fun i e c a1 a2 => by simp at a1
       ·cases hld
      simp only [ldD, if_true, List.drop_zero] at hld
      split at hld
      ·simp only [Option.some.injEq] at hld
       subst hld
       cases hr with
       | agg _ vs hl hrr h1' =>
        refine .agg _ _ vs fun i e c a1 a2 => ?_
        rw [List.getElem?_take] at a1
        split at a1
        ·rename_i hin
         -- the value's cells are the box's
         have hcu : cur[i]? = some c := by
          obtain ⟨td, ti, i1, i2, i3, i4⟩ := tyI_spec ht
          have e1 : ∀ (j : Nat) (x : Value), (cur.toList.take n)[j]? = some x → w.cell? ((⟨b, 0, none⟩ : Addr).add j) = some x := by
           intro j x hj
           rw [Addr.add_none, Nat.zero_add, cell_of_row w b j cur E (0, 0) h1]
           rw [List.getElem?_take] at hj
           split at hj
           ·rw [Array.getElem?_toList] at hj; exact hj
           ·cases hj
          have hlen : (cur.toList.take n).length = n := by
           rw [List.length_take, Array.length_toList, h2]; omega
          have hl2 := run_loadCells_list (P := P) w ⟨b, 0, none⟩ (cur.toList.take n) e1
          rw [hlen] at hl2
          have : (loadVar t ⟨b, 0, none⟩).run P w = .ok (.agg (cur.toList.take n).toArray) w := by simp [loadVar, run_isAgg i1, i3, run_sizeOf i2, i4, hl2]
          rw [this] at hrun
          simp only [Result.ok.injEq, and_true, Value.agg.injEq] at hrun
          rw [← hrun, List.getElem?_toArray, List.getElem?_take, if_pos hin, Array.getElem?_toList] at a2
          exact a2
         exact (h5 i e c a1 hcu).2.1
        ·cases a1
      ·cases hld
     ·simp only [Option.some.injEq, Prod.mk.injEq] at h
      obtain ⟨rfl, rfl⟩ := h
      refine ⟨v, hrun', hr.s2, ?_, fun X h p => own_s2 hr hnt⟩
      intro ds e
      cases y <;> simp [D.s2, D.s1] at e
      exact absurd rfl (hnt _)
    ·cases h
   ·cases h
  ·cases h
theorem resAll_sound {w : World} {g : Gh} {s : St} {tmps : Array Value} (hok : Ok w g s (vals tmps)) : ∀ (rs : List ResultVar) (xs : List (D × Option Holder)), resAll P s rs = some xs → ∃ vs : List Value, vs.length = xs.length ∧
  (rs.mapM (resF tmps)).run P w = .ok vs w ∧
  ∀ (i : Nat) (x : D × Option Holder) (v : Value), xs[i]? = some x → vs[i]? = some v → R g.M g.bs x.1 v ∧ (∀ cs, x.1 ≠ .tup cs) ∧ resOwn w g x.1 v x.2
 | [], xs, h => by
  simp only [resAll, Option.some.injEq] at h
  subst h
  exact ⟨[], rfl, rfl, fun i x v h => by simp at h⟩
 | r :: rs, xs, h => by
  simp only [resAll] at h
  split at h
  ·rename_i x ys h1 h2
   simp only [Option.some.injEq] at h
   subst h
   obtain ⟨d, ho⟩ := x
   obtain ⟨v, a1, a2, a3, a4⟩ := resOne_sound hok h1
   obtain ⟨vs, b1, b2, b3⟩ := resAll_sound hok rs ys h2
   refine ⟨v :: vs, by simp [b1], ?_, fun i x u c1 c2 => ?_⟩
   ·rw [List.mapM_cons, Sem.run_bind]
    rw [a1, Result.andThen_ok, Sem.run_bind, b2]
    rfl
   ·match i with
    | 0 => simp at c1 c2; subst c1; subst c2; exact ⟨a2, a3, a4⟩
    | i + 1 => exact b3 i x u (by simpa using c1) (by simpa using c2)
  ·cases h
theorem fn_of {f : FuncId} {fn : Func} {c : Code} {args : List D} {σ : List (List D)} {Q : D → List (List D) → Prop} (hf : P.funcs[f]? = some fn) (hb : fn.body = some c) (hname : (fn.name != "runtime.NumGoroutine") = true)
  (h : AWP P c (endQ P fn.results.toList Q) { n := args.length + (fn.ntmps - args.length), env := slotsOf args, loc := [], obj := σ }) : Ct P f args σ Q := by
 refine ⟨by simp only [callable, hf, hb]; simp only [hname]; rfl, fun w g vs hsz hbl hok => ?_⟩
 refine calls_of_wp hf hb ?_
 have hok' : Ok w g { n := args.length + (fn.ntmps - args.length), env := slotsOf args, loc := [], obj := σ } (vals (vs ++ Array.replicate (fn.ntmps - vs.size) undef)) := by
  refine ⟨hok.mem, hok.xlt, fun t => ?_, hok.ll, hok.loc, hok.ol, hok.obj⟩
  have hs := hok.slot t
  have e : (St.ofArgs args σ).env t = slotsOf args t := rfl
  rw [e] at hs
  show SlotOk w g t (slotsOf args t) _
  by_cases ht : t < vs.size
  ·have : vals (vs ++ Array.replicate (fn.ntmps - vs.size) undef) t = vals vs t := by
    simp [vals, Array.getElem?_append_left, ht]
   rw [this]; exact hs
  ·have : slotsOf args t = .any := by
    simp only [slotsOf]
    rw [List.getElem?_eq_none (by omega)]
   rw [this]
   exact ⟨.any _, .flat _ _ _ rfl⟩
 refine wp_mono (h w g w g _ (Fr.refl w g) hok' (by simp [hsz])) ?_
 rintro e a w' ⟨hd, st', g', ⟨hexit, hq⟩, hf', hok'', hn'⟩
 have main : a.defers = [] ∧ ∃ v, (results fn a.tmps).run P w' = .ok v w' ∧ ∃ r σ' x g', Ending.returned v = .returned x ∧ Q r σ' ∧ g'.bl = [] ∧ Fr w g w' g' ∧ Ok w' g' (St.ofRes r σ') (fun t => if t = 0 then x else undef) := by
  refine ⟨hd, ?_⟩
  split at hq
  ·rename_i xs hxs
   obtain ⟨hh, hQ⟩ := hq
   obtain ⟨vs', b1, b2, b3⟩ := resAll_sound hok'' _ xs hxs
   have hnd : ((xs.map (·.2)).filterMap id).Nodup := by simpa [hsOk] using hh
   have hrun : (results fn a.tmps).run P w' = .ok (if h : vs'.toArray.size = 1 then vs'.toArray[0] else .tuple vs'.toArray) w' := by
    have e0 : results fn a.tmps = (do let vs ← fn.results.mapM (resF a.tmps); pure (if h : vs.size = 1 then vs[0] else .tuple vs)) := by
     unfold results
     congr 1
    rw [e0, Sem.run_bind, Array.mapM_eq_mapM_toList, Sem.run_map, b2]
    rfl
   refine ⟨_, hrun, D.ofList (xs.map (·.1)), st'.obj, _, { M := g'.M, X := fun b => (g'.X b).bind (resTag (xs.map (·.2))), bl := [], bs := g'.bs }, rfl, hQ, rfl, ?_, ?_⟩
   ·exact ⟨hf'.os, hf'.tape, hf'.output, hf'.size, fun b hb hx => by
     obtain ⟨c1, c2, c3⟩ := hf'.keep b hb hx
     exact ⟨c1, by simp [c2], c3⟩, hf'.mono, hf'.bs⟩
   ·refine ⟨hok''.mem, fun b t hb => ?_, fun t => ?_, rfl, fun n b cs h1 h2 => by simp at h1, hok''.ol, fun n b cs h1 h2 => ?_⟩
    ·simp only [Option.bind_eq_some_iff] at hb
     obtain ⟨t', hb, _⟩ := hb
     exact hok''.xlt b t' hb
    ·show SlotOk w' _ t (slotsOf [D.ofList (xs.map (·.1))] t) _
     by_cases ht : t = 0
     ·subst ht
      simp only [slotsOf, List.getElem?_cons_zero, if_true]
      -- each result with its rights
      have each : ∀ (i : Nat) (x : D × Option Holder) (v : Value), xs[i]? = some x → vs'[i]? = some v → R g'.M g'.bs x.1 v ∧ (∀ cs, x.1 ≠ .tup cs) ∧ Own w' g'.M g'.bs (fun b => (g'.X b).bind (resTag (xs.map (·.2)))) (.slot 0) (if (xs.map (·.2)).length = 1 then [] else [i]) x.1 v := by
       intro i x v c1 c2
       obtain ⟨d1, d2, d3⟩ := b3 i x v c1 c2
       refine ⟨d1, d2, ?_⟩
       cases hx2 : x.2 with
       | none => rw [hx2] at d3; exact d3 _ _ _
       | some hd =>
        rw [hx2] at d3
        refine d3.2.move (fun _ _ _ h => h) (fun _ _ h => h) _ fun b q hb => ⟨rfl, fun _ h => h, ?_⟩
        have hi : (xs.map (·.2))[i]? = some (some hd) := by rw [List.getElem?_map, c1, Option.map_some, hx2]
        have hidx := findIdx_holder _ i hd hnd hi
        simp only [List.nil_append] at hb
        simp only [hb, Option.bind_some]
        have hno := d3.1
        cases hd with
        | obj n => exact absurd rfl (hno n)
        | slot t => simp only [resTag, hidx, Option.map_some]
        | loc t => simp only [resTag, hidx, Option.map_some]
      rcases xs with _ | ⟨x, _ | ⟨y, xs⟩⟩
      ·rcases vs' with _ | ⟨v, vs'⟩
       ·simp only [D.ofList, List.map_nil]
        exact ⟨.tup [] #[] rfl (fun i d x h => by simp at h), .tup _ [] #[] (fun i d x h => by simp at h)⟩
       ·simp at b1
      ·rcases vs' with _ | ⟨v, _ | ⟨u, vs'⟩⟩
       ·simp at b1
       ·obtain ⟨d1, d2, d3⟩ := each 0 x v rfl rfl
        have d3' : Own w' g'.M g'.bs (fun b => (g'.X b).bind (resTag [x.2])) (.slot 0) [] x.1 v := by simpa using d3
        exact ⟨d1, d3'⟩
       ·simp at b1
      ·rcases vs' with _ | ⟨v, _ | ⟨u, vs'⟩⟩
       ·simp at b1
       ·simp at b1
       ·have hlen : ((x :: y :: xs).map (·.2)).length ≠ 1 := by simp
        simp only [if_neg hlen] at each
        have e1 : D.ofList ((x :: y :: xs).map (·.1)) = .tup ((x :: y :: xs).map (·.1)) := rfl
        rw [e1]
        have e2 : (if h : (v :: u :: vs').toArray.size = 1 then (v :: u :: vs').toArray[0] else Value.tuple (v :: u :: vs').toArray) = .tuple (v :: u :: vs').toArray := by
         rw [dif_neg (by simp)]
        rw [e2]
        refine ⟨.tup _ _ (by simpa using b1) (fun i d z c1 c2 => ?_), .tup _ _ _ fun i d z c1 c2 => ?_⟩
        ·rw [List.getElem?_map, Option.map_eq_some_iff] at c1
         obtain ⟨x', c1, rfl⟩ := c1
         exact (each i x' z c1 (by simpa using c2)).1
        ·rw [List.getElem?_map, Option.map_eq_some_iff] at c1
         obtain ⟨x', c1, rfl⟩ := c1
         simpa using (each i x' z c1 (by simpa using c2)).2.2
     ·have : slotsOf [D.ofList (xs.map (·.1))] t = .any := by
       simp only [slotsOf]
       rw [List.getElem?_eq_none (by simp; omega)]
      rw [this]
      exact ⟨.any _, .flat _ _ _ rfl⟩
    ·exact (hok''.obj n b cs h1 h2).keep (fun _ _ _ h => h) (fun _ _ h => h) fun b q hb => ⟨rfl, fun _ h => h, by simp [hb, resTag]⟩
  ·exact hq.elim
 cases e with
 | normal => exact main
 | ret => exact main
 | _ => exact hexit.elim
end
end Go.Vm
