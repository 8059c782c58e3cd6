import Derived.Laws.IdiomStrings
import Derived.Test.YtighdhfgcdjmeaaGreatDoorVmX7
namespace Go.Vm
open Go
set_option linter.all false
theorem Ok.escLoc {w : World} {g : Gh} {st : St} {val : Nat → Value} (h : Ok w g st val) (t n : Nat) (cs : List D) (ht : st.env t = .lref n 0) (hn : st.loc[n]? = some cs) :
  ∃ g' : Gh, g'.bl = g.bl ∧ Fr w g w g' ∧ Ok w g' (({ st with loc := st.loc.set n [], obj := st.obj ++ [cs] } : St).set t (.d (.ref st.obj.length 0))) val := by
 have hnl := (List.getElem?_eq_some_iff.1 hn).1;have hsl := h.slot t;rw [ht] at hsl;obtain ⟨b, hb, hv⟩ := hsl;have hbox := h.loc n b cs hb hn;have hbs : ∀ (n' b' : Nat), g.bs[n']? = some b' → (g.bs ++ [b])[n']? = some b' := fun n' b' hb' => by
  rw [List.getElem?_append_left (by exact (List.getElem?_eq_some_iff.1 hb').1)]; exact hb'
 have hnew : (g.bs ++ [b])[st.obj.length]? = some b := by rw [← h.ol]; simp
 have other : ∀ (hd : Holder), hd ≠ .loc n → ∀ (b' : Nat) (q : List Nat), g.X b' = some (hd, q) → w.heap[b']? = w.heap[b']? ∧ (∀ o, g.M b' o = none → g.M b' o = none) ∧ cH (dG (.loc n) [] (.obj st.obj.length) []) g.X b' = some (hd, q) := by
  intro hd hne b' q hx;exact ⟨rfl, fun _ h => h, by simp [cH, hx, fP (t := (hd, q)) hne]⟩
 refine ⟨{ g with X := cH (dG (.loc n) [] (.obj st.obj.length) []) g.X, bs := g.bs ++ [b] }, rfl, ⟨rfl, rfl, rfl, Nat.le_refl _, fun b' _ hx => ⟨rfl, by simp [cH, hx], fun o => rfl⟩, fun _ _ _ h => h, hbs⟩,
  ⟨h.mem, fun b' tg hx => ?_, fun u => ?_, by show g.bl.length = (st.loc.set n []).length; rw [List.length_set]; exact h.ll, fun m b' ds h1 h2 => ?_, by show (g.bs ++ [b]).length = (st.obj ++ [cs]).length; simp [h.ol], fun m b' ds h1 h2 => ?_⟩⟩
 ·simp only [cH, Option.map_eq_some_iff] at hx;obtain ⟨tg', hx, _⟩ := hx;exact h.xlt b' tg' hx
 ·simp only [St.set];by_cases e : u = t
  ·subst e;simp only [if_true];exact ⟨by rw [hv]; exact .ref _ _ b hnew, .flat _ _ _ rfl⟩
  ·simp only [e, if_false];exact (h.slot u).keep (fun _ _ _ h => h) hbs (fun _ _ h => h) (other _ (by simp))
 ·have h2 : (st.loc.set n [])[m]? = some ds := h2;rw [List.getElem?_set] at h2;split at h2
  ·exact .inl (by have := h2; simp at this; exact this)
  ·rename_i e;exact (h.loc m b' ds h1 h2).keep (fun _ _ _ h => h) hbs (other _ (by simp; exact fun e' => e e'.symm))
 ·have h1 : (g.bs ++ [b])[m]? = some b' := h1;have h2 : (st.obj ++ [cs])[m]? = some ds := h2;by_cases hm : m < st.obj.length
  ·rw [List.getElem?_append_left (by rw [h.ol]; exact hm)] at h1;rw [List.getElem?_append_left hm] at h2;exact (h.obj m b' ds h1 h2).keep (fun _ _ _ h => h) hbs (other _ (by simp))
  ·have hlt := (List.getElem?_eq_some_iff.1 h2).1;simp at hlt;have hm2 : m = st.obj.length := by omega
   subst hm2;rw [hnew] at h1;obtain rfl := Option.some.inj h1;have e2 : ds = cs := by simpa using h2.symm
   subst e2;rcases hbox with h0 | ⟨cur, E, o1, o2, o3, o4, o5⟩
   ·exact .inl h0
   ·refine .inr ⟨cur, E, o1, o2, by simp [cH, o3, dG], o4, fun i d x a1 a2 => ?_⟩;obtain ⟨r1, r2, r3⟩ := o5 i d x a1 a2;refine ⟨r1.mono (fun _ _ _ h => h) hbs, r2.move (fun _ _ _ h => h) hbs [i] fun b' q hx => ⟨rfl, fun _ h => h, ?_⟩, r3⟩;simp [cH, hx, dG]
theorem Bl {P : Program} (t n : Nat) {cs : List D} {c : Code} {k : Nat} {l : List (Nat × Slot)} {loc obj : List (List D)} {Q : Exit → St → Prop} (ht : bT l t = .lref n 0) (hn : loc[n]? = some cs)
  (h : fH P c Q (St.mk' k ((t, .d (.ref obj.length 0)) :: l) (loc.set n []) (obj ++ [cs]))) : fH P c Q (St.mk' k l loc obj) := by
 intro w0 g0 w g tmps hf hok hk;obtain ⟨g', _, hfr, hok'⟩ := hok.escLoc t n cs ht hn;exact h w0 g0 w g' tmps (hf.trans hfr) hok' hk
end Go.Vm

