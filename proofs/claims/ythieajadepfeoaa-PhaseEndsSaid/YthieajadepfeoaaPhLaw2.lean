/- The plain law of phase: what is told. -/
import Derived.Test.YthieajadepfeoaaWkPhase2
import Derived.Test.YthieajadepfeoaaPhLaw
namespace Go.Proofs.Ythieajadepfeoaa
open Go Go.Vm
set_option linter.all false
set_option maxHeartbeats 4000000
def okRun : Int → List Int → Bool
  | _, [] => true
  | s, h :: t => decide (0 ≤ nextF s h) && okRun (nextF s h) t
def runF (s : Int) (l : List Int) : Int := l.foldl nextF s
theorem run_snoc (s : Int) (l : List Int) (k : Nat) (h : k < l.length) : runF s (l.take (k + 1)) = nextF (runF s (l.take k)) l[k] := by
  unfold runF; rw [take_snoc l k h, List.foldl_append]; rfl
theorem okRun_at : ∀ (l : List Int) (s : Int) (k : Nat), okRun s l = true → (h : k < l.length) → 0 ≤ nextF (runF s (l.take k)) l[k]
  | h :: t, s, 0, ho, _ => by simp [okRun] at ho; exact ho.1
  | h :: t, s, k + 1, ho, hk => by
    simp [okRun] at ho
    simpa [runF] using okRun_at t (nextF s h) k ho.2 (by simpa using hk)
structure Fits (s : State) (st : Int) : Prop where
  en : entering s.look = true → st = 2
  le : leaving s.look = true → st = 5
  wa : s.look.kind = 1 → st = 0 ∨ st = 6
  qu : s.look.kind = 0 ∨ s.look.kind = 4 → st = 0 ∨ st = 3
def rng (x : Int) : Prop := -2147483648 ≤ x ∧ x ≤ 2147483647
def InvM (s : State) : Prop := Inv s ∧ (s.look.move = 1 → rng s.look.DX ∧ rng s.look.DY) ∧ (s.look.move ≠ 1 → s.look.DX = 0 ∧ s.look.DY = 0)
theorem sat_rng (x : Int) : rng (sat x) := by unfold sat rng; repeat' split <;> omega
theorem may_law (s : State) (h : InvM s) : may s.look = true := by
  obtain ⟨⟨k, m, x, y⟩, d, e⟩ := s
  obtain ⟨h1, h2, h3⟩ := h
  simp only [Inv, rng] at *
  unfold may
  simp only
  by_cases hm : m = 1
  · obtain ⟨⟨a1, a2⟩, a3, a4⟩ := h2 hm
    (repeat' split) <;> simp_all <;> omega
  · obtain ⟨rfl, rfl⟩ := h3 hm
    (repeat' split) <;> simp_all <;> omega
theorem new_words (b : Bool) : InvM (new b) ∧ Fits (new b) 0 := by
  cases b
  · refine ⟨⟨new_inv _, by simp [new], by simp [new]⟩, ⟨by simp [new, entering], by simp [new, leaving], by simp [new], by simp [new]⟩⟩
  · refine ⟨⟨new_inv _, by simp [new], by simp [new]⟩, ⟨by simp [new, entering], by simp [new, leaving], by simp [new], by simp [new]⟩⟩
theorem nexts : nextF 0 1 = 1 ∧ nextF 0 5 = 4 ∧ nextF 1 2 = 2 ∧ nextF 2 3 = 3 ∧ nextF 2 4 = 3 ∧ nextF 3 5 = 4 ∧ nextF 4 6 = 5 ∧ nextF 5 7 = 6 ∧ nextF 5 8 = 6 ∧ nextF 6 1 = 1 := by decide
structure WordsOk (o : Out) (st : Int) : Prop where
  ok : okRun st o.hooks = true
  gone : o.gone = true → runF st o.hooks = 6 ∨ runF st o.hooks = 0 ∨ runF st o.hooks = 3
  fits : o.gone = false → Fits o.state (runF st o.hooks)
  inv : InvM o.state
theorem do_len (s : State) (a : Act) (h : Inv s) : (do_ s a).hooks.length ≤ 10 := by
  obtain ⟨⟨k, m, x, y⟩, d, e⟩ := s
  obtain ⟨c, du, ax, ay, on⟩ := a
  rcases cases_kind h with ⟨rfl, rfl | rfl | rfl⟩ | ⟨rfl, rfl | rfl | rfl | rfl | rfl | rfl⟩ <;>
  rcases do_cases c with rfl | rfl | rfl | rfl | rfl | rfl | rfl | rfl | rfl | rfl | ⟨h0, h1, h2, h3, h4, h5, h6, h7, h8, h9⟩ <;>
  (simp [do_, enter, leave, hold, return_, frame, finish, cancel, settle, shift, moveFrame, moveFinish, stEnd, broken, start, tell, outOver, outTo, unmove, stOut, entering, leaving, *] <;>
  (repeat' split) <;> simp_all)
theorem words_law (s : State) (a : Act) (st : Int) (hi : InvM s) (hf : Fits s st) (hx : rng a.DX) (hy : rng a.DY) : WordsOk (do_ s a) st := by
  obtain ⟨n1, n2, n3, n4, n5, n6, n7, n8, n9, n10⟩ := nexts
  have hinv := do_inv s a hi.1
  obtain ⟨⟨k, m, x, y⟩, d, e⟩ := s
  obtain ⟨c, du, ax, ay, on⟩ := a
  obtain ⟨hi, hm1, hm2⟩ := hi
  obtain ⟨f1, f2, f3, f4⟩ := hf
  rcases cases_kind hi with ⟨rfl, rfl | rfl | rfl⟩ | ⟨rfl, rfl | rfl | rfl | rfl | rfl | rfl⟩ <;>
  simp [entering, leaving] at f1 f2 f3 f4 hm1 hm2 <;>
  (try rcases f3 with rfl | rfl) <;> (try rcases f4 with rfl | rfl) <;> (try subst f1) <;> (try subst f2) <;>
  rcases do_cases c with rfl | rfl | rfl | rfl | rfl | rfl | rfl | rfl | rfl | rfl | ⟨h0, h1, h2, h3, h4, h5, h6, h7, h8, h9⟩ <;>
  (refine ⟨?_, ?_, fun hg => ⟨?_, ?_, ?_, ?_⟩, hinv, ?_⟩ <;> (try revert hg) <;> clear hinv <;>
  (simp [do_, okRun, runF, enter, leave, hold, return_, frame, finish, cancel, settle, shift, moveFrame, moveFinish, stEnd, broken, start, tell, outOver, outTo, unmove, stOut, entering, leaving, *] <;>
  (repeat' split) <;> (try simp_all) <;> (try simp [okRun, runF, *])))
end Go.Proofs.Ythieajadepfeoaa
