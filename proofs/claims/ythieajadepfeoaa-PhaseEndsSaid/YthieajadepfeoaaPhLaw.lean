/- The plain law of phase. -/
import Derived.Test.YthieajadepfeoaaWkPhase
namespace Go.Proofs.Ythieajadepfeoaa
open Go Go.Vm
set_option linter.all false
set_option maxHeartbeats 4000000
def Inv (s : State) : Prop := 0 ≤ s.look.kind ∧ s.look.kind ≤ 6 ∧ 0 ≤ s.look.move ∧ s.look.move ≤ 2 ∧ (s.look.move ≠ 0 → s.look.kind = 0)
theorem new_inv (b : Bool) : Inv (new b) := by cases b <;> simp [Inv, new]
def wantF (k : Int) : Int := if k = 2 ∨ k = 5 then 1 else if k = 3 ∨ k = 6 then 2 else 0
/-- What a call makes of what is waited for. -/
structure JobOk (s : State) (a : Act) (o : Out) : Prop where
  j2 : o.job ≠ 0 → (if o.end_ = true then 0 else if a.call = 4 then 0 else wantF s.look.kind) = 0
  m2 : o.moveJob ≠ 0 → (if o.moveEnd = true then 0 else if a.call = 9 then 0 else s.look.move) = 0
  gone : o.gone = true → (if o.job ≠ 0 then o.job else if o.end_ = true then 0 else if a.call = 4 then 0 else wantF s.look.kind) = 0 ∧ (if o.moveJob ≠ 0 then o.moveJob else if o.moveEnd = true then 0 else if a.call = 9 then 0 else s.look.move) = 0
  st : o.gone = false → (if o.job ≠ 0 then o.job else if o.end_ = true then 0 else if a.call = 4 then 0 else wantF s.look.kind) = wantF o.state.look.kind ∧ (if o.moveJob ≠ 0 then o.moveJob else if o.moveEnd = true then 0 else if a.call = 9 then 0 else s.look.move) = o.state.look.move
theorem kinds {P : State → Prop} (h : ∀ k m x y d e, Inv ⟨⟨k, m, x, y⟩, d, e⟩ → P ⟨⟨k, m, x, y⟩, d, e⟩) (s : State) (hi : Inv s) : P s := by
  obtain ⟨⟨k, m, x, y⟩, d, e⟩ := s
  exact h _ _ _ _ _ _ hi
theorem cases_kind {k m : Int} (h : 0 ≤ k ∧ k ≤ 6 ∧ 0 ≤ m ∧ m ≤ 2 ∧ (m ≠ 0 → k = 0)) : (k = 0 ∧ (m = 0 ∨ m = 1 ∨ m = 2)) ∨ (m = 0 ∧ (k = 1 ∨ k = 2 ∨ k = 3 ∨ k = 4 ∨ k = 5 ∨ k = 6)) := by omega
theorem do_cases (c : Int) : c = 0 ∨ c = 1 ∨ c = 2 ∨ c = 3 ∨ c = 4 ∨ c = 5 ∨ c = 6 ∨ c = 7 ∨ c = 8 ∨ c = 9 ∨ (c ≠ 0 ∧ c ≠ 1 ∧ c ≠ 2 ∧ c ≠ 3 ∧ c ≠ 4 ∧ c ≠ 5 ∧ c ≠ 6 ∧ c ≠ 7 ∧ c ≠ 8 ∧ c ≠ 9) := by omega
theorem do_inv (s : State) (a : Act) (h : Inv s) : Inv (do_ s a).state := by
  obtain ⟨⟨k, m, x, y⟩, d, e⟩ := s
  obtain ⟨c, du, ax, ay, on⟩ := a
  rcases cases_kind h with ⟨rfl, rfl | rfl | rfl⟩ | ⟨rfl, rfl | rfl | rfl | rfl | rfl | rfl⟩ <;>
  rcases do_cases c with rfl | rfl | rfl | rfl | rfl | rfl | rfl | rfl | rfl | rfl | ⟨h0, h1, h2, h3, h4, h5, h6, h7, h8, h9⟩ <;>
  simp [do_, Inv, enter, leave, hold, return_, frame, finish, cancel, settle, shift, moveFrame, moveFinish, stEnd, broken, start, tell, outOver, outTo, unmove, stOut, entering, leaving, *] <;>
  (repeat' split) <;> simp_all
theorem jobs_law (s : State) (a : Act) (h : Inv s) (h4 : ¬ (a.call = 4 ∧ wantF s.look.kind ≠ 1)) (h9 : ¬ (a.call = 9 ∧ s.look.move ≠ 1)) : JobOk s a (do_ s a) := by
  obtain ⟨⟨k, m, x, y⟩, d, e⟩ := s
  obtain ⟨c, du, ax, ay, on⟩ := a
  rcases cases_kind h with ⟨rfl, rfl | rfl | rfl⟩ | ⟨rfl, rfl | rfl | rfl | rfl | rfl | rfl⟩ <;>
  rcases do_cases c with rfl | rfl | rfl | rfl | rfl | rfl | rfl | rfl | rfl | rfl | ⟨h0, h1, h2, h3, h4, h5, h6, h7, h8, h9⟩ <;>
  first | (exfalso; simp [wantF] at h4; done) | (exfalso; simp at h9; done) | (constructor <;>
  (simp [do_, wantF, enter, leave, hold, return_, frame, finish, cancel, settle, shift, moveFrame, moveFinish, stEnd, broken, start, tell, outOver, outTo, unmove, stOut, entering, leaving, *] <;>
  (repeat' split) <;> simp_all))
theorem ends_law (s : State) (h : Inv s) : ((finish (moveFrame (frame s).state).state).gone = true → leaving (moveFrame (frame s).state).state.look = true) ∧
    ((finish (moveFrame (frame s).state).state).gone = false →
      ((moveFinish (finish (moveFrame (frame s).state).state).state).state.look.kind = 0 ∨ (moveFinish (finish (moveFrame (frame s).state).state).state).state.look.kind = 1 ∨ (moveFinish (finish (moveFrame (frame s).state).state).state).state.look.kind = 4) ∧
      (moveFinish (finish (moveFrame (frame s).state).state).state).state.look.move = 0 ∧
      (finish (moveFinish (finish (moveFrame (frame s).state).state).state).state).state = (moveFinish (finish (moveFrame (frame s).state).state).state).state ∧
      (finish (moveFinish (finish (moveFrame (frame s).state).state).state).state).end_ = false) := by
  obtain ⟨⟨k, m, x, y⟩, d, e⟩ := s
  rcases cases_kind h with ⟨rfl, rfl | rfl | rfl⟩ | ⟨rfl, rfl | rfl | rfl | rfl | rfl | rfl⟩ <;>
  simp [frame, finish, moveFrame, moveFinish, stEnd, broken, start, tell, outOver, outTo, unmove, stOut, entering, leaving]
end Go.Proofs.Ythieajadepfeoaa
