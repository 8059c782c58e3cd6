import Derived.Test.YtighdhfgcdjmeaaDoorVm18
namespace Go.Vm
open Go
set_option linter.all false
section
variable {P : Program}
def dP : Op → Bool
 | .call { callee := .builtin _, .. } => false
 | .call _ => true
 | .binOp _ _ _ y _ => kK y
 | .range _ _ | .next _ _ | .entry _ => true
 | _ => false
theorem Pd {op : Op} (h : dP op = false) : nV op = false := by
 cases op <;> first | rfl | simp [dP] at h
theorem Ck {op : BinOp} {t : TypeId} {x y : Slot} {K : D → Prop} (h : jD P op t x y K) : ∃ d, K d ∧ jD P op t x y (· = d) := by
 unfold jD at *;split at h
 ·obtain ⟨h1, h2⟩ := h;unfold oF at *;cases op <;> simp only at h2 ⊢ <;> first | exact ⟨_, h2, h1, rfl⟩ | exact ⟨_, h2.2, h1, h2.1, rfl⟩ | exact ⟨_, h2.2.2, h1, h2.1, h2.2.1, rfl⟩ | exact h2.elim
 ·unfold oK at *;cases op <;> simp only at h ⊢ <;> first | exact ⟨_, h, rfl⟩ | exact ⟨_, h.2, h.1, rfl⟩ | exact h.elim
 ·obtain ⟨h1, h2⟩ := h;cases op <;> simp only at h2 ⊢ <;> first | exact ⟨_, h2, h1, rfl⟩ | exact h2.elim
 ·obtain ⟨h1, h2⟩ := h;cases op <;> simp only at h2 ⊢ <;> first | (obtain ⟨b, e1, e2⟩ := h2; exact ⟨_, e2, h1, b, e1, rfl⟩) | exact h2.elim
 ·obtain ⟨h1, h2⟩ := h;cases op <;> simp only at h2 ⊢ <;> first | exact ⟨_, h2, h1, rfl⟩ | exact h2.elim
 ·obtain ⟨h1, h2⟩ := h;cases op <;> simp only at h2 ⊢ <;> first | exact ⟨_, h2, h1, rfl⟩ | exact h2.elim
 ·exact h.elim
theorem Hr {op : UnOp} {x : D} {K : D → Prop} (h : oW op x K) : ∃ d, K d ∧ oW op x (· = d) := by
 unfold oW at *;split at h
 ·exact ⟨_, h, rfl⟩
 ·exact ⟨_, h.2, h.1, rfl⟩
 ·exact h.elim
theorem Dy {c : Cfg} {dst : Option Tmp} {f : Operand} {args : Array Operand} {ts : Array TypeId} {st : St} {K K' : St → Prop} (hk : ∀ s, K s → K' s) (h : aV P c dst (.call ⟨.value f, args, ts⟩) st K) : aV P c dst (.call ⟨.value f, args, ts⟩) st K' := by
 have pc : ∀ f, dL P dst f args.toList st K → dL P dst f args.toList st K' := by
  intro f h;unfold dL at *;split at h
  ·exact ⟨h.1, h.2.1, h.2.2.mono fun r σ' hK => hk _ hK⟩
  ·exact h
 have pt : ∀ fid, fE P dst fid args.toList st K → fE P dst fid args.toList st K' := fun fid h => ⟨h.1, h.2.1, h.2.2.mono fun r σ' hK => hk _ hK⟩;simp only [aV, eT] at *;cases f with
 | func fid =>
  simp only at *;cases dst with
  | none => exact pc _ h
  | some d =>
   simp only at *;split at h
   ·rename_i ht; rw [if_pos ht]; exact pt _ h
   ·rename_i ht; rw [if_neg ht]; exact pc _ h
 | _ => exact pc _ h
theorem Lc {c : Cfg} {dst : Option Tmp} {op : Op} {st : St} {K : St → Prop} (hc : dP op = false) (h : aV P c dst op st K) : ∃ s, K s ∧ aV P c dst op st (· = s) := by
 have mv : ∀ x, dG c dst x st K → ∃ s, K s ∧ dG c dst x st (· = s) := by
  intro x h;unfold dG at *;split at h
  ·split at h
   ·exact ⟨_, h, rfl⟩
   ·split at h
    ·rename_i ht; exact ⟨_, h.2.2, by rw [if_pos ht]; exact ⟨h.1, h.2.1, rfl⟩⟩
    ·rename_i ht; exact ⟨_, h.2, by rw [if_neg ht]; exact ⟨h.1, rfl⟩⟩
  ·exact h.elim
  ·exact ⟨_, h, rfl⟩
 have ld : ∀ t x, cR P dst t x st K → ∃ s, K s ∧ cR P dst t x st (· = s) := by
  intro t x h;unfold cR at *;split at h
  ·split at h
   ·exact ⟨_, h, rfl⟩
   ·exact h.elim
  ·exact h.elim
 cases op with
 | move x => exact mv x h
 | assign x => exact mv x h
 | binOp b t x y yt =>
  have hy : ¬ kK y = true := by simp only [dP] at hc; simp [hc]
  simp only [aV] at h ⊢;simp only [if_neg hy] at h ⊢;obtain ⟨d, h1, h2⟩ := Ck (P := P) h;exact ⟨_, h1, lQ (fun e he => by rw [he]) h2⟩
 | unOp u t x =>
  simp only [aV] at h ⊢;obtain ⟨d, h1, h2⟩ := Hr h;exact ⟨_, h1, nU (fun e he => by rw [he]) h2⟩
 | load t x =>
  simp only [aV, dM] at *;split at h
  ·split at h
   ·rename_i htk;simp only [if_pos htk];split at h
    ·split at h
     ·split at h
      ·exact ⟨_, h.2.2, h.1, h.2.1, rfl⟩
      ·exact h.elim
     ·exact h.elim
    ·split at h
     ·split at h
      ·exact ⟨_, h.2.2, h.1, h.2.1, rfl⟩
      ·exact h.elim
     ·exact h.elim
    ·exact ld t x h
   ·rename_i htk;simp only [if_neg htk];exact ld t x h
  ·exact ld t x h
 | fieldAddr s x f =>
  simp only [aV, eB] at *;split at h
  ·exact ⟨_, h.2, h.1, rfl⟩
  ·exact h.elim
 | field s x f =>
  simp only [aV, iT] at *;split at h
  ·split at h
   ·exact ⟨_, h, rfl⟩
   ·exact h.elim
  ·exact h.elim
 | indexAddr t x i =>
  simp only [aV, dZ] at *;split at h
  ·split at h
   ·split at h
    ·exact ⟨_, h.2.2.2, h.1, h.2.1, h.2.2.1, rfl⟩
    ·exact h.elim
   ·split at h
    ·exact ⟨_, h.2.2, h.1, h.2.1, rfl⟩
    ·exact h.elim
  ·exact h.elim
 | index t x i =>
  simp only [aV, jA] at *;split at h
  ·exact ⟨_, h.2.2, h.1, h.2.1, rfl⟩
  ·split at h
   ·split at h
    ·split at h
     ·exact ⟨_, h.2, h.1, rfl⟩
     ·exact h.elim
    ·exact h.elim
   ·exact h.elim
  ·exact h.elim
 | slice t x lo hi mx =>
  simp only [aV, iQ] at *;split at h
  ·obtain ⟨h1, h2, h3⟩ := h;split at h3
   ·exact ⟨_, h3.2, h1, h2, h3.1, rfl⟩
   ·exact h3.elim
  ·split at h
   ·split at h
    ·split at h
     ·exact ⟨_, h.2.2, h.1, h.2.1, rfl⟩
     ·exact h.elim
    ·split at h
     ·exact ⟨_, h.2.2, h.1, h.2.1, rfl⟩
     ·exact h.elim
   ·exact h.elim
  ·exact h.elim
 | pick a x y =>
  simp only [aV, lF] at *;split at h
  ·rename_i t ht;cases t with
   | true => exact ⟨_, (h.1 rfl).2, fun _ => ⟨(h.1 rfl).1, rfl⟩, fun e => (by cases e)⟩
   | false => exact ⟨_, (h.2 rfl).2, fun e => (by cases e), fun _ => ⟨(h.2 rfl).1, rfl⟩⟩
  ·exact h.elim
 | extract x i =>
  simp only [aV, fU] at *;split at h
  ·split at h
   ·split at h
    ·obtain ⟨h1, h2⟩ := h;split at h2
     ·rename_i ht; exact ⟨_, h2.2.2, h1, by rw [if_pos ht]; exact ⟨h2.1, h2.2.1, rfl⟩⟩
     ·rename_i ht; exact ⟨_, h2, h1, by rw [if_neg ht]⟩
    ·exact h.elim
   ·exact h.elim
  ·exact h.elim
 | makeFunc f first caps => exact ⟨_, h.2, h.1, rfl⟩
 | nilCheck x => exact ⟨_, h.2, h.1, rfl⟩
 | convert s d x =>
  simp only [aV, fQ] at *;split at h
  ·obtain ⟨a, b, h1, h2, h3, h4⟩ := h; exact ⟨_, h4, a, b, h1, h2, h3, rfl⟩
  ·exact ⟨_, h.2.2, h.1, h.2.1, rfl⟩
  ·exact h.elim
 | alloc e =>
  simp only [aV, gY] at *;split at h
  ·split at h
   ·rename_i he; exact ⟨_, h, by rw [if_pos he]⟩
   ·rename_i he; exact ⟨_, h, by rw [if_neg he]⟩
  ·exact h.elim
 | box e x =>
  simp only [aV, oH] at *;split at h
  ·obtain ⟨h1, h2⟩ := h;split at h2
   ·rename_i hi; exact ⟨_, h2, h1, by rw [if_pos hi]⟩
   ·rename_i hi;split at h2
    ·rename_i he; exact ⟨_, h2, h1, by rw [if_neg hi, if_pos he]⟩
    ·rename_i he; exact ⟨_, h2, h1, by rw [if_neg hi, if_neg he]⟩
  ·exact h.elim
 | store t a v =>
  simp only [aV, kE] at *;obtain ⟨h1, h2, h3, h4⟩ := h;split at h4
  ·split at h4
   ·exact ⟨_, h4.2, h1, h2, h3, h4.1, rfl⟩
   ·exact h4.elim
  ·split at h4
   ·exact ⟨_, h4.2, h1, h2, h3, h4.1, rfl⟩
   ·exact h4.elim
  ·exact h4.elim
 | build t parts =>
  simp only [aV, iL] at *;split at h
  ·split at h
   ·exact ⟨_, h, rfl⟩
   ·exact h.elim
  ·exact h.elim
 | buildSlice t len parts =>
  simp only [aV, dO] at *;split at h
  ·exact ⟨_, h.2.2, h.1, h.2.1, rfl⟩
  ·exact h.elim
 | call call =>
  obtain ⟨callee, args, ts⟩ := call;cases callee with
  | builtin b =>
   simp only [aV, eT, gJ] at *;split at h
   ·simp only [qB] at *;split at h
    ·exact ⟨_, h.2, h.1, rfl⟩
    ·exact ⟨_, h.2, h.1, rfl⟩
    ·exact h.elim
   ·simp only [gQ] at *;split at h
    ·obtain ⟨h1, h2, h3, h4, h5⟩ := h;split at h5
     ·exact ⟨_, h5.2, h1, h2, h3, h4, h5.1, rfl⟩
     ·exact ⟨_, h5, h1, h2, h3, h4, rfl⟩
     ·exact h5.elim
    ·exact h.elim
   ·simp only [jK] at *;split at h
    ·exact ⟨_, h.2, h.1, rfl⟩
    ·exact h.elim
   ·simp only [jK] at *;split at h
    ·exact ⟨_, h.2, h.1, rfl⟩
    ·exact h.elim
   ·exact h.elim
  | _ => simp [dP] at hc
 | range t x => simp [dP] at hc
 | next x s => simp [dP] at hc
 | entry x => simp [dP] at hc
 | _ => exact h.elim
theorem yY {c : Cfg} {dst : Option Tmp} {op : Op} {st : St} {K K' : St → Prop} (hk : ∀ s, K s → K' s) (h : aV P c dst op st K) : aV P c dst op st K' := by
 have mv : ∀ x, dG c dst x st K → dG c dst x st K' := by
  intro x h;unfold dG at *;split at h
  ·split at h
   ·exact hk _ (h)
   ·split at h
    ·rename_i ht; exact (by rw [if_pos ht]; exact ⟨h.1, h.2.1, hk _ (h.2.2)⟩)
    ·rename_i ht; exact (by rw [if_neg ht]; exact ⟨h.1, hk _ (h.2)⟩)
  ·exact h.elim
  ·exact hk _ (h)
 have ld : ∀ t x, cR P dst t x st K → cR P dst t x st K' := by
  intro t x h;unfold cR at *;split at h
  ·split at h
   ·exact hk _ (h)
   ·exact h.elim
  ·exact h.elim
 cases op with
 | move x => exact mv x h
 | assign x => exact mv x h
 | binOp b t x y yt =>
  simp only [aV] at h ⊢;split at h
  ·rename_i hy; rw [if_pos hy]; exact xS hk h
  ·rename_i hy; rw [if_neg hy]; exact lQ (fun e he => hk _ he) h
 | unOp u t x =>
  simp only [aV] at h ⊢;exact nU (fun e he => hk _ he) h
 | load t x =>
  simp only [aV, dM] at *;split at h
  ·split at h
   ·rename_i htk;simp only [if_pos htk];split at h
    ·split at h
     ·split at h
      ·exact ⟨h.1, h.2.1, hk _ (h.2.2)⟩
      ·exact h.elim
     ·exact h.elim
    ·split at h
     ·split at h
      ·exact ⟨h.1, h.2.1, hk _ (h.2.2)⟩
      ·exact h.elim
     ·exact h.elim
    ·exact ld t x h
   ·rename_i htk;simp only [if_neg htk];exact ld t x h
  ·exact ld t x h
 | fieldAddr s x f =>
  simp only [aV, eB] at *;split at h
  ·exact ⟨h.1, hk _ (h.2)⟩
  ·exact h.elim
 | field s x f =>
  simp only [aV, iT] at *;split at h
  ·split at h
   ·exact hk _ (h)
   ·exact h.elim
  ·exact h.elim
 | indexAddr t x i =>
  simp only [aV, dZ] at *;split at h
  ·split at h
   ·split at h
    ·exact ⟨h.1, h.2.1, h.2.2.1, hk _ (h.2.2.2)⟩
    ·exact h.elim
   ·split at h
    ·exact ⟨h.1, h.2.1, hk _ (h.2.2)⟩
    ·exact h.elim
  ·exact h.elim
 | index t x i =>
  simp only [aV, jA] at *;split at h
  ·exact ⟨h.1, h.2.1, hk _ (h.2.2)⟩
  ·split at h
   ·split at h
    ·split at h
     ·exact ⟨h.1, hk _ h.2⟩
     ·exact h.elim
    ·exact h.elim
   ·exact h.elim
  ·exact h.elim
 | slice t x lo hi mx =>
  simp only [aV, iQ] at *;split at h
  ·obtain ⟨h1, h2, h3⟩ := h;split at h3
   ·exact ⟨h1, h2, h3.1, hk _ (h3.2)⟩
   ·exact h3.elim
  ·split at h
   ·split at h
    ·split at h
     ·exact ⟨h.1, h.2.1, hk _ (h.2.2)⟩
     ·exact h.elim
    ·split at h
     ·exact ⟨h.1, h.2.1, hk _ (h.2.2)⟩
     ·exact h.elim
   ·exact h.elim
  ·exact h.elim
 | pick a x y =>
  simp only [aV, lF] at *;split at h
  ·rename_i t ht;exact ⟨fun ht => ⟨(h.1 ht).1, hk _ (h.1 ht).2⟩, fun ht => ⟨(h.2 ht).1, hk _ (h.2 ht).2⟩⟩
  ·exact h.elim
 | extract x i =>
  simp only [aV, fU] at *;split at h
  ·split at h
   ·split at h
    ·obtain ⟨h1, h2⟩ := h;split at h2
     ·rename_i ht; exact ⟨h1, (by rw [if_pos ht]; exact ⟨h2.1, h2.2.1, hk _ (h2.2.2)⟩)⟩
     ·rename_i ht; exact ⟨h1, (by rw [if_neg ht]; exact hk _ (h2))⟩
    ·exact h.elim
   ·exact h.elim
  ·exact h.elim
 | makeFunc f first caps => exact ⟨h.1, hk _ (h.2)⟩
 | nilCheck x => exact ⟨h.1, hk _ (h.2)⟩
 | convert s d x =>
  simp only [aV, fQ] at *;split at h
  ·obtain ⟨a, b, h1, h2, h3, h4⟩ := h; exact ⟨a, b, h1, h2, h3, hk _ (h4)⟩
  ·exact ⟨h.1, h.2.1, hk _ (h.2.2)⟩
  ·exact h.elim
 | alloc e =>
  simp only [aV, gY] at *;split at h
  ·split at h
   ·rename_i he; exact (by rw [if_pos he]; exact hk _ (h))
   ·rename_i he; exact (by rw [if_neg he]; exact hk _ (h))
  ·exact h.elim
 | box e x =>
  simp only [aV, oH] at *;split at h
  ·obtain ⟨h1, h2⟩ := h;split at h2
   ·rename_i hi; exact ⟨h1, (by rw [if_pos hi]; exact hk _ (h2))⟩
   ·rename_i hi;split at h2
    ·rename_i he; exact ⟨h1, (by rw [if_neg hi, if_pos he]; exact hk _ (h2))⟩
    ·rename_i he; exact ⟨h1, (by rw [if_neg hi, if_neg he]; exact hk _ (h2))⟩
  ·exact h.elim
 | store t a v =>
  simp only [aV, kE] at *;obtain ⟨h1, h2, h3, h4⟩ := h;split at h4
  ·split at h4
   ·exact ⟨h1, h2, h3, h4.1, hk _ (h4.2)⟩
   ·exact h4.elim
  ·split at h4
   ·exact ⟨h1, h2, h3, h4.1, hk _ (h4.2)⟩
   ·exact h4.elim
  ·exact h4.elim
 | build t parts =>
  simp only [aV, iL] at *;split at h
  ·split at h
   ·exact hk _ (h)
   ·exact h.elim
  ·exact h.elim
 | buildSlice t len parts =>
  simp only [aV, dO] at *;split at h
  ·exact ⟨h.1, h.2.1, hk _ (h.2.2)⟩
  ·exact h.elim
 | call call =>
  obtain ⟨callee, args, ts⟩ := call;cases callee with
  | builtin b =>
   simp only [aV, eT, gJ] at *;split at h
   ·simp only [qB] at *;split at h
    ·exact ⟨h.1, hk _ (h.2)⟩
    ·exact ⟨h.1, hk _ (h.2)⟩
    ·exact h.elim
   ·simp only [gQ] at *;split at h
    ·obtain ⟨h1, h2, h3, h4, h5⟩ := h;split at h5
     ·exact ⟨h1, h2, h3, h4, h5.1, hk _ (h5.2)⟩
     ·exact ⟨h1, h2, h3, h4, hk _ (h5)⟩
     ·exact h5.elim
    ·exact h.elim
   ·simp only [jK] at *;split at h
    ·exact ⟨h.1, hk _ (h.2)⟩
    ·exact h.elim
   ·simp only [jK] at *;split at h
    ·exact ⟨h.1, hk _ (h.2)⟩
    ·exact h.elim
   ·exact h.elim
  | value f => exact Dy hk h
  | invoke r m =>
   simp only [aV, eT, iJ] at *;split at h
   ·obtain ⟨h1, h2, fn, h3, h4⟩ := h;exact ⟨h1, h2, fn, h3, h4.mono fun r σ' hK => hk _ hK⟩
   ·exact h.elim
 | range t x => exact tU hk h
 | next x s =>
  cases s with
  | false => exact vY hk h
  | true => exact h.elim
 | entry x => exact tG hk h
 | _ => exact h.elim
theorem Pe {dst : Option Tmp} {op : Op} {st : St} {K : St → Prop} (h : Eg P dst op st K) : ∃ s, K s ∧ Eg P dst op st (· = s) := by
 unfold Eg at *;split at h
 ·split at h
  ·simp only [mZ] at *;obtain ⟨h0, h⟩ := h;split at h <;> first | exact ⟨_, h, h0, rfl⟩ | exact h.elim
  ·exact h.elim
 ·split at h
  ·simp only [fS] at *;split at h
   ·obtain ⟨h0, h1, h2, h3⟩ := h;split at h3 <;> first | exact ⟨_, h3.2, h0, h1, h2, h3.1, rfl⟩ | (obtain ⟨ds, es, h4, h5⟩ := h3; exact ⟨_, h5, h0, h1, h2, ds, es, h4, rfl⟩) | exact h3.elim
   ·exact h.elim
  ·exact h.elim
 ·split at h
  ·simp only [iG] at *;obtain ⟨h0, h⟩ := h;split at h
   ·split at h
    ·exact ⟨_, h.2, h0, h.1, rfl⟩
    ·exact h.elim
   ·exact h.elim
  ·exact h.elim
 ·simp only [dN] at *;split at h
  ·exact ⟨_, h.2, h.1, rfl⟩
  ·exact h.elim
 ·simp only [gX] at *;split at h
  ·split at h
   ·exact ⟨_, h.2, h.1, rfl⟩
   ·exact h.elim
  ·exact h.elim
 ·exact h.elim
theorem Me {dst : Option Tmp} {op : Op} {st : St} {K K' : St → Prop} (hk : ∀ s, K s → K' s) (h : Eg P dst op st K) : Eg P dst op st K' := by
 unfold Eg at *;split at h
 ·split at h
  ·simp only [mZ] at *;obtain ⟨h0, h⟩ := h;split at h <;> first | exact ⟨h0, hk _ h⟩ | exact h.elim
  ·exact h.elim
 ·split at h
  ·simp only [fS] at *;split at h
   ·obtain ⟨h0, h1, h2, h3⟩ := h;split at h3 <;> first | exact ⟨h0, h1, h2, h3.1, hk _ h3.2⟩ | (obtain ⟨ds, es, h4, h5⟩ := h3; exact ⟨h0, h1, h2, ds, es, h4, hk _ h5⟩) | exact h3.elim
   ·exact h.elim
  ·exact h.elim
 ·split at h
  ·simp only [iG] at *;obtain ⟨h0, h⟩ := h;split at h
   ·split at h
    ·exact ⟨h0, h.1, hk _ h.2⟩
    ·exact h.elim
   ·exact h.elim
  ·exact h.elim
 ·simp only [dN] at *;split at h
  ·exact ⟨h.1, hk _ h.2⟩
  ·exact h.elim
 ·simp only [gX] at *;split at h
  ·split at h
   ·exact ⟨h.1, hk _ h.2⟩
   ·exact h.elim
  ·exact h.elim
 ·exact h.elim
theorem Ab {c : Cfg} {dst : Option Tmp} {op : Op} {st : St} {K : St → Prop} (hc : dP op = false) (h : cG P c dst op st K) : ∃ s, K s ∧ cG P c dst op st (· = s) := by
 unfold cG at *;by_cases hy : nL c dst op = true
 ·simp only [hy, if_true] at *;obtain ⟨sets, ob, h1, hK⟩ := h;exact ⟨_, hK, sets, ob, h1, rfl⟩
 simp only [hy] at *;by_cases hu : tT c dst op = true
 ·simp only [hu, if_true] at *; exact Pe h
 ·simp only [hu] at *; exact Lc hc h
theorem lM {c : Cfg} {dst : Option Tmp} {op : Op} {st : St} {K K' : St → Prop} (hk : ∀ s, K s → K' s) (h : cG P c dst op st K) : cG P c dst op st K' := by
 unfold cG at *;by_cases hy : nL c dst op = true
 ·simp only [hy, if_true] at *;obtain ⟨sets, ob, h1, hK⟩ := h;exact ⟨sets, ob, h1, hk _ hK⟩
 simp only [hy] at *;by_cases hu : tT c dst op = true
 ·simp only [hu, if_true] at *; exact Me hk h
 ·simp only [hu] at *; exact yY hk h
def qM (c : Cfg) (dst : Option Tmp) : Op → Bool
 | .load t a => !dst.any c.take.contains && !nL c dst (.load t a) && !tT c dst (.load t a)
 | .lookup _ _ _ _ => true
 | .call ⟨.builtin .len, args, ts⟩ => nL c dst (.call ⟨.builtin .len, args, ts⟩)
 | _ => false
def vV (c : Cfg) (dst : Option Tmp) : Op → Bool
 | .makeMap _ _ => true
 | .alloc e => dst.any c.esc.contains && !nL c dst (.alloc e) && !tT c dst (.alloc e)
 | .box e x => dst.any c.esc.contains && !dst.any c.imm.contains && !nL c dst (.box e x) && !tT c dst (.box e x)
 | _ => false
structure AgreeT (rs : List Nat) (f : Fl) (st st' : St) : Prop where
 n : st'.n = st.n
 env : ∀ t, t ∈ rs → st'.env t = st.env t
 loc : f.rL = true → st'.loc = st.loc
 obj : f.rO = true → ∃ J, st'.obj = st.obj ++ J
theorem tX {α : Type} {l J : List α} {n : Nat} {x : α} (h : l[n]? = some x) : (l ++ J)[n]? = some x := by
 rw [List.getElem?_append_left (List.getElem?_eq_some_iff.1 h).1]; exact h
theorem Ez {args : List Operand} {ts : List TypeId} {f g : Operand → TypeId → eN} {sets : List (Nat × Slot)} {ob : Option (List (List D))} (h : ∀ x t, f x t sets ob → g x t sets ob) (hy : Ja args ts f sets ob) : Ja args ts g sets ob := by
 match args, ts with
 | [x], [t] => exact h x t hy
 | [], _ => exact hy.elim
 | _ :: _ :: _, _ => exact hy.elim
 | [_], [] => exact hy.elim
 | [_], _ :: _ :: _ => exact hy.elim
theorem Ml {c : Cfg} {dst : Option Tmp} {op : Op} {st st' : St} {K : St → Prop} {rs : List Nat} (ht : qM c dst op = true) (hrs : ∀ t, t ∈ dA op → t ∈ rs) (ha : AgreeT rs (fM c dst st op) st st') (h : cG P c dst op st K) : cG P c dst op st' (Tr (fD c dst op) (fM c dst st op) st st' K) := by
 have rdS : ∀ x, x ∈ op.operands.toList → st'.rdS x = st.rdS x := fun x hx => by
  cases x with
  | tmp t => exact ha.env t (hrs t (bC hx t rfl))
  | _ => rfl
 have goY : nL c dst op = true → (∀ rd obj J sets ob, yR P (tK c dst op) dst op rd obj sets ob → yR P (tK c dst op) dst op rd (obj ++ J) sets ob) → cG P c dst op st' (Tr (fD c dst op) (fM c dst st op) st st' K) := by
  intro hy hm;have hw : fD c dst op = dst.toList ++ dA op := by simp [fD, hy]
  unfold cG fM at *;simp only [hy, if_true] at *;obtain ⟨sets, ob, h1, hK⟩ := h;obtain ⟨s1, s2⟩ := Ah h1;refine ⟨sets, ob, ?_, ⟨sets, none, ob⟩, ⟨fun p hp => by rw [hw]; exact s1 p hp, by simp, s2⟩, hK, rfl⟩;rw [xJ rdS];by_cases hr : (Gk (tK c dst op) op).rO = true
  ·simp only [hr, if_true] at h1 ⊢;obtain ⟨J, hJ⟩ := ha.obj hr;rw [hJ];exact hm _ _ _ _ _ h1
  ·simp only [hr] at h1 ⊢;exact h1
 cases op with
 | load t a =>
  simp only [qM, Bool.and_eq_true, Bool.not_eq_true'] at ht;obtain ⟨⟨h1, h2⟩, h3⟩ := ht;have ld : ∀ K, cR P dst t a st K → st'.cellsAt (st'.rdS a) = st.cellsAt (st.rdS a) → cR P dst t a st' (Tr (fD c dst (.load t a)) (fM c dst st (.load t a)) st st' K) := by
   intro K h he;unfold cR at *;rw [he];split at h
   ·split at h
    ·exact zH cU h
    ·exact h.elim
   ·exact h.elim
  have tk : ∀ st K, dM P c dst t a st K = cR P dst t a st K := by
   intro st K;unfold dM;split
   ·rename_i d _;have : c.take.contains d = false := by simpa using h1
    simp only [this];rfl
   ·rfl
  have hfl : fM c dst st (.load t a) = dC (dst.any c.take.contains) (st.rdS a) := by
   unfold fM; simp only [h2, h3]; rfl
  have key : cG P c dst (.load t a) st K = cR P dst t a st K := by
   unfold cG; simp only [h2, h3, aV, tk]; rfl
  have key' : ∀ K, cG P c dst (.load t a) st' K = cR P dst t a st' K := fun K => by
   unfold cG; simp only [h2, h3, aV, tk]; rfl
  rw [key] at h;rw [key'];refine ld K h ?_;have he : st'.rdS a = st.rdS a := rdS a (by simp [Op.operands]);rw [he];unfold cR at h;rw [hfl] at ha;cases hs : st.rdS a with
  | lref n off => rw [hs] at ha; simp only [St.cellsAt]; rw [ha.loc rfl]
  | d x =>
   cases x with
   | ref n off =>
    rw [hs] at ha h;obtain ⟨J, hJ⟩ := ha.obj rfl;simp only [St.cellsAt] at h ⊢;rw [hJ];cases hg : st.obj[n]? with
    | none => rw [hg] at h; simp at h
    | some cs => rw [tX hg]
   | _ => rfl
 | lookup t x k ok =>
  refine goY rfl fun rd obj J sets ob hy => ?_;simp only [yR, iY] at hy ⊢;split at hy
  ·obtain ⟨m, i, clock, kvs, dv, b, ⟨⟨cs, g1, g2⟩, g3⟩, g4⟩ := hy;exact ⟨m, i, clock, kvs, dv, b, ⟨⟨cs, tX g1, g2⟩, g3⟩, g4⟩
  ·exact hy.elim
 | call call =>
  obtain ⟨callee, args, ts⟩ := call;cases callee with
  | builtin b =>
   cases b with
   | len =>
    refine goY ht fun rd obj J sets ob hy => ?_;simp only [yR] at hy ⊢;refine Ez (fun x t hy => ?_) hy;split at hy
    ·rename_i h; rw [if_pos h];unfold pJ at hy ⊢;split at hy
     ·obtain ⟨m, i, clock, kvs, ⟨cs, g1, g2⟩, g4⟩ := hy;exact ⟨m, i, clock, kvs, ⟨cs, tX g1, g2⟩, g4⟩
     ·exact hy.elim
    ·rename_i h; rw [if_neg h]; exact hy
   | _ => simp [qM] at ht
  | _ => simp [qM] at ht
 | _ => simp [qM] at ht
theorem Nl {c : Cfg} {dst : Option Tmp} {op : Op} {st s : St} (ha : vV c dst op = true) (h : cG P c dst op st (· = s)) : ∃ J, s.obj = st.obj ++ J := by
 cases op with
 | makeMap t r =>
  unfold cG at h;simp only [nL, Py, Bool.true_or, if_true] at h;obtain ⟨sets, ob, h1, rfl⟩ := h;have hf : (Gk (tK c dst (.makeMap t r)) (.makeMap t r)).rO = true := rfl;simp only [hf, if_true, yR, gT] at h1;split at h1
  ·obtain ⟨_, rfl, rfl⟩ := h1;exact ⟨[[]], rfl⟩
  ·exact h1.elim
 | alloc e =>
  simp only [vV, Bool.and_eq_true, Bool.not_eq_true'] at ha;obtain ⟨⟨h1, h2⟩, h3⟩ := ha;unfold cG at h;simp only [h2, h3, aV, gY] at h;simp only [Bool.false_eq_true, if_false] at h;split at h
  ·rename_i cs d _;have : c.esc.contains d = true := by simpa using h1
   simp only [this, if_true] at h;subst h;exact ⟨[cs], rfl⟩
  ·exact h.elim
 | box e x =>
  simp only [vV, Bool.and_eq_true, Bool.not_eq_true'] at ha;obtain ⟨⟨⟨h1, h0⟩, h2⟩, h3⟩ := ha;unfold cG at h;simp only [h2, h3, aV, oH] at h;simp only [Bool.false_eq_true, if_false] at h;split at h
  ·rename_i d;have e1 : c.esc.contains d = true := by simpa using h1
   have e2 : c.imm.contains d = false := by simpa using h0
   simp only [e1, e2, if_true] at h;simp only [Bool.false_eq_true, if_false] at h;obtain ⟨_, rfl⟩ := h;exact ⟨_, rfl⟩
  ·exact h.elim
 | _ => simp [vV] at ha
inductive DK where
 | op (f : Fl)
 | pure
 | det
 | pureT
 | detT
 | read
 | pureC
 | readT
 | detA
 | nd
def DK.isNd : DK → Bool
 | .nd => true
 | _ => false
def fK : DK → Fl
 | .op f => f
 | .pure => ⟨false, false, false, false⟩
 | .pureT => ⟨false, false, false, false⟩
 | .detT => ⟨false, false, true, true⟩
 | .det => ⟨false, false, true, true⟩
 | .read => ⟨false, false, true, false⟩
 | .pureC => ⟨false, false, false, false⟩
 | .readT => ⟨false, false, true, false⟩
 | .detA => ⟨false, false, true, true⟩
 | .nd => ⟨false, false, true, true⟩
def nF (c : Cfg) (dst : Option Tmp) (op : Op) : DK → Bool
 | .op f => f.rO && !f.wO && qM c dst op
 | .readT => true
 | _ => false
def De (c : Cfg) (dst : Option Tmp) (op : Op) : DK → Bool
 | .op _ => vV c dst op
 | .detA => true
 | _ => false
theorem Ak {c : Cfg} {dst : Option Tmp} {op : Op} {k : DK} (h : nF c dst op k = true) : (fK k).rO = true ∧ (fK k).wO = false := by
 cases k <;> simp_all [nF, fK]
def iE (c : Cfg) (dst : Option Tmp) (op : Op) : DK → List Nat
 | .op _ => fD c dst op
 | .pureT | .detT => dst.toList ++ dA op
 | _ => dst.toList
def Bm (P : Program) (dst : Option Tmp) (op : Op) (st : St) (Q : D → List (List D) → Prop) : Prop := match op with
 | .call { callee := .value (.func f), args, .. } => dV args.toList st ∧ Ct P f (bN args.toList st) st.obj Q ∧ ∃ r σ0, Q r σ0
 | _ => False
def lL (P : Program) (c : Cfg) (dst : Option Tmp) (op : Op) (k : DK) (st : St) (K : St → Prop) : Prop :=
 match k with
 | .op f => dP op = false ∧ fM c dst st op = f ∧ cG P c dst op st K
 | .pure => match op with
  | .call { callee := .value (.func f), args, .. } => dV args.toList st ∧ ∃ r, (∀ σ, Ct P f (bN args.toList st) σ fun r' σ' => r' = r ∧ σ' = σ) ∧ K (st.put dst (.d r))
  | _ => False
 | .read => match op with
  | .call { callee := .value (.func f), args, .. } => dV args.toList st ∧ ∃ r, (Ct P f (bN args.toList st) st.obj fun r' σ' => r' = r ∧ σ' = st.obj) ∧ K (st.put dst (.d r))
  | _ => False
 | .pureC => match op with
  | .call { callee := .value f, args, .. } => match st.rd f with
   | .clo (.func fid) first caps => (∀ d ∈ first ++ caps, d.plain = true) ∧ dV args.toList st ∧ ∃ r, (∀ σ, Ct P fid (first.map D.strip ++ bN args.toList st ++ caps.map D.strip) σ fun r' σ' => r' = r ∧ σ' = σ) ∧ K (st.put dst (.d r))
   | _ => False
  | _ => False
 | .readT => match op with
  | .call { callee := .value (.func f), args, .. } => dV args.toList st ∧ ∃ r, (∀ J, Ct P f (bN args.toList st) (st.obj ++ J) fun r' σ' => r' = r ∧ σ' = st.obj ++ J) ∧ K (st.put dst (.d r))
  | _ => False
 | .nd => ∃ Q, Bm P dst op st Q ∧ ∀ r σ0, Q r σ0 → K (({ st with obj := σ0 } : St).put dst (.d r))
 | .detA => match op with
  | .call { callee := .value (.func f), args, .. } => dV args.toList st ∧ ∃ r J, (Ct P f (bN args.toList st) st.obj fun r' σ' => r' = r ∧ σ' = st.obj ++ J) ∧ K (({ st with obj := st.obj ++ J } : St).put dst (.d r))
  | _ => False
 | .det => match op with
  | .call { callee := .value (.func f), args, .. } => dV args.toList st ∧ ∃ r σ0, (Ct P f (bN args.toList st) st.obj fun r' σ' => r' = r ∧ σ' = σ0) ∧ K (({ st with obj := σ0 } : St).put dst (.d r))
  | _ => False
 | .pureT => match dst, op with
  | some d, .call { callee := .value (.func f), args, .. } => (args.toList.filterMap aO).Nodup ∧ (∀ x ∈ args.toList, lA (st.rdS x) = true ∧ (st.rd x).plain = true) ∧
   ∃ r, (∀ σ, Ct P f (args.toList.map (jG st)) σ fun r' σ' => r' = r ∧ σ' = σ) ∧ K (({ st with env := bS (args.toList.map aO) st.env } : St).put (some d) (.d r))
  | _, _ => False
 | .detT => match dst, op with
  | some d, .call { callee := .value (.func f), args, .. } => (args.toList.filterMap aO).Nodup ∧ (∀ x ∈ args.toList, lA (st.rdS x) = true ∧ (st.rd x).plain = true) ∧
   ∃ r σ0, (Ct P f (args.toList.map (jG st)) st.obj fun r' σ' => r' = r ∧ σ' = σ0) ∧ K (({ st with env := bS (args.toList.map aO) st.env, obj := σ0 } : St).put (some d) (.d r))
  | _, _ => False
def kA (c : Cfg) (all : List Oper) (o : Oper) (k : DK) : List Nat := iE c o.dst o.op k ++ dA o.op ++ match o.guard with
 | none => []
 | some (j, _) => (aT all j).toList
def bL (ws : List Nat) (f : Fl) (s : St) : Delta := ⟨ws.map fun t => (t, s.env t), if f.wL then some s.loc else none, if f.wO then some s.obj else none⟩
theorem iH (ws : List Nat) (f : Fl) (s st : St) (t : Nat) : (st.upd (bL ws f s)).env t = if t ∈ ws then s.env t else st.env t := by
 simp only [St.upd, bL];exact lP ws s.env st.env t
def qN (P : Program) (all : List Oper) (o : Oper) (st : St) (K : St → Prop) : Prop :=
 ∀ (w : World) (g : Gh) (tmps : Array Value), Ok w g st (aN tmps) → tmps.size = st.n →
  (Region.wanted o (yielded all.toArray tmps) = true → o.wp P ⟨tmps, []⟩ w (fun a w' => a.defers = [] ∧ ∃ st' g', K st' ∧ Fr w g w' g' ∧ Ok w' g' st' (aN a.tmps) ∧ a.tmps.size = st'.n) (fun _ _ _ => False)) ∧
  (Region.wanted o (yielded all.toArray tmps) = false → ∃ st' g', K st' ∧ Fr w g w g' ∧ Ok w g' st' (aN ((⟨tmps, []⟩ : Act).put o.dst undef).tmps) ∧ tmps.size = st'.n)
structure AgreeD (rs : List Nat) (f : Fl) (tol : Bool) (st st' : St) : Prop where
 n : st'.n = st.n
 env : ∀ t, t ∈ rs → st'.env t = st.env t
 loc : f.rL = true → st'.loc = st.loc
 obj : f.rO = true → (tol = false → st'.obj = st.obj) ∧ ∃ J, st'.obj = st.obj ++ J
theorem Agree.toD {rs : List Nat} {f : Fl} {tol : Bool} {st st' : St} (h : Agree rs f st st') : AgreeD rs f tol st st' := ⟨h.n, h.env, h.loc, fun e => ⟨fun _ => h.obj e, [], by rw [h.obj e, List.append_nil]⟩⟩
theorem AgreeD.toA {rs : List Nat} {f : Fl} {st st' : St} (h : AgreeD rs f false st st') : Agree rs f st st' := ⟨h.n, h.env, h.loc, fun e => (h.obj e).1 rfl⟩
theorem AgreeD.toT {rs : List Nat} {f : Fl} {tol : Bool} {st st' : St} (h : AgreeD rs f tol st st') : AgreeT rs f st st' := ⟨h.n, h.env, h.loc, fun e => (h.obj e).2⟩
structure Step (P : Program) (c : Cfg) (all : List Oper) (o : Oper) (k : DK) (st s : St) : Prop where
 self : s = st.upd (bL (iE c o.dst o.op k) (fK k) s)
 app : De c o.dst o.op k = true → ∃ J, s.obj = st.obj ++ J
 go : k.isNd = false → ∀ st', AgreeD (kA c all o k) (fK k) (nF c o.dst o.op k) st st' → qN P all o st' (· = st'.upd (bL (iE c o.dst o.op k) (fK k) s))
theorem Ic (c : Cfg) (dst : Option Tmp) (st : St) (op : Op) : ((cC c dst st op).wL = true → (cC c dst st op).rL = true) ∧ ((cC c dst st op).wO = true → (cC c dst st op).rO = true) := by
 have ad : ∀ w s, ((dC w s).wL = true → (dC w s).rL = true) ∧ ((dC w s).wO = true → (dC w s).rO = true) := by
  intro w s;cases s with
  | lref n o => simp [dC]
  | d d => cases d <;> simp [dC]
 cases op <;> simp only [cC] <;> try exact ⟨id, id⟩
 ·split <;> simp
 ·split
  ·simp
  ·split <;> simp
 ·exact ad _ _
 ·exact ad _ _
 ·rename_i call;obtain ⟨callee, args, ts⟩ := call;cases callee <;> exact ⟨id, id⟩
theorem uF (c : Cfg) (dst : Option Tmp) (st : St) (op : Op) : ((fM c dst st op).wL = true → (fM c dst st op).rL = true) ∧ ((fM c dst st op).wO = true → (fM c dst st op).rO = true) := by
 unfold fM;split
 ·unfold Gk; split <;> first | (simp; done) | (split <;> simp)
 split
 ·unfold Nw; split <;> simp
 ·exact Ic c dst st op
theorem tH {ws : List Nat} {f : Fl} {st st' : St} {δ : Delta} (hδ : δ.ok ws f) (hw : (f.wL = true → f.rL = true) ∧ (f.wO = true → f.rO = true)) (ha : Agree ws f st st') : st'.upd δ = st'.upd (bL ws f (st.upd δ)) := by
 have key : ∀ t, bM δ.sets st'.env t = if t ∈ ws then bM δ.sets st.env t else st'.env t := by
  intro t;split
  ·rename_i ht;have : ∀ (l : List (Nat × Slot)) (e e' : Nat → Slot), e t = e' t → bM l e t = bM l e' t := by
    intro l;induction l with
    | nil => intro e e' h; exact h
    | cons p l ih =>
     obtain ⟨x, y⟩ := p;intro e e' h;exact ih _ _ (by split <;> first | rfl | exact h)
   exact this _ _ _ (ha.env t ht)
  ·rename_i ht;exact zS fun p hp e => ht (by rw [← e]; exact hδ.sets p hp)
 have h1 : (st'.upd δ).env = (st'.upd (bL ws f (st.upd δ))).env := by
  funext t;rw [iH];exact key t
 have h2 : (st'.upd δ).loc = (st'.upd (bL ws f (st.upd δ))).loc := by
  simp only [St.upd, bL];cases hl : f.wL with
  | true =>
   simp only [if_true, Option.getD_some];rw [ha.loc (hw.1 hl)]
  | false =>
   cases hd : δ.loc with
   | none => simp
   | some l => have := hδ.loc (by simp [hd]); rw [hl] at this; cases this
 have h3 : (st'.upd δ).obj = (st'.upd (bL ws f (st.upd δ))).obj := by
  simp only [St.upd, bL];cases hl : f.wO with
  | true =>
   simp only [if_true, Option.getD_some];rw [ha.obj (hw.2 hl)]
  | false =>
   cases hd : δ.obj with
   | none => simp
   | some l => have := hδ.obj (by simp [hd]); rw [hl] at this; cases this
 show (⟨_, _, _, _⟩ : St) = ⟨_, _, _, _⟩
 congr 1
theorem Dd {rs : List Nat} {f : Fl} {tol : Bool} {st st' : St} (h : AgreeD rs f tol st st') {x : Operand} (hx : ∀ t, aO x = some t → t ∈ rs) : st'.rd x = st.rd x :=
 dH (rs := rs) (f := ⟨false, false, false, false⟩) ⟨h.n, h.env, fun e => (by cases e), fun e => (by cases e)⟩ hx
theorem Gp {ws : List Nat} {f : Fl} {st st' : St} {δ : Delta} (hδ : δ.ok ws f) (hw : f.wL = true → f.rL = true) (hO : f.wO = false) (ha : AgreeT ws f st st') : st'.upd δ = st'.upd (bL ws f (st.upd δ)) := by
 have := tH (st' := { st' with obj := st.obj }) hδ ⟨hw, fun h => by rw [hO] at h; cases h⟩ ⟨ha.n, ha.env, ha.loc, fun _ => rfl⟩;have hn : δ.obj = none := by
  cases hd : δ.obj with
  | none => rfl
  | some l => have := hδ.obj (by simp [hd]); rw [hO] at this; cases this
 simp only [St.upd, bL, hn, hO, St.mk.injEq] at this ⊢;simpa using this
theorem lN (rs : List Nat) (f : Fl) (st : St) : Agree rs f st st := ⟨rfl, fun _ _ => rfl, fun _ => rfl, fun _ => rfl⟩
theorem Agree.sub {rs rs' : List Nat} {f : Fl} {st st' : St} (h : Agree rs f st st') (hs : ∀ t, t ∈ rs' → t ∈ rs) : Agree rs' f st st' := ⟨h.n, fun t ht => h.env t (hs t ht), h.loc, h.obj⟩
theorem qI {all : List Oper} {o : Oper} {st : St} {K : St → Prop} (hw : ∀ (w : World) (g : Gh) (tmps : Array Value), Ok w g st (aN tmps) → Region.wanted o (yielded all.toArray tmps) = true) (h : Does P o st K) : qN P all o st K := by
 intro w g tmps hok hn;refine ⟨fun _ => ?_, fun hf => by rw [hw w g tmps hok] at hf; cases hf⟩;exact Oper.wp_mono (fun a w' ⟨h1, st', g', h2, h3, h4, h5, _⟩ => ⟨h1, st', g', h2, h3, h4, h5⟩) (h w g tmps hok hn)
theorem lZ {f : FuncId} {args : Array Operand} {ts : Array TypeId} {d : Nat} {r : Slot} {e e' : Nat → Slot} (he : ∀ t, t ∈ dA (.call ⟨.value (.func f), args, ts⟩) → e' t = e t) (u : Nat) :
  bM (((some d).toList ++ dA (.call ⟨.value (.func f), args, ts⟩)).map fun t => (t, if t = d then r else bS (args.toList.map aO) e t)) e' u = if u = d then r else bS (args.toList.map aO) e' u := by
 rw [lP];by_cases hu : u = d
 ·subst hu; simp
 ·simp only [hu, if_false];by_cases hm : u ∈ dA (.call ⟨.value (.func f), args, ts⟩)
  ·rw [if_pos (by simp [hm])];simp only [bS, he u hm]
  ·rw [if_neg (by simp [hm, hu])];have hc : (args.toList.map aO).contains (some u) = false := by
    rw [Bool.eq_false_iff];intro hc;obtain ⟨x, hx, hx'⟩ := List.mem_map.1 (by simpa using hc : some u ∈ args.toList.map aO);exact hm (bC (by simp [Op.operands, Call.operands]; right; simpa using hx) u hx')
   simp only [bS, hc]; rfl
theorem Al {c : Cfg} {all : List Oper} {o : Oper} {k : DK} {st : St} {K : St → Prop} (hnd : k.isNd = false) (hfw : ((fK k).wL = true → (fK k).rL = true) ∧ ((fK k).wO = true → (fK k).rO = true)) (hd : aS o st) (h : match o.guard with
  | none => lL P c o.dst o.op k st K
  | some (j, want) => ∃ t b, aT all j = some t ∧ oG (st.env t) want = some b ∧ (b = want → lL P c o.dst o.op k st K) ∧ (b = !want → K (st.put o.dst .und))) : ∃ s, K s ∧ Step P c all o k st s := by
 -- the body of the step, taken
 have taken : lL P c o.dst o.op k st K → ∃ s, K s ∧ s = st.upd (bL (iE c o.dst o.op k) (fK k) s) ∧ (De c o.dst o.op k = true → ∃ J, s.obj = st.obj ++ J) ∧ ∀ st', AgreeD (kA c all o k) (fK k) (nF c o.dst o.op k) st st' → Does P o st' (· = st'.upd (bL (iE c o.dst o.op k) (fK k) s)) := by
  intro h;have hd' : ∀ st', st'.n = st.n → aS o st' := fun st' hn => by unfold aS at *; split <;> simp_all
  cases k with
  | nd => cases hnd
  | op f =>
   obtain ⟨h1, rfl, h3⟩ := h;obtain ⟨s, hK, hs⟩ := Ab h1 h3;have loc : ∀ st', Agree (kA c all o (.op (fM c o.dst st o.op))) (fM c o.dst st o.op) st st' → ∃ δ : Delta, δ.ok (fD c o.dst o.op) (fM c o.dst st o.op) ∧ s = st.upd δ ∧ cG P c o.dst o.op st' (· = st'.upd δ) := by
    intro st' ha;have hl := Fm (Pd h1) (rs := kA c all o (.op (fM c o.dst st o.op))) (fun t ht => by simp [kA, ht]) ha hs;obtain ⟨s', ⟨δ, d1, d2, rfl⟩, h5⟩ := Ab h1 hl;exact ⟨δ, d1, d2.symm, h5⟩
   obtain ⟨δ0, d1, d2, _⟩ := loc st (lN _ _ _);refine ⟨s, hK, ?_, fun hap => Nl hap hs, fun st' ha => ?_⟩
   ·have := tH d1 (uF c o.dst st o.op) (lN (fD c o.dst o.op) (fM c o.dst st o.op) st);rw [← d2] at this;exact this
   ·by_cases htl : nF c o.dst o.op (.op (fM c o.dst st o.op)) = true
    ·have hT := ha.toT;have hop : qM c o.dst o.op = true := by simp only [nF, Bool.and_eq_true] at htl; exact htl.2
     have hl := Ml hop (rs := kA c all o (.op (fM c o.dst st o.op))) (fun t ht => by simp [kA, ht]) hT hs;obtain ⟨s', ⟨δ, e1, e2, rfl⟩, e3⟩ := Ab h1 hl;have := Gp e1 (uF c o.dst st o.op).1 (Ak htl).2 ⟨hT.n, fun t ht => hT.env t (by simp [kA, iE, ht]), hT.loc, hT.obj⟩;rw [e2] at this;simp only [iE, fK];rw [← this];exact tJ ⟨hd' st' ha.n, e3⟩
    have ha : Agree (kA c all o (.op (fM c o.dst st o.op))) (fM c o.dst st o.op) st st' := by
     have e : nF c o.dst o.op (.op (fM c o.dst st o.op)) = false := by simpa using htl
     rw [e] at ha;exact ha.toA
    obtain ⟨δ, e1, e2, e3⟩ := loc st' ha;have := tH e1 (uF c o.dst st o.op) (ha.sub (rs' := fD c o.dst o.op) (fun t ht => by simp [kA, iE, ht]));rw [← e2] at this;simp only [iE, fK];rw [← this];exact tJ ⟨hd' st' ha.n, e3⟩
  | pure =>
   obtain ⟨dst, op, ty, pos, after, guard⟩ := o;simp only [lL] at h;split at h
   ·rename_i f args ts _;obtain ⟨h1, r, h2, h3⟩ := h;have ups : ∀ st' : St, st'.upd (bL dst.toList ⟨false, false, false, false⟩ (st.put dst (.d r))) = st'.put dst (.d r) := by
     intro st';cases dst with
     | none => rfl
     | some d =>
      refine St.mk.injEq .. |>.mpr ⟨rfl, ?_, rfl, rfl⟩
      funext u;show bM [(d, (st.put (some d) (.d r)).env d)] st'.env u = _
      simp [bM, St.put, St.set]
    refine ⟨_, h3, (ups st).symm, fun e => (by cases e), fun st' ha => ?_⟩;replace ha := ha.toA;simp only [iE, fK];rw [ups st'];have hargs : ∀ x ∈ args.toList, st'.rd x = st.rd x := fun x hx => dH ha fun t ht => by
     have := bC (op := .call ⟨.value (.func f), args, ts⟩) (x := x) (by simp [Op.operands, Call.operands]; right; simpa using hx) t ht;simp [kA, this]
    refine dT (.func f) args ts (hd' st' ha.n) rfl ?_;unfold dL;simp only [iW];refine ⟨by simp, fun x hx => by rw [hargs x hx]; exact h1 x hx, ?_⟩;have e1 : bN args.toList st' = bN args.toList st := List.map_congr_left fun x hx => dE (hargs x hx);rw [e1];simpa using (h2 st'.obj).mono fun r' σ' ⟨a, b⟩ => by subst a; subst b; rfl
   ·exact h.elim
  | pureC =>
   obtain ⟨dst, op, ty, pos, after, guard⟩ := o;simp only [lL] at h;split at h
   ·rename_i f args ts _;split at h
    ·rename_i fid first caps hf
     obtain ⟨h0, h1, r, h2, h3⟩ := h;have ups : ∀ st' : St, st'.upd (bL dst.toList ⟨false, false, false, false⟩ (st.put dst (.d r))) = st'.put dst (.d r) := by
      intro st';cases dst with
      | none => rfl
      | some d =>
       refine St.mk.injEq .. |>.mpr ⟨rfl, ?_, rfl, rfl⟩
       funext u;show bM [(d, (st.put (some d) (.d r)).env d)] st'.env u = _
       simp [bM, St.put, St.set]
     refine ⟨_, h3, (ups st).symm, fun e => (by cases e), fun st' ha => ?_⟩;replace ha := ha.toA;simp only [iE, fK];rw [ups st'];have hargs : ∀ x ∈ args.toList, st'.rd x = st.rd x := fun x hx => dH ha fun t ht => by
      have := bC (op := .call ⟨.value f, args, ts⟩) (x := x) (by simp [Op.operands, Call.operands]; right; simpa using hx) t ht;simp [kA, this]
     have hff : st'.rd f = st.rd f := dH ha fun t ht => by
      have := bC (op := .call ⟨.value f, args, ts⟩) (x := f) (by simp [Op.operands, Call.operands]) t ht;simp [kA, this]
     refine dT f args ts (hd' st' ha.n) rfl ?_;unfold dL;rw [hff, hf];refine ⟨h0, fun x hx => by rw [hargs x hx]; exact h1 x hx, ?_⟩;have e1 : bN args.toList st' = bN args.toList st := List.map_congr_left fun x hx => dE (hargs x hx);rw [e1];exact (h2 st'.obj).mono fun r' σ' ⟨a, b⟩ => by subst a; subst b; rfl
    ·exact h.elim
   ·exact h.elim
  | read =>
   obtain ⟨dst, op, ty, pos, after, guard⟩ := o;simp only [lL] at h;split at h
   ·rename_i f args ts _;obtain ⟨h1, r, h2, h3⟩ := h;have ups : ∀ st' : St, st'.upd (bL dst.toList ⟨false, false, true, false⟩ (st.put dst (.d r))) = st'.put dst (.d r) := by
     intro st';cases dst with
     | none => rfl
     | some d =>
      refine St.mk.injEq .. |>.mpr ⟨rfl, ?_, rfl, rfl⟩
      funext u;show bM [(d, (st.put (some d) (.d r)).env d)] st'.env u = _
      simp [bM, St.put, St.set]
    refine ⟨_, h3, (ups st).symm, fun e => (by cases e), fun st' ha => ?_⟩;replace ha := ha.toA;simp only [iE, fK];rw [ups st'];have hargs : ∀ x ∈ args.toList, st'.rd x = st.rd x := fun x hx => dH ha fun t ht => by
     have := bC (op := .call ⟨.value (.func f), args, ts⟩) (x := x) (by simp [Op.operands, Call.operands]; right; simpa using hx) t ht;simp [kA, this]
    refine dT (.func f) args ts (hd' st' ha.n) rfl ?_;unfold dL;simp only [iW];refine ⟨by simp, fun x hx => by rw [hargs x hx]; exact h1 x hx, ?_⟩;have e1 : bN args.toList st' = bN args.toList st := List.map_congr_left fun x hx => dE (hargs x hx);rw [e1];rw [show st'.obj = st.obj from ha.obj rfl];simpa using h2.mono fun r' σ' ⟨a, b⟩ => by subst a; subst b; rw [← show st'.obj = st.obj from ha.obj rfl]
   ·exact h.elim
  | det =>
   obtain ⟨dst, op, ty, pos, after, guard⟩ := o;simp only [lL] at h;split at h
   ·rename_i f args ts _;obtain ⟨h1, r, σ0, h2, h3⟩ := h;have ups : ∀ st' : St, st'.upd (bL dst.toList ⟨false, false, true, true⟩ (({ st with obj := σ0 } : St).put dst (.d r))) = ({ st' with obj := σ0 } : St).put dst (.d r) := by
     intro st';cases dst with
     | none => rfl
     | some d =>
      refine St.mk.injEq .. |>.mpr ⟨rfl, ?_, rfl, rfl⟩
      funext u;show bM [(d, (({ st with obj := σ0 } : St).put (some d) (.d r)).env d)] st'.env u = _
      simp [bM, St.put, St.set]
    refine ⟨_, h3, (ups st).symm, fun e => (by cases e), fun st' ha => ?_⟩;replace ha := ha.toA;simp only [iE, fK];rw [ups st'];have hargs : ∀ x ∈ args.toList, st'.rd x = st.rd x := fun x hx => dH ha fun t ht => by
     have := bC (op := .call ⟨.value (.func f), args, ts⟩) (x := x) (by simp [Op.operands, Call.operands]; right; simpa using hx) t ht;simp [kA, this]
    refine dT (.func f) args ts (hd' st' ha.n) rfl ?_;unfold dL;simp only [iW];refine ⟨by simp, fun x hx => by rw [hargs x hx]; exact h1 x hx, ?_⟩;have e1 : bN args.toList st' = bN args.toList st := List.map_congr_left fun x hx => dE (hargs x hx);have e2 : st'.obj = st.obj := ha.obj rfl;rw [e1, e2];simpa using h2.mono fun r' σ' ⟨a, b⟩ => by subst a; subst b; rfl
   ·exact h.elim
  | readT =>
   obtain ⟨dst, op, ty, pos, after, guard⟩ := o;simp only [lL] at h;split at h
   ·rename_i f args ts _;obtain ⟨h1, r, h2, h3⟩ := h;have ups : ∀ st' : St, st'.upd (bL dst.toList ⟨false, false, true, false⟩ (st.put dst (.d r))) = st'.put dst (.d r) := by
     intro st';cases dst with
     | none => rfl
     | some d =>
      refine St.mk.injEq .. |>.mpr ⟨rfl, ?_, rfl, rfl⟩
      funext u;show bM [(d, (st.put (some d) (.d r)).env d)] st'.env u = _
      simp [bM, St.put, St.set]
    refine ⟨_, h3, (ups st).symm, fun e => (by cases e), fun st' ha => ?_⟩;obtain ⟨J, hJ⟩ := (ha.obj rfl).2;simp only [iE, fK];rw [ups st'];have hargs : ∀ x ∈ args.toList, st'.rd x = st.rd x := fun x hx => Dd ha fun t ht => by
     have := bC (op := .call ⟨.value (.func f), args, ts⟩) (x := x) (by simp [Op.operands, Call.operands]; right; simpa using hx) t ht;simp [kA, this]
    refine dT (.func f) args ts (hd' st' ha.n) rfl ?_;unfold dL;simp only [iW];refine ⟨by simp, fun x hx => by rw [hargs x hx]; exact h1 x hx, ?_⟩;have e1 : bN args.toList st' = bN args.toList st := List.map_congr_left fun x hx => dE (hargs x hx);rw [e1];rw [hJ];simpa using (h2 J).mono fun r' σ' ⟨a, b⟩ => by subst a; subst b; rw [← hJ]
   ·exact h.elim
  | detA =>
   obtain ⟨dst, op, ty, pos, after, guard⟩ := o;simp only [lL] at h;split at h
   ·rename_i f args ts _;obtain ⟨h1, r, J, h2, h3⟩ := h;have ups : ∀ st' : St, st'.upd (bL dst.toList ⟨false, false, true, true⟩ (({ st with obj := st.obj ++ J } : St).put dst (.d r))) = ({ st' with obj := st.obj ++ J } : St).put dst (.d r) := by
     intro st';cases dst with
     | none => rfl
     | some d =>
      refine St.mk.injEq .. |>.mpr ⟨rfl, ?_, rfl, rfl⟩
      funext u;show bM [(d, (({ st with obj := st.obj ++ J } : St).put (some d) (.d r)).env d)] st'.env u = _
      simp [bM, St.put, St.set]
    refine ⟨_, h3, (ups st).symm, fun _ => ⟨J, by cases dst <;> rfl⟩, fun st' ha => ?_⟩;replace ha := ha.toA;simp only [iE, fK];rw [ups st'];have hargs : ∀ x ∈ args.toList, st'.rd x = st.rd x := fun x hx => dH ha fun t ht => by
     have := bC (op := .call ⟨.value (.func f), args, ts⟩) (x := x) (by simp [Op.operands, Call.operands]; right; simpa using hx) t ht;simp [kA, this]
    refine dT (.func f) args ts (hd' st' ha.n) rfl ?_;unfold dL;simp only [iW];refine ⟨by simp, fun x hx => by rw [hargs x hx]; exact h1 x hx, ?_⟩;have e1 : bN args.toList st' = bN args.toList st := List.map_congr_left fun x hx => dE (hargs x hx);have e2 : st'.obj = st.obj := ha.obj rfl;rw [e1, e2];simpa using h2.mono fun r' σ' ⟨a, b⟩ => by subst a; subst b; rfl
   ·exact h.elim
  | pureT =>
   obtain ⟨dst, op, ty, pos, after, guard⟩ := o;simp only [lL] at h;split at h
   ·rename_i d f args ts _;obtain ⟨h0, h1, r, h2, h3⟩ := h;have ups : ∀ st' : St, (∀ t, t ∈ dA (.call ⟨.value (.func f), args, ts⟩) → st'.env t = st.env t) →
      st'.upd (bL ((some d).toList ++ dA (.call ⟨.value (.func f), args, ts⟩)) ⟨false, false, false, false⟩ (({ st with env := bS (args.toList.map aO) st.env } : St).put (some d) (.d r))) = ({ st' with env := bS (args.toList.map aO) st'.env } : St).put (some d) (.d r) := by
     intro st' he;refine St.mk.injEq .. |>.mpr ⟨rfl, ?_, rfl, rfl⟩
     funext u;exact lZ he u
    refine ⟨_, h3, (ups st fun _ _ => rfl).symm, fun e => (by cases e), fun st' ha => ?_⟩;replace ha := ha.toA;have he : ∀ t, t ∈ dA (.call ⟨.value (.func f), args, ts⟩) → st'.env t = st.env t := fun t ht => ha.env t (by simp [kA, ht]);simp only [iE, fK];rw [ups st' he];have hargs : ∀ x ∈ args.toList, st'.rd x = st.rd x := fun x hx => dH ha fun t ht => by
     have := bC (op := .call ⟨.value (.func f), args, ts⟩) (x := x) (by simp [Op.operands, Call.operands]; right; simpa using hx) t ht;simp [kA, this]
    have hargS : ∀ x ∈ args.toList, st'.rdS x = st.rdS x := fun x hx => gI ha fun t ht => by
     have := bC (op := .call ⟨.value (.func f), args, ts⟩) (x := x) (by simp [Op.operands, Call.operands]; right; simpa using hx) t ht;simp [kA, this]
    refine lH f args ts (hd' st' ha.n) rfl ?_;unfold fE;refine ⟨h0, fun x hx => by rw [hargs x hx, hargS x hx]; exact h1 x hx, ?_⟩;have e1 : args.toList.map (jG st') = args.toList.map (jG st) := List.map_congr_left fun x hx => lI (hargs x hx);rw [e1];exact (h2 st'.obj).mono fun r' σ' ⟨a, b⟩ => by subst a; subst b; rfl
   ·exact h.elim
  | detT =>
   obtain ⟨dst, op, ty, pos, after, guard⟩ := o;simp only [lL] at h;split at h
   ·rename_i d f args ts _;obtain ⟨h0, h1, r, σ0, h2, h3⟩ := h;have ups : ∀ st' : St, (∀ t, t ∈ dA (.call ⟨.value (.func f), args, ts⟩) → st'.env t = st.env t) →
      st'.upd (bL ((some d).toList ++ dA (.call ⟨.value (.func f), args, ts⟩)) ⟨false, false, true, true⟩ (({ st with env := bS (args.toList.map aO) st.env, obj := σ0 } : St).put (some d) (.d r))) = ({ st' with env := bS (args.toList.map aO) st'.env, obj := σ0 } : St).put (some d) (.d r) := by
     intro st' he;refine St.mk.injEq .. |>.mpr ⟨rfl, ?_, rfl, rfl⟩
     funext u;exact lZ he u
    refine ⟨_, h3, (ups st fun _ _ => rfl).symm, fun e => (by cases e), fun st' ha => ?_⟩;replace ha := ha.toA;have he : ∀ t, t ∈ dA (.call ⟨.value (.func f), args, ts⟩) → st'.env t = st.env t := fun t ht => ha.env t (by simp [kA, ht]);simp only [iE, fK];rw [ups st' he];have hargs : ∀ x ∈ args.toList, st'.rd x = st.rd x := fun x hx => dH ha fun t ht => by
     have := bC (op := .call ⟨.value (.func f), args, ts⟩) (x := x) (by simp [Op.operands, Call.operands]; right; simpa using hx) t ht;simp [kA, this]
    have hargS : ∀ x ∈ args.toList, st'.rdS x = st.rdS x := fun x hx => gI ha fun t ht => by
     have := bC (op := .call ⟨.value (.func f), args, ts⟩) (x := x) (by simp [Op.operands, Call.operands]; right; simpa using hx) t ht;simp [kA, this]
    refine lH f args ts (hd' st' ha.n) rfl ?_;unfold fE;refine ⟨h0, fun x hx => by rw [hargs x hx, hargS x hx]; exact h1 x hx, ?_⟩;have e1 : args.toList.map (jG st') = args.toList.map (jG st) := List.map_congr_left fun x hx => lI (hargs x hx);have e2 : st'.obj = st.obj := ha.obj rfl;rw [e1, e2];exact h2.mono fun r' σ' ⟨a, b⟩ => by subst a; subst b; rfl
   ·exact h.elim
 split at h
 ·rename_i hg;obtain ⟨s, h1, h2, h0, h3⟩ := taken h;exact ⟨s, h1, h2, h0, fun _ st' ha => qI (fun w g tmps _ => by simp [Region.wanted, hg]) (h3 st' ha)⟩
 ·rename_i j want hg;obtain ⟨t, b, h1, h2, h3, h4⟩ := h;have hin : t ∈ kA c all o k := by simp [kA, hg, h1]
  by_cases hb : b = want
  ·obtain ⟨s, k1, k2, k0, k3⟩ := taken (h3 hb);refine ⟨s, k1, k2, k0, fun _ st' ha => qI (fun w g tmps hok => ?_) (k3 st' ha)⟩;have := nJ (all := all) (j := j) (want := want) hok h1 (by rw [ha.env t hin]; exact h2);simp [Region.wanted, hg, this, hb]
  ·have hb' : b = !want := by cases b <;> cases want <;> simp_all
   have hdw : ∀ d, o.dst = some d → d ∈ iE c o.dst o.op k := by
    intro d e;cases k <;> simp [iE, fD, e]
   have same : ∀ st', AgreeD (kA c all o k) (fK k) (nF c o.dst o.op k) st st' → st'.upd (bL (iE c o.dst o.op k) (fK k) (st.put o.dst .und)) = st'.put o.dst .und := by
    intro st' ha;refine St.mk.injEq .. |>.mpr ⟨by cases o.dst <;> rfl, ?_, ?_, ?_⟩
    ·funext u;have := iH (iE c o.dst o.op k) (fK k) (st.put o.dst .und) st' u;simp only [St.upd, bL] at this;rw [bL];simp only;rw [this];have hin' : u ∈ iE c o.dst o.op k → st'.env u = st.env u := fun hu => ha.env u (by simp [kA, hu]);cases hd' : o.dst with
     | none =>
      rw [hd'] at hin';split
      ·rename_i hu; exact (hin' hu).symm
      ·rfl
     | some d =>
      rw [hd'] at hin';have hdw' := hdw d hd';rw [hd'] at hdw';simp only [St.put, St.set];by_cases hu : u = d
      ·subst hu; simp [hdw']
      ·simp only [hu, if_false];split
       ·rename_i h; exact (hin' h).symm
       ·rfl
    ·simp only [bL];cases hl : (fK k).wL with
     | true => have := ha.loc (hfw.1 hl); cases o.dst <;> simp [St.put, St.set, this]
     | false => cases o.dst <;> simp [St.put, St.set]
    ·simp only [bL];cases hl : (fK k).wO with
     | true =>
      have := (ha.obj (hfw.2 hl)).1 (by cases ht : nF c o.dst o.op k with | false => rfl | true => have := (Ak ht).2; rw [hl] at this; cases this);cases o.dst <;> simp [St.put, St.set, this]
     | false => cases o.dst <;> simp [St.put, St.set]
   refine ⟨_, h4 hb', (same st (lN _ _ _).toD).symm, fun _ => ⟨[], by cases o.dst <;> simp [St.put, St.set]⟩, fun _ st' ha => ?_⟩;rw [same st' ha];intro w g tmps hok hn;have hy := nJ (all := all) (j := j) (want := want) hok h1 (by rw [ha.env t hin]; exact h2);have hw : Region.wanted o (yielded all.toArray tmps) = false := by simp [Region.wanted, hg, hy, hb]
   refine ⟨fun h => (by rw [hw] at h; cases h), fun _ => ?_⟩;have hdst : ∀ d, o.dst = some d → d < tmps.size := by
    intro d hd';have hd2 : d < st.n := by simpa [aS, hd'] using hd
    rw [hn, ha.n]; exact hd2
   refine ⟨_, g, rfl, Fr.refl w g, ?_, by rw [wZ]; exact hn⟩;rw [lV tmps [] o.dst undef hdst];exact hok.put o.dst .und undef fun t _ => In t
theorem Ke {c : Cfg} {all : List Oper} {o : Oper} {st st' : St} {Q : D → List (List D) → Prop} (hg : o.guard = none) (hd : aS o st) (h : Bm P o.dst o.op st Q) (ha : Agree (kA c all o .nd) (fK .nd) st st') :
  qN P all o st' fun s => ∃ r σ0, Q r σ0 ∧ s = ({ st' with obj := σ0 } : St).put o.dst (.d r) := by
 obtain ⟨dst, op, ty, pos, after, guard⟩ := o;simp only at hg;subst hg;have hd' : aS ⟨dst, op, ty, pos, after, none⟩ st' := by unfold aS at *; have := ha.n; split <;> simp_all
 refine qI (fun w g tmps _ => by simp [Region.wanted]) ?_;simp only [Bm] at h;split at h
 ·rename_i _ f args ts;obtain ⟨h1, h2, _⟩ := h;have hargs : ∀ x ∈ args.toList, st'.rd x = st.rd x := fun x hx => dH ha fun t ht => by
   have := bC (op := .call ⟨.value (.func f), args, ts⟩) (x := x) (by simp [Op.operands, Call.operands]; right; simpa using hx) t ht;simp [kA, this]
  refine dT (.func f) args ts hd' rfl ?_;unfold dL;simp only [iW];refine ⟨by simp, fun x hx => by rw [hargs x hx]; exact h1 x hx, ?_⟩;have e1 : bN args.toList st' = bN args.toList st := List.map_congr_left fun x hx => dE (hargs x hx);have e2 : st'.obj = st.obj := ha.obj rfl;rw [e1, e2];simpa using h2.mono fun r' σ' hq => ⟨r', σ', hq, rfl⟩
 ·exact h.elim
theorem Hs {c : Cfg} {dst : Option Tmp} {op : Op} {st st' : St} {r : D} {σ0 : List (List D)} : st'.upd (bL (iE c dst op .nd) (fK .nd) (({ st with obj := σ0 } : St).put dst (.d r))) = ({ st' with obj := σ0 } : St).put dst (.d r) := by
 cases dst with
 | none => rfl
 | some d =>
  refine St.mk.injEq .. |>.mpr ⟨rfl, ?_, rfl, rfl⟩
  funext u;show bM [(d, (({ st with obj := σ0 } : St).put (some d) (.d r)).env d)] st'.env u = _
  simp [bM, St.put, St.set]
end
end Go.Vm

