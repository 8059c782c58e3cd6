import Derived.Test.YtighdhfgcdjmeaaGreatDoorVm18
namespace Go.Vm
open Go
set_option linter.all false
section
variable {P : Program}
def eI : Op → Bool
 | .call { callee := .builtin _, .. } => false
 | .call _ => true
 | .binOp _ _ _ y _ => lT y
 | .range _ _ | .next _ _ | .entry _ => true
 | _ => false
theorem Tu {op : Op} (h : eI op = false) : pP op = false := by
 cases op <;> first | rfl | simp [eI] at h
theorem Ew {op : BinOp} {t : TypeId} {x y : Slot} {K : D → Prop} (h : kN P op t x y K) : ∃ d, K d ∧ kN P op t x y (· = d) := by
 unfold kN at *;split at h
 ·obtain ⟨h1, h2⟩ := h;unfold qU at *;cases op <;> simp only at h2 ⊢ <;> first | exact ⟨_, h2, h1, rfl⟩ | exact ⟨_, h2.2, h1, h2.1, rfl⟩ | exact ⟨_, h2.2.2, h1, h2.1, h2.2.1, rfl⟩ | exact h2.elim
 ·unfold qR at *;cases op <;> simp only at h ⊢ <;> first | exact ⟨_, h, rfl⟩ | exact ⟨_, h.2, h.1, rfl⟩ | exact h.elim
 ·obtain ⟨h1, h2⟩ := h;cases op <;> simp only at h2 ⊢ <;> first | exact ⟨_, h2, h1, rfl⟩ | exact h2.elim
 ·obtain ⟨h1, h2⟩ := h;cases op <;> simp only at h2 ⊢ <;> first | (obtain ⟨b, e1, e2⟩ := h2; exact ⟨_, e2, h1, b, e1, rfl⟩) | exact h2.elim
 ·obtain ⟨h1, h2⟩ := h;cases op <;> simp only at h2 ⊢ <;> first | exact ⟨_, h2, h1, rfl⟩ | exact h2.elim
 ·obtain ⟨h1, h2⟩ := h;cases op <;> simp only at h2 ⊢ <;> first | exact ⟨_, h2, h1, rfl⟩ | exact h2.elim
 ·exact h.elim
theorem Lk {op : UnOp} {x : D} {K : D → Prop} (h : qY op x K) : ∃ d, K d ∧ qY op x (· = d) := by
 unfold qY at *;split at h
 ·exact ⟨_, h, rfl⟩
 ·exact ⟨_, h.2, h.1, rfl⟩
 ·exact h.elim
theorem Gw {c : Cfg} {dst : Option Tmp} {f : Operand} {args : Array Operand} {ts : Array TypeId} {st : St} {K K' : St → Prop} (hk : ∀ s, K s → K' s) (h : bO P c dst (.call ⟨.value f, args, ts⟩) st K) : bO P c dst (.call ⟨.value f, args, ts⟩) st K' := by
 have pc : ∀ f, eF P dst f args.toList st K → eF P dst f args.toList st K' := by
  intro f h;unfold eF at *;split at h
  ·exact ⟨h.1, h.2.1, h.2.2.mono fun r σ' hK => hk _ hK⟩
  ·exact h
 have pt : ∀ fid, fV P dst fid args.toList st K → fV P dst fid args.toList st K' := fun fid h => ⟨h.1, h.2.1, h.2.2.mono fun r σ' hK => hk _ hK⟩;simp only [bO, fS] at *;cases f with
 | func fid =>
  simp only at *;cases dst with
  | none => exact pc _ h
  | some d =>
   simp only at *;split at h
   ·rename_i ht; rw [if_pos ht]; exact pt _ h
   ·rename_i ht; rw [if_neg ht]; exact pc _ h
 | _ => exact pc _ h
theorem Pq {c : Cfg} {dst : Option Tmp} {op : Op} {st : St} {K : St → Prop} (hc : eI op = false) (h : bO P c dst op st K) : ∃ s, K s ∧ bO P c dst op st (· = s) := by
 have mv : ∀ x, dX c dst x st K → ∃ s, K s ∧ dX c dst x st (· = s) := by
  intro x h;unfold dX at *;split at h
  ·split at h
   ·exact ⟨_, h, rfl⟩
   ·split at h
    ·rename_i ht; exact ⟨_, h.2.2, by rw [if_pos ht]; exact ⟨h.1, h.2.1, rfl⟩⟩
    ·rename_i ht; exact ⟨_, h.2, by rw [if_neg ht]; exact ⟨h.1, rfl⟩⟩
  ·exact h.elim
  ·exact ⟨_, h, rfl⟩
 have ld : ∀ t x, dM P dst t x st K → ∃ s, K s ∧ dM P dst t x st (· = s) := by
  intro t x h;unfold dM at *;split at h
  ·split at h
   ·exact ⟨_, h, rfl⟩
   ·exact h.elim
  ·exact h.elim
 cases op with
 | move x => exact mv x h
 | assign x => exact mv x h
 | binOp b t x y yt =>
  have hy : ¬ lT y = true := by simp only [eI] at hc; simp [hc]
  simp only [bO] at h ⊢;simp only [if_neg hy] at h ⊢;obtain ⟨d, h1, h2⟩ := Ew (P := P) h;exact ⟨_, h1, mS (fun e he => by rw [he]) h2⟩
 | unOp u t x =>
  simp only [bO] at h ⊢;obtain ⟨d, h1, h2⟩ := Lk h;exact ⟨_, h1, oX (fun e he => by rw [he]) h2⟩
 | load t x =>
  simp only [bO, eH] at *;split at h
  ·split at h
   ·rename_i htk;simp only [if_pos htk];split at h
    ·split at h
     ·split at h
      ·exact ⟨_, h.2.2, h.1, h.2.1, rfl⟩
      ·exact h.elim
     ·exact h.elim
    ·split at h
     ·split at h
      ·exact ⟨_, h.2.2, h.1, h.2.1, rfl⟩
      ·exact h.elim
     ·exact h.elim
    ·exact ld t x h
   ·rename_i htk;simp only [if_neg htk];exact ld t x h
  ·exact ld t x h
 | fieldAddr s x f =>
  simp only [bO, eZ] at *;split at h
  ·exact ⟨_, h.2, h.1, rfl⟩
  ·exact h.elim
 | field s x f =>
  simp only [bO, jX] at *;split at h
  ·split at h
   ·exact ⟨_, h, rfl⟩
   ·exact h.elim
  ·exact h.elim
 | indexAddr t x i =>
  simp only [bO, eW] at *;split at h
  ·split at h
   ·split at h
    ·exact ⟨_, h.2.2.2, h.1, h.2.1, h.2.2.1, rfl⟩
    ·exact h.elim
   ·split at h
    ·exact ⟨_, h.2.2, h.1, h.2.1, rfl⟩
    ·exact h.elim
  ·exact h.elim
 | index t x i =>
  simp only [bO, kE] at *;split at h
  ·exact ⟨_, h.2.2, h.1, h.2.1, rfl⟩
  ·split at h
   ·split at h
    ·split at h
     ·exact ⟨_, h.2, h.1, rfl⟩
     ·exact h.elim
    ·exact h.elim
   ·exact h.elim
  ·exact h.elim
 | slice t x lo hi mx =>
  simp only [bO, jW] at *;split at h
  ·obtain ⟨h1, h2, h3⟩ := h;split at h3
   ·exact ⟨_, h3.2, h1, h2, h3.1, rfl⟩
   ·exact h3.elim
  ·split at h
   ·split at h
    ·split at h
     ·exact ⟨_, h.2.2, h.1, h.2.1, rfl⟩
     ·exact h.elim
    ·split at h
     ·exact ⟨_, h.2.2, h.1, h.2.1, rfl⟩
     ·exact h.elim
   ·exact h.elim
  ·exact h.elim
 | pick a x y =>
  simp only [bO, nB] at *;split at h
  ·rename_i t ht;cases t with
   | true => exact ⟨_, (h.1 rfl).2, fun _ => ⟨(h.1 rfl).1, rfl⟩, fun e => (by cases e)⟩
   | false => exact ⟨_, (h.2 rfl).2, fun e => (by cases e), fun _ => ⟨(h.2 rfl).1, rfl⟩⟩
  ·exact h.elim
 | extract x i =>
  simp only [bO, gN] at *;split at h
  ·split at h
   ·split at h
    ·obtain ⟨h1, h2⟩ := h;split at h2
     ·rename_i ht; exact ⟨_, h2.2.2, h1, by rw [if_pos ht]; exact ⟨h2.1, h2.2.1, rfl⟩⟩
     ·rename_i ht; exact ⟨_, h2, h1, by rw [if_neg ht]⟩
    ·exact h.elim
   ·exact h.elim
  ·exact h.elim
 | makeFunc f first caps => exact ⟨_, h.2, h.1, rfl⟩
 | nilCheck x => exact ⟨_, h.2, h.1, rfl⟩
 | convert s d x =>
  simp only [bO, gJ] at *;split at h
  ·obtain ⟨a, b, h1, h2, h3, h4⟩ := h; exact ⟨_, h4, a, b, h1, h2, h3, rfl⟩
  ·exact ⟨_, h.2.2, h.1, h.2.1, rfl⟩
  ·exact h.elim
 | alloc e =>
  simp only [bO, iY] at *;split at h
  ·split at h
   ·rename_i he; exact ⟨_, h, by rw [if_pos he]⟩
   ·rename_i he; exact ⟨_, h, by rw [if_neg he]⟩
  ·exact h.elim
 | box e x =>
  simp only [bO, qQ] at *;split at h
  ·obtain ⟨h1, h2⟩ := h;split at h2
   ·rename_i hi; exact ⟨_, h2, h1, by rw [if_pos hi]⟩
   ·rename_i hi;split at h2
    ·rename_i he; exact ⟨_, h2, h1, by rw [if_neg hi, if_pos he]⟩
    ·rename_i he; exact ⟨_, h2, h1, by rw [if_neg hi, if_neg he]⟩
  ·exact h.elim
 | store t a v =>
  simp only [bO, lY] at *;obtain ⟨h1, h2, h3, h4⟩ := h;split at h4
  ·split at h4
   ·exact ⟨_, h4.2, h1, h2, h3, h4.1, rfl⟩
   ·exact h4.elim
  ·split at h4
   ·exact ⟨_, h4.2, h1, h2, h3, h4.1, rfl⟩
   ·exact h4.elim
  ·exact h4.elim
 | build t parts =>
  simp only [bO, kA] at *;split at h
  ·split at h
   ·exact ⟨_, h, rfl⟩
   ·exact h.elim
  ·exact h.elim
 | buildSlice t len parts =>
  simp only [bO, eG] at *;split at h
  ·exact ⟨_, h.2.2, h.1, h.2.1, rfl⟩
  ·exact h.elim
 | call call =>
  obtain ⟨callee, args, ts⟩ := call;cases callee with
  | builtin b =>
   simp only [bO, fS, iB] at *;split at h
   ·simp only [sB] at *;split at h
    ·exact ⟨_, h.2, h.1, rfl⟩
    ·exact ⟨_, h.2, h.1, rfl⟩
    ·exact h.elim
   ·simp only [iG] at *;split at h
    ·obtain ⟨h1, h2, h3, h4, h5⟩ := h;split at h5
     ·exact ⟨_, h5.2, h1, h2, h3, h4, h5.1, rfl⟩
     ·exact ⟨_, h5, h1, h2, h3, h4, rfl⟩
     ·exact h5.elim
    ·exact h.elim
   ·simp only [lM] at *;split at h
    ·exact ⟨_, h.2, h.1, rfl⟩
    ·exact h.elim
   ·simp only [lM] at *;split at h
    ·exact ⟨_, h.2, h.1, rfl⟩
    ·exact h.elim
   ·exact h.elim
  | _ => simp [eI] at hc
 | range t x => simp [eI] at hc
 | next x s => simp [eI] at hc
 | entry x => simp [eI] at hc
 | _ => exact h.elim
theorem Ca {c : Cfg} {dst : Option Tmp} {op : Op} {st : St} {K K' : St → Prop} (hk : ∀ s, K s → K' s) (h : bO P c dst op st K) : bO P c dst op st K' := by
 have mv : ∀ x, dX c dst x st K → dX c dst x st K' := by
  intro x h;unfold dX at *;split at h
  ·split at h
   ·exact hk _ (h)
   ·split at h
    ·rename_i ht; exact (by rw [if_pos ht]; exact ⟨h.1, h.2.1, hk _ (h.2.2)⟩)
    ·rename_i ht; exact (by rw [if_neg ht]; exact ⟨h.1, hk _ (h.2)⟩)
  ·exact h.elim
  ·exact hk _ (h)
 have ld : ∀ t x, dM P dst t x st K → dM P dst t x st K' := by
  intro t x h;unfold dM at *;split at h
  ·split at h
   ·exact hk _ (h)
   ·exact h.elim
  ·exact h.elim
 cases op with
 | move x => exact mv x h
 | assign x => exact mv x h
 | binOp b t x y yt =>
  simp only [bO] at h ⊢;split at h
  ·rename_i hy; rw [if_pos hy]; exact Bk hk h
  ·rename_i hy; rw [if_neg hy]; exact mS (fun e he => hk _ he) h
 | unOp u t x =>
  simp only [bO] at h ⊢;exact oX (fun e he => hk _ he) h
 | load t x =>
  simp only [bO, eH] at *;split at h
  ·split at h
   ·rename_i htk;simp only [if_pos htk];split at h
    ·split at h
     ·split at h
      ·exact ⟨h.1, h.2.1, hk _ (h.2.2)⟩
      ·exact h.elim
     ·exact h.elim
    ·split at h
     ·split at h
      ·exact ⟨h.1, h.2.1, hk _ (h.2.2)⟩
      ·exact h.elim
     ·exact h.elim
    ·exact ld t x h
   ·rename_i htk;simp only [if_neg htk];exact ld t x h
  ·exact ld t x h
 | fieldAddr s x f =>
  simp only [bO, eZ] at *;split at h
  ·exact ⟨h.1, hk _ (h.2)⟩
  ·exact h.elim
 | field s x f =>
  simp only [bO, jX] at *;split at h
  ·split at h
   ·exact hk _ (h)
   ·exact h.elim
  ·exact h.elim
 | indexAddr t x i =>
  simp only [bO, eW] at *;split at h
  ·split at h
   ·split at h
    ·exact ⟨h.1, h.2.1, h.2.2.1, hk _ (h.2.2.2)⟩
    ·exact h.elim
   ·split at h
    ·exact ⟨h.1, h.2.1, hk _ (h.2.2)⟩
    ·exact h.elim
  ·exact h.elim
 | index t x i =>
  simp only [bO, kE] at *;split at h
  ·exact ⟨h.1, h.2.1, hk _ (h.2.2)⟩
  ·split at h
   ·split at h
    ·split at h
     ·exact ⟨h.1, hk _ h.2⟩
     ·exact h.elim
    ·exact h.elim
   ·exact h.elim
  ·exact h.elim
 | slice t x lo hi mx =>
  simp only [bO, jW] at *;split at h
  ·obtain ⟨h1, h2, h3⟩ := h;split at h3
   ·exact ⟨h1, h2, h3.1, hk _ (h3.2)⟩
   ·exact h3.elim
  ·split at h
   ·split at h
    ·split at h
     ·exact ⟨h.1, h.2.1, hk _ (h.2.2)⟩
     ·exact h.elim
    ·split at h
     ·exact ⟨h.1, h.2.1, hk _ (h.2.2)⟩
     ·exact h.elim
   ·exact h.elim
  ·exact h.elim
 | pick a x y =>
  simp only [bO, nB] at *;split at h
  ·rename_i t ht;exact ⟨fun ht => ⟨(h.1 ht).1, hk _ (h.1 ht).2⟩, fun ht => ⟨(h.2 ht).1, hk _ (h.2 ht).2⟩⟩
  ·exact h.elim
 | extract x i =>
  simp only [bO, gN] at *;split at h
  ·split at h
   ·split at h
    ·obtain ⟨h1, h2⟩ := h;split at h2
     ·rename_i ht; exact ⟨h1, (by rw [if_pos ht]; exact ⟨h2.1, h2.2.1, hk _ (h2.2.2)⟩)⟩
     ·rename_i ht; exact ⟨h1, (by rw [if_neg ht]; exact hk _ (h2))⟩
    ·exact h.elim
   ·exact h.elim
  ·exact h.elim
 | makeFunc f first caps => exact ⟨h.1, hk _ (h.2)⟩
 | nilCheck x => exact ⟨h.1, hk _ (h.2)⟩
 | convert s d x =>
  simp only [bO, gJ] at *;split at h
  ·obtain ⟨a, b, h1, h2, h3, h4⟩ := h; exact ⟨a, b, h1, h2, h3, hk _ (h4)⟩
  ·exact ⟨h.1, h.2.1, hk _ (h.2.2)⟩
  ·exact h.elim
 | alloc e =>
  simp only [bO, iY] at *;split at h
  ·split at h
   ·rename_i he; exact (by rw [if_pos he]; exact hk _ (h))
   ·rename_i he; exact (by rw [if_neg he]; exact hk _ (h))
  ·exact h.elim
 | box e x =>
  simp only [bO, qQ] at *;split at h
  ·obtain ⟨h1, h2⟩ := h;split at h2
   ·rename_i hi; exact ⟨h1, (by rw [if_pos hi]; exact hk _ (h2))⟩
   ·rename_i hi;split at h2
    ·rename_i he; exact ⟨h1, (by rw [if_neg hi, if_pos he]; exact hk _ (h2))⟩
    ·rename_i he; exact ⟨h1, (by rw [if_neg hi, if_neg he]; exact hk _ (h2))⟩
  ·exact h.elim
 | store t a v =>
  simp only [bO, lY] at *;obtain ⟨h1, h2, h3, h4⟩ := h;split at h4
  ·split at h4
   ·exact ⟨h1, h2, h3, h4.1, hk _ (h4.2)⟩
   ·exact h4.elim
  ·split at h4
   ·exact ⟨h1, h2, h3, h4.1, hk _ (h4.2)⟩
   ·exact h4.elim
  ·exact h4.elim
 | build t parts =>
  simp only [bO, kA] at *;split at h
  ·split at h
   ·exact hk _ (h)
   ·exact h.elim
  ·exact h.elim
 | buildSlice t len parts =>
  simp only [bO, eG] at *;split at h
  ·exact ⟨h.1, h.2.1, hk _ (h.2.2)⟩
  ·exact h.elim
 | call call =>
  obtain ⟨callee, args, ts⟩ := call;cases callee with
  | builtin b =>
   simp only [bO, fS, iB] at *;split at h
   ·simp only [sB] at *;split at h
    ·exact ⟨h.1, hk _ (h.2)⟩
    ·exact ⟨h.1, hk _ (h.2)⟩
    ·exact h.elim
   ·simp only [iG] at *;split at h
    ·obtain ⟨h1, h2, h3, h4, h5⟩ := h;split at h5
     ·exact ⟨h1, h2, h3, h4, h5.1, hk _ (h5.2)⟩
     ·exact ⟨h1, h2, h3, h4, hk _ (h5)⟩
     ·exact h5.elim
    ·exact h.elim
   ·simp only [lM] at *;split at h
    ·exact ⟨h.1, hk _ (h.2)⟩
    ·exact h.elim
   ·simp only [lM] at *;split at h
    ·exact ⟨h.1, hk _ (h.2)⟩
    ·exact h.elim
   ·exact h.elim
  | value f => exact Gw hk h
  | invoke r m =>
   simp only [bO, fS, jL] at *;split at h
   ·obtain ⟨h1, h2, fn, h3, h4⟩ := h;exact ⟨h1, h2, fn, h3, h4.mono fun r σ' hK => hk _ hK⟩
   ·exact h.elim
 | range t x => exact vT hk h
 | next x s =>
  cases s with
  | false => exact xX hk h
  | true => exact h.elim
 | entry x => exact vR hk h
 | _ => exact h.elim
theorem Ue {dst : Option Tmp} {op : Op} {st : St} {K : St → Prop} (h : Hq P dst op st K) : ∃ s, K s ∧ Hq P dst op st (· = s) := by
 unfold Hq at *;split at h
 ·split at h
  ·simp only [qD] at *;obtain ⟨h0, h⟩ := h;split at h <;> first | exact ⟨_, h, h0, rfl⟩ | exact h.elim
  ·exact h.elim
 ·split at h
  ·simp only [gM] at *;split at h
   ·obtain ⟨h0, h1, h2, h3⟩ := h;split at h3 <;> first | exact ⟨_, h3.2, h0, h1, h2, h3.1, rfl⟩ | (obtain ⟨ds, es, h4, h5⟩ := h3; exact ⟨_, h5, h0, h1, h2, ds, es, h4, rfl⟩) | exact h3.elim
   ·exact h.elim
  ·exact h.elim
 ·split at h
  ·simp only [jI] at *;obtain ⟨h0, h⟩ := h;split at h
   ·split at h
    ·exact ⟨_, h.2, h0, h.1, rfl⟩
    ·exact h.elim
   ·exact h.elim
  ·exact h.elim
 ·simp only [eC] at *;split at h
  ·exact ⟨_, h.2, h.1, rfl⟩
  ·exact h.elim
 ·simp only [iD] at *;split at h
  ·split at h
   ·exact ⟨_, h.2, h.1, rfl⟩
   ·exact h.elim
  ·exact h.elim
 ·exact h.elim
theorem Sl {dst : Option Tmp} {op : Op} {st : St} {K K' : St → Prop} (hk : ∀ s, K s → K' s) (h : Hq P dst op st K) : Hq P dst op st K' := by
 unfold Hq at *;split at h
 ·split at h
  ·simp only [qD] at *;obtain ⟨h0, h⟩ := h;split at h <;> first | exact ⟨h0, hk _ h⟩ | exact h.elim
  ·exact h.elim
 ·split at h
  ·simp only [gM] at *;split at h
   ·obtain ⟨h0, h1, h2, h3⟩ := h;split at h3 <;> first | exact ⟨h0, h1, h2, h3.1, hk _ h3.2⟩ | (obtain ⟨ds, es, h4, h5⟩ := h3; exact ⟨h0, h1, h2, ds, es, h4, hk _ h5⟩) | exact h3.elim
   ·exact h.elim
  ·exact h.elim
 ·split at h
  ·simp only [jI] at *;obtain ⟨h0, h⟩ := h;split at h
   ·split at h
    ·exact ⟨h0, h.1, hk _ h.2⟩
    ·exact h.elim
   ·exact h.elim
  ·exact h.elim
 ·simp only [eC] at *;split at h
  ·exact ⟨h.1, hk _ h.2⟩
  ·exact h.elim
 ·simp only [iD] at *;split at h
  ·split at h
   ·exact ⟨h.1, hk _ h.2⟩
   ·exact h.elim
  ·exact h.elim
 ·exact h.elim
theorem Cv {c : Cfg} {dst : Option Tmp} {op : Op} {st : St} {K : St → Prop} (hc : eI op = false) (h : dB P c dst op st K) : ∃ s, K s ∧ dB P c dst op st (· = s) := by
 unfold dB at *;by_cases hy : oZ c dst op = true
 ·simp only [hy, if_true] at *;obtain ⟨sets, ob, h1, hK⟩ := h;exact ⟨_, hK, sets, ob, h1, rfl⟩
 simp only [hy] at *;by_cases hu : vV c dst op = true
 ·simp only [hu, if_true] at *; exact Ue h
 ·simp only [hu] at *; exact Pq hc h
theorem mQ {c : Cfg} {dst : Option Tmp} {op : Op} {st : St} {K K' : St → Prop} (hk : ∀ s, K s → K' s) (h : dB P c dst op st K) : dB P c dst op st K' := by
 unfold dB at *;by_cases hy : oZ c dst op = true
 ·simp only [hy, if_true] at *;obtain ⟨sets, ob, h1, hK⟩ := h;exact ⟨sets, ob, h1, hk _ hK⟩
 simp only [hy] at *;by_cases hu : vV c dst op = true
 ·simp only [hu, if_true] at *; exact Sl hk h
 ·simp only [hu] at *; exact Ca hk h
def tT (c : Cfg) (dst : Option Tmp) : Op → Bool
 | .load t a => !dst.any c.take.contains && !oZ c dst (.load t a) && !vV c dst (.load t a)
 | .lookup _ _ _ _ => true
 | .call ⟨.builtin .len, args, ts⟩ => oZ c dst (.call ⟨.builtin .len, args, ts⟩)
 | _ => false
def zT (c : Cfg) (dst : Option Tmp) : Op → Bool
 | .makeMap _ _ => true
 | .alloc e => dst.any c.esc.contains && !oZ c dst (.alloc e) && !vV c dst (.alloc e)
 | .box e x => dst.any c.esc.contains && !dst.any c.imm.contains && !oZ c dst (.box e x) && !vV c dst (.box e x)
 | _ => false
structure AgreeT (rs : List Nat) (f : Fl) (st st' : St) : Prop where
 n : st'.n = st.n
 env : ∀ t, t ∈ rs → st'.env t = st.env t
 loc : f.rL = true → st'.loc = st.loc
 obj : f.rO = true → ∃ J, st'.obj = st.obj ++ J
theorem wX {α : Type} {l J : List α} {n : Nat} {x : α} (h : l[n]? = some x) : (l ++ J)[n]? = some x := by
 rw [List.getElem?_append_left (List.getElem?_eq_some_iff.1 h).1]; exact h
theorem Mh {args : List Operand} {ts : List TypeId} {f g : Operand → TypeId → fG} {sets : List (Nat × Slot)} {ob : Option (List (List D))} (h : ∀ x t, f x t sets ob → g x t sets ob) (hy : Nh args ts f sets ob) : Nh args ts g sets ob := by
 match args, ts with
 | [x], [t] => exact h x t hy
 | [], _ => exact hy.elim
 | _ :: _ :: _, _ => exact hy.elim
 | [_], [] => exact hy.elim
 | [_], _ :: _ :: _ => exact hy.elim
theorem Sr {c : Cfg} {dst : Option Tmp} {op : Op} {st st' : St} {K : St → Prop} {rs : List Nat} (ht : tT c dst op = true) (hrs : ∀ t, t ∈ dS op → t ∈ rs) (ha : AgreeT rs (gH c dst st op) st st') (h : dB P c dst op st K) : dB P c dst op st' (Tr (gC c dst op) (gH c dst st op) st st' K) := by
 have rdS : ∀ x, x ∈ op.operands.toList → st'.rdS x = st.rdS x := fun x hx => by
  cases x with
  | tmp t => exact ha.env t (hrs t (bS hx t rfl))
  | _ => rfl
 have goY : oZ c dst op = true → (∀ rd obj J sets ob, yR P (wI c dst op) dst op rd obj sets ob → yR P (wI c dst op) dst op rd (obj ++ J) sets ob) → dB P c dst op st' (Tr (gC c dst op) (gH c dst st op) st st' K) := by
  intro hy hm;have hw : gC c dst op = dst.toList ++ dS op := by simp [gC, hy]
  unfold dB gH at *;simp only [hy, if_true] at *;obtain ⟨sets, ob, h1, hK⟩ := h;obtain ⟨s1, s2⟩ := Dk h1;refine ⟨sets, ob, ?_, ⟨sets, none, ob⟩, ⟨fun p hp => by rw [hw]; exact s1 p hp, by simp, s2⟩, hK, rfl⟩;rw [Ac rdS];by_cases hr : (Mj (wI c dst op) op).rO = true
  ·simp only [hr, if_true] at h1 ⊢;obtain ⟨J, hJ⟩ := ha.obj hr;rw [hJ];exact hm _ _ _ _ _ h1
  ·simp only [hr] at h1 ⊢;exact h1
 cases op with
 | load t a =>
  simp only [tT, Bool.and_eq_true, Bool.not_eq_true'] at ht;obtain ⟨⟨h1, h2⟩, h3⟩ := ht;have ld : ∀ K, dM P dst t a st K → st'.cellsAt (st'.rdS a) = st.cellsAt (st.rdS a) → dM P dst t a st' (Tr (gC c dst (.load t a)) (gH c dst st (.load t a)) st st' K) := by
   intro K h he;unfold dM at *;rw [he];split at h
   ·split at h
    ·exact Bi dN h
    ·exact h.elim
   ·exact h.elim
  have tk : ∀ st K, eH P c dst t a st K = dM P dst t a st K := by
   intro st K;unfold eH;split
   ·rename_i d _;have : c.take.contains d = false := by simpa using h1
    simp only [this];rfl
   ·rfl
  have hfl : gH c dst st (.load t a) = dQ (dst.any c.take.contains) (st.rdS a) := by
   unfold gH; simp only [h2, h3]; rfl
  have key : dB P c dst (.load t a) st K = dM P dst t a st K := by
   unfold dB; simp only [h2, h3, bO, tk]; rfl
  have key' : ∀ K, dB P c dst (.load t a) st' K = dM P dst t a st' K := fun K => by
   unfold dB; simp only [h2, h3, bO, tk]; rfl
  rw [key] at h;rw [key'];refine ld K h ?_;have he : st'.rdS a = st.rdS a := rdS a (by simp [Op.operands]);rw [he];unfold dM at h;rw [hfl] at ha;cases hs : st.rdS a with
  | lref n off => rw [hs] at ha; simp only [St.cellsAt]; rw [ha.loc rfl]
  | d x =>
   cases x with
   | ref n off =>
    rw [hs] at ha h;obtain ⟨J, hJ⟩ := ha.obj rfl;simp only [St.cellsAt] at h ⊢;rw [hJ];cases hg : st.obj[n]? with
    | none => rw [hg] at h; simp at h
    | some cs => rw [wX hg]
   | _ => rfl
 | lookup t x k ok =>
  refine goY rfl fun rd obj J sets ob hy => ?_;simp only [yR, kH] at hy ⊢;split at hy
  ·obtain ⟨m, i, clock, kvs, dv, b, ⟨⟨cs, g1, g2⟩, g3⟩, g4⟩ := hy;exact ⟨m, i, clock, kvs, dv, b, ⟨⟨cs, wX g1, g2⟩, g3⟩, g4⟩
  ·exact hy.elim
 | call call =>
  obtain ⟨callee, args, ts⟩ := call;cases callee with
  | builtin b =>
   cases b with
   | len =>
    refine goY ht fun rd obj J sets ob hy => ?_;simp only [yR] at hy ⊢;refine Mh (fun x t hy => ?_) hy;split at hy
    ·rename_i h; rw [if_pos h];unfold sQ at hy ⊢;split at hy
     ·obtain ⟨m, i, clock, kvs, ⟨cs, g1, g2⟩, g4⟩ := hy;exact ⟨m, i, clock, kvs, ⟨cs, wX g1, g2⟩, g4⟩
     ·exact hy.elim
    ·rename_i h; rw [if_neg h]; exact hy
   | _ => simp [tT] at ht
  | _ => simp [tT] at ht
 | _ => simp [tT] at ht
theorem Qw {c : Cfg} {dst : Option Tmp} {op : Op} {st s : St} (ha : zT c dst op = true) (h : dB P c dst op st (· = s)) : ∃ J, s.obj = st.obj ++ J := by
 cases op with
 | makeMap t r =>
  unfold dB at h;simp only [oZ, Yr, Bool.true_or, if_true] at h;obtain ⟨sets, ob, h1, rfl⟩ := h;have hf : (Mj (wI c dst (.makeMap t r)) (.makeMap t r)).rO = true := rfl;simp only [hf, if_true, yR, iI] at h1;split at h1
  ·obtain ⟨_, rfl, rfl⟩ := h1;exact ⟨[[]], rfl⟩
  ·exact h1.elim
 | alloc e =>
  simp only [zT, Bool.and_eq_true, Bool.not_eq_true'] at ha;obtain ⟨⟨h1, h2⟩, h3⟩ := ha;unfold dB at h;simp only [h2, h3, bO, iY] at h;simp only [Bool.false_eq_true, if_false] at h;split at h
  ·rename_i cs d _;have : c.esc.contains d = true := by simpa using h1
   simp only [this, if_true] at h;subst h;exact ⟨[cs], rfl⟩
  ·exact h.elim
 | box e x =>
  simp only [zT, Bool.and_eq_true, Bool.not_eq_true'] at ha;obtain ⟨⟨⟨h1, h0⟩, h2⟩, h3⟩ := ha;unfold dB at h;simp only [h2, h3, bO, qQ] at h;simp only [Bool.false_eq_true, if_false] at h;split at h
  ·rename_i d;have e1 : c.esc.contains d = true := by simpa using h1
   have e2 : c.imm.contains d = false := by simpa using h0
   simp only [e1, e2, if_true] at h;simp only [Bool.false_eq_true, if_false] at h;obtain ⟨_, rfl⟩ := h;exact ⟨_, rfl⟩
  ·exact h.elim
 | _ => simp [zT] at ha
inductive DK where
 | op (f : Fl)
 | pure
 | det
 | pureT
 | detT
 | read
 | pureC
 | readT
 | detA
 | nd
def DK.isNd : DK → Bool
 | .nd => true
 | _ => false
def gG : DK → Fl
 | .op f => f
 | .pure => ⟨false, false, false, false⟩
 | .pureT => ⟨false, false, false, false⟩
 | .detT => ⟨false, false, true, true⟩
 | .det => ⟨false, false, true, true⟩
 | .read => ⟨false, false, true, false⟩
 | .pureC => ⟨false, false, false, false⟩
 | .readT => ⟨false, false, true, false⟩
 | .detA => ⟨false, false, true, true⟩
 | .nd => ⟨false, false, true, true⟩
def oW (c : Cfg) (dst : Option Tmp) (op : Op) : DK → Bool
 | .op f => f.rO && !f.wO && tT c dst op
 | .readT => true
 | _ => false
def Ev (c : Cfg) (dst : Option Tmp) (op : Op) : DK → Bool
 | .op _ => zT c dst op
 | .detA => true
 | _ => false
theorem Dq {c : Cfg} {dst : Option Tmp} {op : Op} {k : DK} (h : oW c dst op k = true) : (gG k).rO = true ∧ (gG k).wO = false := by
 cases k <;> simp_all [oW, gG]
def jF (c : Cfg) (dst : Option Tmp) (op : Op) : DK → List Nat
 | .op _ => gC c dst op
 | .pureT | .detT => dst.toList ++ dS op
 | _ => dst.toList
def Er (P : Program) (dst : Option Tmp) (op : Op) (st : St) (Q : D → List (List D) → Prop) : Prop := match op with
 | .call { callee := .value (.func f), args, .. } => eQ args.toList st ∧ Ct P f (cJ args.toList st) st.obj Q ∧ ∃ r σ0, Q r σ0
 | _ => False
def nG (P : Program) (c : Cfg) (dst : Option Tmp) (op : Op) (k : DK) (st : St) (K : St → Prop) : Prop :=
 match k with
 | .op f => eI op = false ∧ gH c dst st op = f ∧ dB P c dst op st K
 | .pure => match op with
  | .call { callee := .value (.func f), args, .. } => eQ args.toList st ∧ ∃ r, (∀ σ, Ct P f (cJ args.toList st) σ fun r' σ' => r' = r ∧ σ' = σ) ∧ K (st.put dst (.d r))
  | _ => False
 | .read => match op with
  | .call { callee := .value (.func f), args, .. } => eQ args.toList st ∧ ∃ r, (Ct P f (cJ args.toList st) st.obj fun r' σ' => r' = r ∧ σ' = st.obj) ∧ K (st.put dst (.d r))
  | _ => False
 | .pureC => match op with
  | .call { callee := .value f, args, .. } => match st.rd f with
   | .clo (.func fid) first caps => (∀ d ∈ first ++ caps, d.plain = true) ∧ eQ args.toList st ∧ ∃ r, (∀ σ, Ct P fid (first.map D.strip ++ cJ args.toList st ++ caps.map D.strip) σ fun r' σ' => r' = r ∧ σ' = σ) ∧ K (st.put dst (.d r))
   | _ => False
  | _ => False
 | .readT => match op with
  | .call { callee := .value (.func f), args, .. } => eQ args.toList st ∧ ∃ r, (∀ J, Ct P f (cJ args.toList st) (st.obj ++ J) fun r' σ' => r' = r ∧ σ' = st.obj ++ J) ∧ K (st.put dst (.d r))
  | _ => False
 | .nd => ∃ Q, Er P dst op st Q ∧ ∀ r σ0, Q r σ0 → K (({ st with obj := σ0 } : St).put dst (.d r))
 | .detA => match op with
  | .call { callee := .value (.func f), args, .. } => eQ args.toList st ∧ ∃ r J, (Ct P f (cJ args.toList st) st.obj fun r' σ' => r' = r ∧ σ' = st.obj ++ J) ∧ K (({ st with obj := st.obj ++ J } : St).put dst (.d r))
  | _ => False
 | .det => match op with
  | .call { callee := .value (.func f), args, .. } => eQ args.toList st ∧ ∃ r σ0, (Ct P f (cJ args.toList st) st.obj fun r' σ' => r' = r ∧ σ' = σ0) ∧ K (({ st with obj := σ0 } : St).put dst (.d r))
  | _ => False
 | .pureT => match dst, op with
  | some d, .call { callee := .value (.func f), args, .. } => (args.toList.filterMap bD).Nodup ∧ (∀ x ∈ args.toList, mH (st.rdS x) = true ∧ (st.rd x).plain = true) ∧
   ∃ r, (∀ σ, Ct P f (args.toList.map (kP st)) σ fun r' σ' => r' = r ∧ σ' = σ) ∧ K (({ st with env := cO (args.toList.map bD) st.env } : St).put (some d) (.d r))
  | _, _ => False
 | .detT => match dst, op with
  | some d, .call { callee := .value (.func f), args, .. } => (args.toList.filterMap bD).Nodup ∧ (∀ x ∈ args.toList, mH (st.rdS x) = true ∧ (st.rd x).plain = true) ∧
   ∃ r σ0, (Ct P f (args.toList.map (kP st)) st.obj fun r' σ' => r' = r ∧ σ' = σ0) ∧ K (({ st with env := cO (args.toList.map bD) st.env, obj := σ0 } : St).put (some d) (.d r))
  | _, _ => False
def lG (c : Cfg) (all : List Oper) (o : Oper) (k : DK) : List Nat := jF c o.dst o.op k ++ dS o.op ++ match o.guard with
 | none => []
 | some (j, _) => (aL all j).toList
def cF (ws : List Nat) (f : Fl) (s : St) : Delta := ⟨ws.map fun t => (t, s.env t), if f.wL then some s.loc else none, if f.wO then some s.obj else none⟩
theorem jE (ws : List Nat) (f : Fl) (s st : St) (t : Nat) : (st.upd (cF ws f s)).env t = if t ∈ ws then s.env t else st.env t := by
 simp only [St.upd, cF];exact mU ws s.env st.env t
def rR (P : Program) (all : List Oper) (o : Oper) (st : St) (K : St → Prop) : Prop :=
 ∀ (w : World) (g : Gh) (tmps : Array Value), Ok w g st (aV tmps) → tmps.size = st.n →
  (Region.wanted o (yielded all.toArray tmps) = true → o.wp P ⟨tmps, []⟩ w (fun a w' => a.defers = [] ∧ ∃ st' g', K st' ∧ Fr w g w' g' ∧ Ok w' g' st' (aV a.tmps) ∧ a.tmps.size = st'.n) (fun _ _ _ => False)) ∧
  (Region.wanted o (yielded all.toArray tmps) = false → ∃ st' g', K st' ∧ Fr w g w g' ∧ Ok w g' st' (aV ((⟨tmps, []⟩ : Act).put o.dst undef).tmps) ∧ tmps.size = st'.n)
structure AgreeD (rs : List Nat) (f : Fl) (tol : Bool) (st st' : St) : Prop where
 n : st'.n = st.n
 env : ∀ t, t ∈ rs → st'.env t = st.env t
 loc : f.rL = true → st'.loc = st.loc
 obj : f.rO = true → (tol = false → st'.obj = st.obj) ∧ ∃ J, st'.obj = st.obj ++ J
theorem Agree.toD {rs : List Nat} {f : Fl} {tol : Bool} {st st' : St} (h : Agree rs f st st') : AgreeD rs f tol st st' := ⟨h.n, h.env, h.loc, fun e => ⟨fun _ => h.obj e, [], by rw [h.obj e, List.append_nil]⟩⟩
theorem AgreeD.toA {rs : List Nat} {f : Fl} {st st' : St} (h : AgreeD rs f false st st') : Agree rs f st st' := ⟨h.n, h.env, h.loc, fun e => (h.obj e).1 rfl⟩
theorem AgreeD.toT {rs : List Nat} {f : Fl} {tol : Bool} {st st' : St} (h : AgreeD rs f tol st st') : AgreeT rs f st st' := ⟨h.n, h.env, h.loc, fun e => (h.obj e).2⟩
structure Step (P : Program) (c : Cfg) (all : List Oper) (o : Oper) (k : DK) (st s : St) : Prop where
 self : s = st.upd (cF (jF c o.dst o.op k) (gG k) s)
 app : Ev c o.dst o.op k = true → ∃ J, s.obj = st.obj ++ J
 go : k.isNd = false → ∀ st', AgreeD (lG c all o k) (gG k) (oW c o.dst o.op k) st st' → rR P all o st' (· = st'.upd (cF (jF c o.dst o.op k) (gG k) s))
theorem Kp (c : Cfg) (dst : Option Tmp) (st : St) (op : Op) : ((dA c dst st op).wL = true → (dA c dst st op).rL = true) ∧ ((dA c dst st op).wO = true → (dA c dst st op).rO = true) := by
 have ad : ∀ w s, ((dQ w s).wL = true → (dQ w s).rL = true) ∧ ((dQ w s).wO = true → (dQ w s).rO = true) := by
  intro w s;cases s with
  | lref n o => simp [dQ]
  | d d => cases d <;> simp [dQ]
 cases op <;> simp only [dA] <;> try exact ⟨id, id⟩
 ·split <;> simp
 ·split
  ·simp
  ·split <;> simp
 ·exact ad _ _
 ·exact ad _ _
 ·rename_i call;obtain ⟨callee, args, ts⟩ := call;cases callee <;> exact ⟨id, id⟩
theorem wH (c : Cfg) (dst : Option Tmp) (st : St) (op : Op) : ((gH c dst st op).wL = true → (gH c dst st op).rL = true) ∧ ((gH c dst st op).wO = true → (gH c dst st op).rO = true) := by
 unfold gH;split
 ·unfold Mj; split <;> first | (simp; done) | (split <;> simp)
 split
 ·unfold Tk; split <;> simp
 ·exact Kp c dst st op
theorem wU {ws : List Nat} {f : Fl} {st st' : St} {δ : Delta} (hδ : δ.ok ws f) (hw : (f.wL = true → f.rL = true) ∧ (f.wO = true → f.rO = true)) (ha : Agree ws f st st') : st'.upd δ = st'.upd (cF ws f (st.upd δ)) := by
 have key : ∀ t, cI δ.sets st'.env t = if t ∈ ws then cI δ.sets st.env t else st'.env t := by
  intro t;split
  ·rename_i ht;have : ∀ (l : List (Nat × Slot)) (e e' : Nat → Slot), e t = e' t → cI l e t = cI l e' t := by
    intro l;induction l with
    | nil => intro e e' h; exact h
    | cons p l ih =>
     obtain ⟨x, y⟩ := p;intro e e' h;exact ih _ _ (by split <;> first | rfl | exact h)
   exact this _ _ _ (ha.env t ht)
  ·rename_i ht;exact Cw fun p hp e => ht (by rw [← e]; exact hδ.sets p hp)
 have h1 : (st'.upd δ).env = (st'.upd (cF ws f (st.upd δ))).env := by
  funext t;rw [jE];exact key t
 have h2 : (st'.upd δ).loc = (st'.upd (cF ws f (st.upd δ))).loc := by
  simp only [St.upd, cF];cases hl : f.wL with
  | true =>
   simp only [if_true, Option.getD_some];rw [ha.loc (hw.1 hl)]
  | false =>
   cases hd : δ.loc with
   | none => simp
   | some l => have := hδ.loc (by simp [hd]); rw [hl] at this; cases this
 have h3 : (st'.upd δ).obj = (st'.upd (cF ws f (st.upd δ))).obj := by
  simp only [St.upd, cF];cases hl : f.wO with
  | true =>
   simp only [if_true, Option.getD_some];rw [ha.obj (hw.2 hl)]
  | false =>
   cases hd : δ.obj with
   | none => simp
   | some l => have := hδ.obj (by simp [hd]); rw [hl] at this; cases this
 show (⟨_, _, _, _⟩ : St) = ⟨_, _, _, _⟩
 congr 1
theorem Hc {rs : List Nat} {f : Fl} {tol : Bool} {st st' : St} (h : AgreeD rs f tol st st') {x : Operand} (hx : ∀ t, bD x = some t → t ∈ rs) : st'.rd x = st.rd x :=
 dZ (rs := rs) (f := ⟨false, false, false, false⟩) ⟨h.n, h.env, fun e => (by cases e), fun e => (by cases e)⟩ hx
theorem Jg {ws : List Nat} {f : Fl} {st st' : St} {δ : Delta} (hδ : δ.ok ws f) (hw : f.wL = true → f.rL = true) (hO : f.wO = false) (ha : AgreeT ws f st st') : st'.upd δ = st'.upd (cF ws f (st.upd δ)) := by
 have := wU (st' := { st' with obj := st.obj }) hδ ⟨hw, fun h => by rw [hO] at h; cases h⟩ ⟨ha.n, ha.env, ha.loc, fun _ => rfl⟩;have hn : δ.obj = none := by
  cases hd : δ.obj with
  | none => rfl
  | some l => have := hδ.obj (by simp [hd]); rw [hO] at this; cases this
 simp only [St.upd, cF, hn, hO, St.mk.injEq] at this ⊢;simpa using this
theorem nK (rs : List Nat) (f : Fl) (st : St) : Agree rs f st st := ⟨rfl, fun _ _ => rfl, fun _ => rfl, fun _ => rfl⟩
theorem Agree.sub {rs rs' : List Nat} {f : Fl} {st st' : St} (h : Agree rs f st st') (hs : ∀ t, t ∈ rs' → t ∈ rs) : Agree rs' f st st' := ⟨h.n, fun t ht => h.env t (hs t ht), h.loc, h.obj⟩
theorem tL {all : List Oper} {o : Oper} {st : St} {K : St → Prop} (hw : ∀ (w : World) (g : Gh) (tmps : Array Value), Ok w g st (aV tmps) → Region.wanted o (yielded all.toArray tmps) = true) (h : Does P o st K) : rR P all o st K := by
 intro w g tmps hok hn;refine ⟨fun _ => ?_, fun hf => by rw [hw w g tmps hok] at hf; cases hf⟩;exact Oper.wp_mono (fun a w' ⟨h1, st', g', h2, h3, h4, h5, _⟩ => ⟨h1, st', g', h2, h3, h4, h5⟩) (h w g tmps hok hn)
theorem oC {f : FuncId} {args : Array Operand} {ts : Array TypeId} {d : Nat} {r : Slot} {e e' : Nat → Slot} (he : ∀ t, t ∈ dS (.call ⟨.value (.func f), args, ts⟩) → e' t = e t) (u : Nat) :
  cI (((some d).toList ++ dS (.call ⟨.value (.func f), args, ts⟩)).map fun t => (t, if t = d then r else cO (args.toList.map bD) e t)) e' u = if u = d then r else cO (args.toList.map bD) e' u := by
 rw [mU];by_cases hu : u = d
 ·subst hu; simp
 ·simp only [hu, if_false];by_cases hm : u ∈ dS (.call ⟨.value (.func f), args, ts⟩)
  ·rw [if_pos (by simp [hm])];simp only [cO, he u hm]
  ·rw [if_neg (by simp [hm, hu])];have hc : (args.toList.map bD).contains (some u) = false := by
    rw [Bool.eq_false_iff];intro hc;obtain ⟨x, hx, hx'⟩ := List.mem_map.1 (by simpa using hc : some u ∈ args.toList.map bD);exact hm (bS (by simp [Op.operands, Call.operands]; right; simpa using hx) u hx')
   simp only [cO, hc]; rfl
theorem Di {c : Cfg} {all : List Oper} {o : Oper} {k : DK} {st : St} {K : St → Prop} (hnd : k.isNd = false) (hfw : ((gG k).wL = true → (gG k).rL = true) ∧ ((gG k).wO = true → (gG k).rO = true)) (hd : bM o st) (h : match o.guard with
  | none => nG P c o.dst o.op k st K
  | some (j, want) => ∃ t b, aL all j = some t ∧ qJ (st.env t) want = some b ∧ (b = want → nG P c o.dst o.op k st K) ∧ (b = !want → K (st.put o.dst .und))) : ∃ s, K s ∧ Step P c all o k st s := by
 -- the body of the step, taken
 have taken : nG P c o.dst o.op k st K → ∃ s, K s ∧ s = st.upd (cF (jF c o.dst o.op k) (gG k) s) ∧ (Ev c o.dst o.op k = true → ∃ J, s.obj = st.obj ++ J) ∧ ∀ st', AgreeD (lG c all o k) (gG k) (oW c o.dst o.op k) st st' → Does P o st' (· = st'.upd (cF (jF c o.dst o.op k) (gG k) s)) := by
  intro h;have hd' : ∀ st', st'.n = st.n → bM o st' := fun st' hn => by unfold bM at *; split <;> simp_all
  cases k with
  | nd => cases hnd
  | op f =>
   obtain ⟨h1, rfl, h3⟩ := h;obtain ⟨s, hK, hs⟩ := Cv h1 h3;have loc : ∀ st', Agree (lG c all o (.op (gH c o.dst st o.op))) (gH c o.dst st o.op) st st' → ∃ δ : Delta, δ.ok (gC c o.dst o.op) (gH c o.dst st o.op) ∧ s = st.upd δ ∧ dB P c o.dst o.op st' (· = st'.upd δ) := by
    intro st' ha;have hl := Iv (Tu h1) (rs := lG c all o (.op (gH c o.dst st o.op))) (fun t ht => by simp [lG, ht]) ha hs;obtain ⟨s', ⟨δ, d1, d2, rfl⟩, h5⟩ := Cv h1 hl;exact ⟨δ, d1, d2.symm, h5⟩
   obtain ⟨δ0, d1, d2, _⟩ := loc st (nK _ _ _);refine ⟨s, hK, ?_, fun hap => Qw hap hs, fun st' ha => ?_⟩
   ·have := wU d1 (wH c o.dst st o.op) (nK (gC c o.dst o.op) (gH c o.dst st o.op) st);rw [← d2] at this;exact this
   ·by_cases htl : oW c o.dst o.op (.op (gH c o.dst st o.op)) = true
    ·have hT := ha.toT;have hop : tT c o.dst o.op = true := by simp only [oW, Bool.and_eq_true] at htl; exact htl.2
     have hl := Sr hop (rs := lG c all o (.op (gH c o.dst st o.op))) (fun t ht => by simp [lG, ht]) hT hs;obtain ⟨s', ⟨δ, e1, e2, rfl⟩, e3⟩ := Cv h1 hl;have := Jg e1 (wH c o.dst st o.op).1 (Dq htl).2 ⟨hT.n, fun t ht => hT.env t (by simp [lG, jF, ht]), hT.loc, hT.obj⟩;rw [e2] at this;simp only [jF, gG];rw [← this];exact wQ ⟨hd' st' ha.n, e3⟩
    have ha : Agree (lG c all o (.op (gH c o.dst st o.op))) (gH c o.dst st o.op) st st' := by
     have e : oW c o.dst o.op (.op (gH c o.dst st o.op)) = false := by simpa using htl
     rw [e] at ha;exact ha.toA
    obtain ⟨δ, e1, e2, e3⟩ := loc st' ha;have := wU e1 (wH c o.dst st o.op) (ha.sub (rs' := gC c o.dst o.op) (fun t ht => by simp [lG, jF, ht]));rw [← e2] at this;simp only [jF, gG];rw [← this];exact wQ ⟨hd' st' ha.n, e3⟩
  | pure =>
   obtain ⟨dst, op, ty, pos, after, guard⟩ := o;simp only [nG] at h;split at h
   ·rename_i f args ts _;obtain ⟨h1, r, h2, h3⟩ := h;have ups : ∀ st' : St, st'.upd (cF dst.toList ⟨false, false, false, false⟩ (st.put dst (.d r))) = st'.put dst (.d r) := by
     intro st';cases dst with
     | none => rfl
     | some d =>
      refine St.mk.injEq .. |>.mpr ⟨rfl, ?_, rfl, rfl⟩
      funext u;show cI [(d, (st.put (some d) (.d r)).env d)] st'.env u = _
      simp [cI, St.put, St.set]
    refine ⟨_, h3, (ups st).symm, fun e => (by cases e), fun st' ha => ?_⟩;replace ha := ha.toA;simp only [jF, gG];rw [ups st'];have hargs : ∀ x ∈ args.toList, st'.rd x = st.rd x := fun x hx => dZ ha fun t ht => by
     have := bS (op := .call ⟨.value (.func f), args, ts⟩) (x := x) (by simp [Op.operands, Call.operands]; right; simpa using hx) t ht;simp [lG, this]
    refine eP (.func f) args ts (hd' st' ha.n) rfl ?_;unfold eF;simp only [jV];refine ⟨by simp, fun x hx => by rw [hargs x hx]; exact h1 x hx, ?_⟩;have e1 : cJ args.toList st' = cJ args.toList st := List.map_congr_left fun x hx => dW (hargs x hx);rw [e1];simpa using (h2 st'.obj).mono fun r' σ' ⟨a, b⟩ => by subst a; subst b; rfl
   ·exact h.elim
  | pureC =>
   obtain ⟨dst, op, ty, pos, after, guard⟩ := o;simp only [nG] at h;split at h
   ·rename_i f args ts _;split at h
    ·rename_i fid first caps hf
     obtain ⟨h0, h1, r, h2, h3⟩ := h;have ups : ∀ st' : St, st'.upd (cF dst.toList ⟨false, false, false, false⟩ (st.put dst (.d r))) = st'.put dst (.d r) := by
      intro st';cases dst with
      | none => rfl
      | some d =>
       refine St.mk.injEq .. |>.mpr ⟨rfl, ?_, rfl, rfl⟩
       funext u;show cI [(d, (st.put (some d) (.d r)).env d)] st'.env u = _
       simp [cI, St.put, St.set]
     refine ⟨_, h3, (ups st).symm, fun e => (by cases e), fun st' ha => ?_⟩;replace ha := ha.toA;simp only [jF, gG];rw [ups st'];have hargs : ∀ x ∈ args.toList, st'.rd x = st.rd x := fun x hx => dZ ha fun t ht => by
      have := bS (op := .call ⟨.value f, args, ts⟩) (x := x) (by simp [Op.operands, Call.operands]; right; simpa using hx) t ht;simp [lG, this]
     have hff : st'.rd f = st.rd f := dZ ha fun t ht => by
      have := bS (op := .call ⟨.value f, args, ts⟩) (x := f) (by simp [Op.operands, Call.operands]) t ht;simp [lG, this]
     refine eP f args ts (hd' st' ha.n) rfl ?_;unfold eF;rw [hff, hf];refine ⟨h0, fun x hx => by rw [hargs x hx]; exact h1 x hx, ?_⟩;have e1 : cJ args.toList st' = cJ args.toList st := List.map_congr_left fun x hx => dW (hargs x hx);rw [e1];exact (h2 st'.obj).mono fun r' σ' ⟨a, b⟩ => by subst a; subst b; rfl
    ·exact h.elim
   ·exact h.elim
  | read =>
   obtain ⟨dst, op, ty, pos, after, guard⟩ := o;simp only [nG] at h;split at h
   ·rename_i f args ts _;obtain ⟨h1, r, h2, h3⟩ := h;have ups : ∀ st' : St, st'.upd (cF dst.toList ⟨false, false, true, false⟩ (st.put dst (.d r))) = st'.put dst (.d r) := by
     intro st';cases dst with
     | none => rfl
     | some d =>
      refine St.mk.injEq .. |>.mpr ⟨rfl, ?_, rfl, rfl⟩
      funext u;show cI [(d, (st.put (some d) (.d r)).env d)] st'.env u = _
      simp [cI, St.put, St.set]
    refine ⟨_, h3, (ups st).symm, fun e => (by cases e), fun st' ha => ?_⟩;replace ha := ha.toA;simp only [jF, gG];rw [ups st'];have hargs : ∀ x ∈ args.toList, st'.rd x = st.rd x := fun x hx => dZ ha fun t ht => by
     have := bS (op := .call ⟨.value (.func f), args, ts⟩) (x := x) (by simp [Op.operands, Call.operands]; right; simpa using hx) t ht;simp [lG, this]
    refine eP (.func f) args ts (hd' st' ha.n) rfl ?_;unfold eF;simp only [jV];refine ⟨by simp, fun x hx => by rw [hargs x hx]; exact h1 x hx, ?_⟩;have e1 : cJ args.toList st' = cJ args.toList st := List.map_congr_left fun x hx => dW (hargs x hx);rw [e1];rw [show st'.obj = st.obj from ha.obj rfl];simpa using h2.mono fun r' σ' ⟨a, b⟩ => by subst a; subst b; rw [← show st'.obj = st.obj from ha.obj rfl]
   ·exact h.elim
  | det =>
   obtain ⟨dst, op, ty, pos, after, guard⟩ := o;simp only [nG] at h;split at h
   ·rename_i f args ts _;obtain ⟨h1, r, σ0, h2, h3⟩ := h;have ups : ∀ st' : St, st'.upd (cF dst.toList ⟨false, false, true, true⟩ (({ st with obj := σ0 } : St).put dst (.d r))) = ({ st' with obj := σ0 } : St).put dst (.d r) := by
     intro st';cases dst with
     | none => rfl
     | some d =>
      refine St.mk.injEq .. |>.mpr ⟨rfl, ?_, rfl, rfl⟩
      funext u;show cI [(d, (({ st with obj := σ0 } : St).put (some d) (.d r)).env d)] st'.env u = _
      simp [cI, St.put, St.set]
    refine ⟨_, h3, (ups st).symm, fun e => (by cases e), fun st' ha => ?_⟩;replace ha := ha.toA;simp only [jF, gG];rw [ups st'];have hargs : ∀ x ∈ args.toList, st'.rd x = st.rd x := fun x hx => dZ ha fun t ht => by
     have := bS (op := .call ⟨.value (.func f), args, ts⟩) (x := x) (by simp [Op.operands, Call.operands]; right; simpa using hx) t ht;simp [lG, this]
    refine eP (.func f) args ts (hd' st' ha.n) rfl ?_;unfold eF;simp only [jV];refine ⟨by simp, fun x hx => by rw [hargs x hx]; exact h1 x hx, ?_⟩;have e1 : cJ args.toList st' = cJ args.toList st := List.map_congr_left fun x hx => dW (hargs x hx);have e2 : st'.obj = st.obj := ha.obj rfl;rw [e1, e2];simpa using h2.mono fun r' σ' ⟨a, b⟩ => by subst a; subst b; rfl
   ·exact h.elim
  | readT =>
   obtain ⟨dst, op, ty, pos, after, guard⟩ := o;simp only [nG] at h;split at h
   ·rename_i f args ts _;obtain ⟨h1, r, h2, h3⟩ := h;have ups : ∀ st' : St, st'.upd (cF dst.toList ⟨false, false, true, false⟩ (st.put dst (.d r))) = st'.put dst (.d r) := by
     intro st';cases dst with
     | none => rfl
     | some d =>
      refine St.mk.injEq .. |>.mpr ⟨rfl, ?_, rfl, rfl⟩
      funext u;show cI [(d, (st.put (some d) (.d r)).env d)] st'.env u = _
      simp [cI, St.put, St.set]
    refine ⟨_, h3, (ups st).symm, fun e => (by cases e), fun st' ha => ?_⟩;obtain ⟨J, hJ⟩ := (ha.obj rfl).2;simp only [jF, gG];rw [ups st'];have hargs : ∀ x ∈ args.toList, st'.rd x = st.rd x := fun x hx => Hc ha fun t ht => by
     have := bS (op := .call ⟨.value (.func f), args, ts⟩) (x := x) (by simp [Op.operands, Call.operands]; right; simpa using hx) t ht;simp [lG, this]
    refine eP (.func f) args ts (hd' st' ha.n) rfl ?_;unfold eF;simp only [jV];refine ⟨by simp, fun x hx => by rw [hargs x hx]; exact h1 x hx, ?_⟩;have e1 : cJ args.toList st' = cJ args.toList st := List.map_congr_left fun x hx => dW (hargs x hx);rw [e1];rw [hJ];simpa using (h2 J).mono fun r' σ' ⟨a, b⟩ => by subst a; subst b; rw [← hJ]
   ·exact h.elim
  | detA =>
   obtain ⟨dst, op, ty, pos, after, guard⟩ := o;simp only [nG] at h;split at h
   ·rename_i f args ts _;obtain ⟨h1, r, J, h2, h3⟩ := h;have ups : ∀ st' : St, st'.upd (cF dst.toList ⟨false, false, true, true⟩ (({ st with obj := st.obj ++ J } : St).put dst (.d r))) = ({ st' with obj := st.obj ++ J } : St).put dst (.d r) := by
     intro st';cases dst with
     | none => rfl
     | some d =>
      refine St.mk.injEq .. |>.mpr ⟨rfl, ?_, rfl, rfl⟩
      funext u;show cI [(d, (({ st with obj := st.obj ++ J } : St).put (some d) (.d r)).env d)] st'.env u = _
      simp [cI, St.put, St.set]
    refine ⟨_, h3, (ups st).symm, fun _ => ⟨J, by cases dst <;> rfl⟩, fun st' ha => ?_⟩;replace ha := ha.toA;simp only [jF, gG];rw [ups st'];have hargs : ∀ x ∈ args.toList, st'.rd x = st.rd x := fun x hx => dZ ha fun t ht => by
     have := bS (op := .call ⟨.value (.func f), args, ts⟩) (x := x) (by simp [Op.operands, Call.operands]; right; simpa using hx) t ht;simp [lG, this]
    refine eP (.func f) args ts (hd' st' ha.n) rfl ?_;unfold eF;simp only [jV];refine ⟨by simp, fun x hx => by rw [hargs x hx]; exact h1 x hx, ?_⟩;have e1 : cJ args.toList st' = cJ args.toList st := List.map_congr_left fun x hx => dW (hargs x hx);have e2 : st'.obj = st.obj := ha.obj rfl;rw [e1, e2];simpa using h2.mono fun r' σ' ⟨a, b⟩ => by subst a; subst b; rfl
   ·exact h.elim
  | pureT =>
   obtain ⟨dst, op, ty, pos, after, guard⟩ := o;simp only [nG] at h;split at h
   ·rename_i d f args ts _;obtain ⟨h0, h1, r, h2, h3⟩ := h;have ups : ∀ st' : St, (∀ t, t ∈ dS (.call ⟨.value (.func f), args, ts⟩) → st'.env t = st.env t) →
      st'.upd (cF ((some d).toList ++ dS (.call ⟨.value (.func f), args, ts⟩)) ⟨false, false, false, false⟩ (({ st with env := cO (args.toList.map bD) st.env } : St).put (some d) (.d r))) = ({ st' with env := cO (args.toList.map bD) st'.env } : St).put (some d) (.d r) := by
     intro st' he;refine St.mk.injEq .. |>.mpr ⟨rfl, ?_, rfl, rfl⟩
     funext u;exact oC he u
    refine ⟨_, h3, (ups st fun _ _ => rfl).symm, fun e => (by cases e), fun st' ha => ?_⟩;replace ha := ha.toA;have he : ∀ t, t ∈ dS (.call ⟨.value (.func f), args, ts⟩) → st'.env t = st.env t := fun t ht => ha.env t (by simp [lG, ht]);simp only [jF, gG];rw [ups st' he];have hargs : ∀ x ∈ args.toList, st'.rd x = st.rd x := fun x hx => dZ ha fun t ht => by
     have := bS (op := .call ⟨.value (.func f), args, ts⟩) (x := x) (by simp [Op.operands, Call.operands]; right; simpa using hx) t ht;simp [lG, this]
    have hargS : ∀ x ∈ args.toList, st'.rdS x = st.rdS x := fun x hx => hY ha fun t ht => by
     have := bS (op := .call ⟨.value (.func f), args, ts⟩) (x := x) (by simp [Op.operands, Call.operands]; right; simpa using hx) t ht;simp [lG, this]
    refine nD f args ts (hd' st' ha.n) rfl ?_;unfold fV;refine ⟨h0, fun x hx => by rw [hargs x hx, hargS x hx]; exact h1 x hx, ?_⟩;have e1 : args.toList.map (kP st') = args.toList.map (kP st) := List.map_congr_left fun x hx => mO (hargs x hx);rw [e1];exact (h2 st'.obj).mono fun r' σ' ⟨a, b⟩ => by subst a; subst b; rfl
   ·exact h.elim
  | detT =>
   obtain ⟨dst, op, ty, pos, after, guard⟩ := o;simp only [nG] at h;split at h
   ·rename_i d f args ts _;obtain ⟨h0, h1, r, σ0, h2, h3⟩ := h;have ups : ∀ st' : St, (∀ t, t ∈ dS (.call ⟨.value (.func f), args, ts⟩) → st'.env t = st.env t) →
      st'.upd (cF ((some d).toList ++ dS (.call ⟨.value (.func f), args, ts⟩)) ⟨false, false, true, true⟩ (({ st with env := cO (args.toList.map bD) st.env, obj := σ0 } : St).put (some d) (.d r))) = ({ st' with env := cO (args.toList.map bD) st'.env, obj := σ0 } : St).put (some d) (.d r) := by
     intro st' he;refine St.mk.injEq .. |>.mpr ⟨rfl, ?_, rfl, rfl⟩
     funext u;exact oC he u
    refine ⟨_, h3, (ups st fun _ _ => rfl).symm, fun e => (by cases e), fun st' ha => ?_⟩;replace ha := ha.toA;have he : ∀ t, t ∈ dS (.call ⟨.value (.func f), args, ts⟩) → st'.env t = st.env t := fun t ht => ha.env t (by simp [lG, ht]);simp only [jF, gG];rw [ups st' he];have hargs : ∀ x ∈ args.toList, st'.rd x = st.rd x := fun x hx => dZ ha fun t ht => by
     have := bS (op := .call ⟨.value (.func f), args, ts⟩) (x := x) (by simp [Op.operands, Call.operands]; right; simpa using hx) t ht;simp [lG, this]
    have hargS : ∀ x ∈ args.toList, st'.rdS x = st.rdS x := fun x hx => hY ha fun t ht => by
     have := bS (op := .call ⟨.value (.func f), args, ts⟩) (x := x) (by simp [Op.operands, Call.operands]; right; simpa using hx) t ht;simp [lG, this]
    refine nD f args ts (hd' st' ha.n) rfl ?_;unfold fV;refine ⟨h0, fun x hx => by rw [hargs x hx, hargS x hx]; exact h1 x hx, ?_⟩;have e1 : args.toList.map (kP st') = args.toList.map (kP st) := List.map_congr_left fun x hx => mO (hargs x hx);have e2 : st'.obj = st.obj := ha.obj rfl;rw [e1, e2];exact h2.mono fun r' σ' ⟨a, b⟩ => by subst a; subst b; rfl
   ·exact h.elim
 split at h
 ·rename_i hg;obtain ⟨s, h1, h2, h0, h3⟩ := taken h;exact ⟨s, h1, h2, h0, fun _ st' ha => tL (fun w g tmps _ => by simp [Region.wanted, hg]) (h3 st' ha)⟩
 ·rename_i j want hg;obtain ⟨t, b, h1, h2, h3, h4⟩ := h;have hin : t ∈ lG c all o k := by simp [lG, hg, h1]
  by_cases hb : b = want
  ·obtain ⟨s, k1, k2, k0, k3⟩ := taken (h3 hb);refine ⟨s, k1, k2, k0, fun _ st' ha => tL (fun w g tmps hok => ?_) (k3 st' ha)⟩;have := pC (all := all) (j := j) (want := want) hok h1 (by rw [ha.env t hin]; exact h2);simp [Region.wanted, hg, this, hb]
  ·have hb' : b = !want := by cases b <;> cases want <;> simp_all
   have hdw : ∀ d, o.dst = some d → d ∈ jF c o.dst o.op k := by
    intro d e;cases k <;> simp [jF, gC, e]
   have same : ∀ st', AgreeD (lG c all o k) (gG k) (oW c o.dst o.op k) st st' → st'.upd (cF (jF c o.dst o.op k) (gG k) (st.put o.dst .und)) = st'.put o.dst .und := by
    intro st' ha;refine St.mk.injEq .. |>.mpr ⟨by cases o.dst <;> rfl, ?_, ?_, ?_⟩
    ·funext u;have := jE (jF c o.dst o.op k) (gG k) (st.put o.dst .und) st' u;simp only [St.upd, cF] at this;rw [cF];simp only;rw [this];have hin' : u ∈ jF c o.dst o.op k → st'.env u = st.env u := fun hu => ha.env u (by simp [lG, hu]);cases hd' : o.dst with
     | none =>
      rw [hd'] at hin';split
      ·rename_i hu; exact (hin' hu).symm
      ·rfl
     | some d =>
      rw [hd'] at hin';have hdw' := hdw d hd';rw [hd'] at hdw';simp only [St.put, St.set];by_cases hu : u = d
      ·subst hu; simp [hdw']
      ·simp only [hu, if_false];split
       ·rename_i h; exact (hin' h).symm
       ·rfl
    ·simp only [cF];cases hl : (gG k).wL with
     | true => have := ha.loc (hfw.1 hl); cases o.dst <;> simp [St.put, St.set, this]
     | false => cases o.dst <;> simp [St.put, St.set]
    ·simp only [cF];cases hl : (gG k).wO with
     | true =>
      have := (ha.obj (hfw.2 hl)).1 (by cases ht : oW c o.dst o.op k with | false => rfl | true => have := (Dq ht).2; rw [hl] at this; cases this);cases o.dst <;> simp [St.put, St.set, this]
     | false => cases o.dst <;> simp [St.put, St.set]
   refine ⟨_, h4 hb', (same st (nK _ _ _).toD).symm, fun _ => ⟨[], by cases o.dst <;> simp [St.put, St.set]⟩, fun _ st' ha => ?_⟩;rw [same st' ha];intro w g tmps hok hn;have hy := pC (all := all) (j := j) (want := want) hok h1 (by rw [ha.env t hin]; exact h2);have hw : Region.wanted o (yielded all.toArray tmps) = false := by simp [Region.wanted, hg, hy, hb]
   refine ⟨fun h => (by rw [hw] at h; cases h), fun _ => ?_⟩;have hdst : ∀ d, o.dst = some d → d < tmps.size := by
    intro d hd';have hd2 : d < st.n := by simpa [bM, hd'] using hd
    rw [hn, ha.n]; exact hd2
   refine ⟨_, g, rfl, Fr.refl w g, ?_, by rw [zZ]; exact hn⟩;rw [oM tmps [] o.dst undef hdst];exact hok.put o.dst .und undef fun t _ => Kg t
theorem Ob {c : Cfg} {all : List Oper} {o : Oper} {st st' : St} {Q : D → List (List D) → Prop} (hg : o.guard = none) (hd : bM o st) (h : Er P o.dst o.op st Q) (ha : Agree (lG c all o .nd) (gG .nd) st st') :
  rR P all o st' fun s => ∃ r σ0, Q r σ0 ∧ s = ({ st' with obj := σ0 } : St).put o.dst (.d r) := by
 obtain ⟨dst, op, ty, pos, after, guard⟩ := o;simp only at hg;subst hg;have hd' : bM ⟨dst, op, ty, pos, after, none⟩ st' := by unfold bM at *; have := ha.n; split <;> simp_all
 refine tL (fun w g tmps _ => by simp [Region.wanted]) ?_;simp only [Er] at h;split at h
 ·rename_i _ f args ts;obtain ⟨h1, h2, _⟩ := h;have hargs : ∀ x ∈ args.toList, st'.rd x = st.rd x := fun x hx => dZ ha fun t ht => by
   have := bS (op := .call ⟨.value (.func f), args, ts⟩) (x := x) (by simp [Op.operands, Call.operands]; right; simpa using hx) t ht;simp [lG, this]
  refine eP (.func f) args ts hd' rfl ?_;unfold eF;simp only [jV];refine ⟨by simp, fun x hx => by rw [hargs x hx]; exact h1 x hx, ?_⟩;have e1 : cJ args.toList st' = cJ args.toList st := List.map_congr_left fun x hx => dW (hargs x hx);have e2 : st'.obj = st.obj := ha.obj rfl;rw [e1, e2];simpa using h2.mono fun r' σ' hq => ⟨r', σ', hq, rfl⟩
 ·exact h.elim
theorem Jv {c : Cfg} {dst : Option Tmp} {op : Op} {st st' : St} {r : D} {σ0 : List (List D)} : st'.upd (cF (jF c dst op .nd) (gG .nd) (({ st with obj := σ0 } : St).put dst (.d r))) = ({ st' with obj := σ0 } : St).put dst (.d r) := by
 cases dst with
 | none => rfl
 | some d =>
  refine St.mk.injEq .. |>.mpr ⟨rfl, ?_, rfl, rfl⟩
  funext u;show cI [(d, (({ st with obj := σ0 } : St).put (some d) (.d r)).env d)] st'.env u = _
  simp [cI, St.put, St.set]
end
end Go.Vm

