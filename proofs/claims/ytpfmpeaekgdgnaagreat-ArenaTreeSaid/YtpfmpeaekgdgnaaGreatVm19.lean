import Derived.Test.YtpfmpeaekgdgnaaGreatVm18
namespace Go.Vm
open Go
set_option linter.all false
section
variable {P : Program}
def isCallOp : Op → Bool
 | .call { callee := .builtin _, .. } => false
 | .call _ => true
 | .binOp _ _ _ y _ => isNilSl y
 | _ => false
theorem vcBin_ext {op : BinOp} {t : TypeId} {x y : Slot} {K : D → Prop} (h : vcBin P op t x y K) : ∃ d, K d ∧ vcBin P op t x y (· = d) := by
 unfold vcBin at *
 split at h
 ·obtain ⟨h1, h2⟩ := h
  unfold vcInt at *
  cases op <;> simp only at h2 ⊢ <;> first | exact ⟨_, h2, h1, rfl⟩ | exact ⟨_, h2.2, h1, h2.1, rfl⟩ | exact ⟨_, h2.2.2, h1, h2.1, h2.2.1, rfl⟩ | exact h2.elim
 ·unfold vcStr at *
  cases op <;> simp only at h ⊢ <;> first | exact ⟨_, h, rfl⟩ | exact ⟨_, h.2, h.1, rfl⟩ | exact h.elim
 ·obtain ⟨h1, h2⟩ := h
  cases op <;> simp only at h2 ⊢ <;> first | exact ⟨_, h2, h1, rfl⟩ | exact h2.elim
 ·obtain ⟨h1, h2⟩ := h
  cases op <;> simp only at h2 ⊢ <;> first | (obtain ⟨b, e1, e2⟩ := h2; exact ⟨_, e2, h1, b, e1, rfl⟩) | exact h2.elim
 ·obtain ⟨h1, h2⟩ := h
  cases op <;> simp only at h2 ⊢ <;> first | exact ⟨_, h2, h1, rfl⟩ | exact h2.elim
 ·obtain ⟨h1, h2⟩ := h
  cases op <;> simp only at h2 ⊢ <;> first | exact ⟨_, h2, h1, rfl⟩ | exact h2.elim
 ·exact h.elim
theorem vcUn_ext {op : UnOp} {x : D} {K : D → Prop} (h : vcUn op x K) : ∃ d, K d ∧ vcUn op x (· = d) := by
 unfold vcUn at *
 split at h
 ·exact ⟨_, h, rfl⟩
 ·exact ⟨_, h.2, h.1, rfl⟩
 ·exact h.elim
theorem call_mono {c : Cfg} {dst : Option Tmp} {f : Operand} {args : Array Operand} {ts : Array TypeId} {st : St} {K K' : St → Prop} (hk : ∀ s, K s → K' s) (h : vcOp0 P c dst (.call ⟨.value f, args, ts⟩) st K) : vcOp0 P c dst (.call ⟨.value f, args, ts⟩) st K' := by
 have pc : ∀ f, vcCall P dst f args.toList st K → vcCall P dst f args.toList st K' := by
  intro f h
  unfold vcCall at *
  split at h
  ·exact ⟨h.1, h.2.1, h.2.2.mono fun r σ' hK => hk _ hK⟩
  ·exact h
 have pt : ∀ fid, vcCallT P dst fid args.toList st K → vcCallT P dst fid args.toList st K' := fun fid h => ⟨h.1, h.2.1, h.2.2.mono fun r σ' hK => hk _ hK⟩
 simp only [vcOp0, vcCallAny] at *
 cases f with
 | func fid =>
  simp only at *
  cases dst with
  | none => exact pc _ h
  | some d =>
   simp only at *
   split at h
   ·rename_i ht; rw [if_pos ht]; exact pt _ h
   ·rename_i ht; rw [if_neg ht]; exact pc _ h
 | _ => exact pc _ h
theorem op_ext0 {c : Cfg} {dst : Option Tmp} {op : Op} {st : St} {K : St → Prop} (hc : isCallOp op = false) (h : vcOp0 P c dst op st K) : ∃ s, K s ∧ vcOp0 P c dst op st (· = s) := by
 have mv : ∀ x, vcMove c dst x st K → ∃ s, K s ∧ vcMove c dst x st (· = s) := by
  intro x h
  unfold vcMove at *
  split at h
  ·split at h
   ·exact ⟨_, h, rfl⟩
   ·split at h
    ·rename_i ht; exact ⟨_, h.2.2, by rw [if_pos ht]; exact ⟨h.1, h.2.1, rfl⟩⟩
    ·rename_i ht; exact ⟨_, h.2, by rw [if_neg ht]; exact ⟨h.1, rfl⟩⟩
  ·exact h.elim
  ·exact ⟨_, h, rfl⟩
 have ld : ∀ t x, vcLoad P dst t x st K → ∃ s, K s ∧ vcLoad P dst t x st (· = s) := by
  intro t x h
  unfold vcLoad at *
  split at h
  ·split at h
   ·exact ⟨_, h, rfl⟩
   ·exact h.elim
  ·exact h.elim
 cases op with
 | move x => exact mv x h
 | assign x => exact mv x h
 | binOp b t x y yt =>
  have hy : ¬ isNilSl y = true := by simp only [isCallOp] at hc; simp [hc]
  simp only [vcOp0] at h ⊢
  simp only [if_neg hy] at h ⊢
  obtain ⟨d, h1, h2⟩ := vcBin_ext (P := P) h
  exact ⟨_, h1, vcBin_mono (fun e he => by rw [he]) h2⟩
 | unOp u t x =>
  simp only [vcOp0] at h ⊢
  obtain ⟨d, h1, h2⟩ := vcUn_ext h
  exact ⟨_, h1, vcUn_mono (fun e he => by rw [he]) h2⟩
 | load t x =>
  simp only [vcOp0, vcLoadTake] at *
  split at h
  ·split at h
   ·rename_i htk
    simp only [if_pos htk]
    split at h
    ·split at h
     ·split at h
      ·exact ⟨_, h.2.2, h.1, h.2.1, rfl⟩
      ·exact h.elim
     ·exact h.elim
    ·split at h
     ·split at h
      ·exact ⟨_, h.2.2, h.1, h.2.1, rfl⟩
      ·exact h.elim
     ·exact h.elim
    ·exact ld t x h
   ·rename_i htk
    simp only [if_neg htk]
    exact ld t x h
  ·exact ld t x h
 | fieldAddr s x f =>
  simp only [vcOp0, vcFieldAddr] at *
  split at h
  ·exact ⟨_, h.2, h.1, rfl⟩
  ·exact h.elim
 | field s x f =>
  simp only [vcOp0, vcField] at *
  split at h
  ·split at h
   ·exact ⟨_, h, rfl⟩
   ·exact h.elim
  ·exact h.elim
 | indexAddr t x i =>
  simp only [vcOp0, vcIndexAddr] at *
  split at h
  ·split at h
   ·split at h
    ·exact ⟨_, h.2.2.2, h.1, h.2.1, h.2.2.1, rfl⟩
    ·exact h.elim
   ·split at h
    ·exact ⟨_, h.2.2, h.1, h.2.1, rfl⟩
    ·exact h.elim
  ·exact h.elim
 | index t x i =>
  simp only [vcOp0, vcIndex] at *
  split at h
  ·exact ⟨_, h.2.2, h.1, h.2.1, rfl⟩
  ·split at h
   ·split at h
    ·split at h
     ·exact ⟨_, h.2, h.1, rfl⟩
     ·exact h.elim
    ·exact h.elim
   ·exact h.elim
  ·exact h.elim
 | slice t x lo hi mx =>
  simp only [vcOp0, vcSlice] at *
  split at h
  ·obtain ⟨h1, h2, h3⟩ := h
   split at h3
   ·exact ⟨_, h3.2, h1, h2, h3.1, rfl⟩
   ·exact h3.elim
  ·split at h
   ·split at h
    ·split at h
     ·exact ⟨_, h.2.2, h.1, h.2.1, rfl⟩
     ·exact h.elim
    ·split at h
     ·exact ⟨_, h.2.2, h.1, h.2.1, rfl⟩
     ·exact h.elim
   ·exact h.elim
  ·exact h.elim
 | pick a x y =>
  simp only [vcOp0, vcPick] at *
  split at h
  ·rename_i t ht
   cases t with
   | true => exact ⟨_, (h.1 rfl).2, fun _ => ⟨(h.1 rfl).1, rfl⟩, fun e => (by cases e)⟩
   | false => exact ⟨_, (h.2 rfl).2, fun e => (by cases e), fun _ => ⟨(h.2 rfl).1, rfl⟩⟩
  ·exact h.elim
 | extract x i =>
  simp only [vcOp0, vcExtract] at *
  split at h
  ·split at h
   ·split at h
    ·obtain ⟨h1, h2⟩ := h
     split at h2
     ·rename_i ht; exact ⟨_, h2.2.2, h1, by rw [if_pos ht]; exact ⟨h2.1, h2.2.1, rfl⟩⟩
     ·rename_i ht; exact ⟨_, h2, h1, by rw [if_neg ht]⟩
    ·exact h.elim
   ·exact h.elim
  ·exact h.elim
 | makeFunc f first caps => exact ⟨_, h.2, h.1, rfl⟩
 | nilCheck x => exact ⟨_, h.2, h.1, rfl⟩
 | convert s d x =>
  simp only [vcOp0, vcConvert] at *
  split at h
  ·obtain ⟨a, b, h1, h2, h3, h4⟩ := h; exact ⟨_, h4, a, b, h1, h2, h3, rfl⟩
  ·exact ⟨_, h.2.2, h.1, h.2.1, rfl⟩
  ·exact h.elim
 | alloc e =>
  simp only [vcOp0, vcAlloc] at *
  split at h
  ·split at h
   ·rename_i he; exact ⟨_, h, by rw [if_pos he]⟩
   ·rename_i he; exact ⟨_, h, by rw [if_neg he]⟩
  ·exact h.elim
 | box e x =>
  simp only [vcOp0, vcBox] at *
  split at h
  ·obtain ⟨h1, h2⟩ := h
   split at h2
   ·rename_i hi; exact ⟨_, h2, h1, by rw [if_pos hi]⟩
   ·rename_i hi
    split at h2
    ·rename_i he; exact ⟨_, h2, h1, by rw [if_neg hi, if_pos he]⟩
    ·rename_i he; exact ⟨_, h2, h1, by rw [if_neg hi, if_neg he]⟩
  ·exact h.elim
 | store t a v =>
  simp only [vcOp0, vcStore] at *
  obtain ⟨h1, h2, h3, h4⟩ := h
  split at h4
  ·split at h4
   ·exact ⟨_, h4.2, h1, h2, h3, h4.1, rfl⟩
   ·exact h4.elim
  ·split at h4
   ·exact ⟨_, h4.2, h1, h2, h3, h4.1, rfl⟩
   ·exact h4.elim
  ·exact h4.elim
 | build t parts =>
  simp only [vcOp0, vcBuild] at *
  split at h
  ·split at h
   ·exact ⟨_, h, rfl⟩
   ·exact h.elim
  ·exact h.elim
 | buildSlice t len parts =>
  simp only [vcOp0, vcBuildSlice] at *
  split at h
  ·exact ⟨_, h.2.2, h.1, h.2.1, rfl⟩
  ·exact h.elim
 | call call =>
  obtain ⟨callee, args, ts⟩ := call
  cases callee with
  | builtin b =>
   simp only [vcOp0, vcCallAny, vcBuiltin] at *
   split at h
   ·simp only [vcLen] at *
    split at h
    ·exact ⟨_, h.2, h.1, rfl⟩
    ·exact ⟨_, h.2, h.1, rfl⟩
    ·exact h.elim
   ·simp only [vcAppend] at *
    split at h
    ·obtain ⟨h1, h2, h3, h4, h5⟩ := h
     split at h5
     ·exact ⟨_, h5.2, h1, h2, h3, h4, h5.1, rfl⟩
     ·exact ⟨_, h5, h1, h2, h3, h4, rfl⟩
     ·exact h5.elim
    ·exact h.elim
   ·simp only [vcMin] at *
    split at h
    ·exact ⟨_, h.2, h.1, rfl⟩
    ·exact h.elim
   ·simp only [vcMin] at *
    split at h
    ·exact ⟨_, h.2, h.1, rfl⟩
    ·exact h.elim
   ·exact h.elim
  | _ => simp [isCallOp] at hc
 | _ => exact h.elim
theorem vcOp0_mono {c : Cfg} {dst : Option Tmp} {op : Op} {st : St} {K K' : St → Prop} (hk : ∀ s, K s → K' s) (h : vcOp0 P c dst op st K) : vcOp0 P c dst op st K' := by
 have mv : ∀ x, vcMove c dst x st K → vcMove c dst x st K' := by
  intro x h
  unfold vcMove at *
  split at h
  ·split at h
   ·exact hk _ (h)
   ·split at h
    ·rename_i ht; exact (by rw [if_pos ht]; exact ⟨h.1, h.2.1, hk _ (h.2.2)⟩)
    ·rename_i ht; exact (by rw [if_neg ht]; exact ⟨h.1, hk _ (h.2)⟩)
  ·exact h.elim
  ·exact hk _ (h)
 have ld : ∀ t x, vcLoad P dst t x st K → vcLoad P dst t x st K' := by
  intro t x h
  unfold vcLoad at *
  split at h
  ·split at h
   ·exact hk _ (h)
   ·exact h.elim
  ·exact h.elim
 cases op with
 | move x => exact mv x h
 | assign x => exact mv x h
 | binOp b t x y yt =>
  simp only [vcOp0] at h ⊢
  split at h
  ·rename_i hy; rw [if_pos hy]; exact vcNil_mono hk h
  ·rename_i hy; rw [if_neg hy]; exact vcBin_mono (fun e he => hk _ he) h
 | unOp u t x =>
  simp only [vcOp0] at h ⊢
  exact vcUn_mono (fun e he => hk _ he) h
 | load t x =>
  simp only [vcOp0, vcLoadTake] at *
  split at h
  ·split at h
   ·rename_i htk
    simp only [if_pos htk]
    split at h
    ·split at h
     ·split at h
      ·exact ⟨h.1, h.2.1, hk _ (h.2.2)⟩
      ·exact h.elim
     ·exact h.elim
    ·split at h
     ·split at h
      ·exact ⟨h.1, h.2.1, hk _ (h.2.2)⟩
      ·exact h.elim
     ·exact h.elim
    ·exact ld t x h
   ·rename_i htk
    simp only [if_neg htk]
    exact ld t x h
  ·exact ld t x h
 | fieldAddr s x f =>
  simp only [vcOp0, vcFieldAddr] at *
  split at h
  ·exact ⟨h.1, hk _ (h.2)⟩
  ·exact h.elim
 | field s x f =>
  simp only [vcOp0, vcField] at *
  split at h
  ·split at h
   ·exact hk _ (h)
   ·exact h.elim
  ·exact h.elim
 | indexAddr t x i =>
  simp only [vcOp0, vcIndexAddr] at *
  split at h
  ·split at h
   ·split at h
    ·exact ⟨h.1, h.2.1, h.2.2.1, hk _ (h.2.2.2)⟩
    ·exact h.elim
   ·split at h
    ·exact ⟨h.1, h.2.1, hk _ (h.2.2)⟩
    ·exact h.elim
  ·exact h.elim
 | index t x i =>
  simp only [vcOp0, vcIndex] at *
  split at h
  ·exact ⟨h.1, h.2.1, hk _ (h.2.2)⟩
  ·split at h
   ·split at h
    ·split at h
     ·exact ⟨h.1, hk _ h.2⟩
     ·exact h.elim
    ·exact h.elim
   ·exact h.elim
  ·exact h.elim
 | slice t x lo hi mx =>
  simp only [vcOp0, vcSlice] at *
  split at h
  ·obtain ⟨h1, h2, h3⟩ := h
   split at h3
   ·exact ⟨h1, h2, h3.1, hk _ (h3.2)⟩
   ·exact h3.elim
  ·split at h
   ·split at h
    ·split at h
     ·exact ⟨h.1, h.2.1, hk _ (h.2.2)⟩
     ·exact h.elim
    ·split at h
     ·exact ⟨h.1, h.2.1, hk _ (h.2.2)⟩
     ·exact h.elim
   ·exact h.elim
  ·exact h.elim
 | pick a x y =>
  simp only [vcOp0, vcPick] at *
  split at h
  ·rename_i t ht
   exact ⟨fun ht => ⟨(h.1 ht).1, hk _ (h.1 ht).2⟩, fun ht => ⟨(h.2 ht).1, hk _ (h.2 ht).2⟩⟩
  ·exact h.elim
 | extract x i =>
  simp only [vcOp0, vcExtract] at *
  split at h
  ·split at h
   ·split at h
    ·obtain ⟨h1, h2⟩ := h
     split at h2
     ·rename_i ht; exact ⟨h1, (by rw [if_pos ht]; exact ⟨h2.1, h2.2.1, hk _ (h2.2.2)⟩)⟩
     ·rename_i ht; exact ⟨h1, (by rw [if_neg ht]; exact hk _ (h2))⟩
    ·exact h.elim
   ·exact h.elim
  ·exact h.elim
 | makeFunc f first caps => exact ⟨h.1, hk _ (h.2)⟩
 | nilCheck x => exact ⟨h.1, hk _ (h.2)⟩
 | convert s d x =>
  simp only [vcOp0, vcConvert] at *
  split at h
  ·obtain ⟨a, b, h1, h2, h3, h4⟩ := h; exact ⟨a, b, h1, h2, h3, hk _ (h4)⟩
  ·exact ⟨h.1, h.2.1, hk _ (h.2.2)⟩
  ·exact h.elim
 | alloc e =>
  simp only [vcOp0, vcAlloc] at *
  split at h
  ·split at h
   ·rename_i he; exact (by rw [if_pos he]; exact hk _ (h))
   ·rename_i he; exact (by rw [if_neg he]; exact hk _ (h))
  ·exact h.elim
 | box e x =>
  simp only [vcOp0, vcBox] at *
  split at h
  ·obtain ⟨h1, h2⟩ := h
   split at h2
   ·rename_i hi; exact ⟨h1, (by rw [if_pos hi]; exact hk _ (h2))⟩
   ·rename_i hi
    split at h2
    ·rename_i he; exact ⟨h1, (by rw [if_neg hi, if_pos he]; exact hk _ (h2))⟩
    ·rename_i he; exact ⟨h1, (by rw [if_neg hi, if_neg he]; exact hk _ (h2))⟩
  ·exact h.elim
 | store t a v =>
  simp only [vcOp0, vcStore] at *
  obtain ⟨h1, h2, h3, h4⟩ := h
  split at h4
  ·split at h4
   ·exact ⟨h1, h2, h3, h4.1, hk _ (h4.2)⟩
   ·exact h4.elim
  ·split at h4
   ·exact ⟨h1, h2, h3, h4.1, hk _ (h4.2)⟩
   ·exact h4.elim
  ·exact h4.elim
 | build t parts =>
  simp only [vcOp0, vcBuild] at *
  split at h
  ·split at h
   ·exact hk _ (h)
   ·exact h.elim
  ·exact h.elim
 | buildSlice t len parts =>
  simp only [vcOp0, vcBuildSlice] at *
  split at h
  ·exact ⟨h.1, h.2.1, hk _ (h.2.2)⟩
  ·exact h.elim
 | call call =>
  obtain ⟨callee, args, ts⟩ := call
  cases callee with
  | builtin b =>
   simp only [vcOp0, vcCallAny, vcBuiltin] at *
   split at h
   ·simp only [vcLen] at *
    split at h
    ·exact ⟨h.1, hk _ (h.2)⟩
    ·exact ⟨h.1, hk _ (h.2)⟩
    ·exact h.elim
   ·simp only [vcAppend] at *
    split at h
    ·obtain ⟨h1, h2, h3, h4, h5⟩ := h
     split at h5
     ·exact ⟨h1, h2, h3, h4, h5.1, hk _ (h5.2)⟩
     ·exact ⟨h1, h2, h3, h4, hk _ (h5)⟩
     ·exact h5.elim
    ·exact h.elim
   ·simp only [vcMin] at *
    split at h
    ·exact ⟨h.1, hk _ (h.2)⟩
    ·exact h.elim
   ·simp only [vcMin] at *
    split at h
    ·exact ⟨h.1, hk _ (h.2)⟩
    ·exact h.elim
   ·exact h.elim
  | value f => exact call_mono hk h
  | invoke r m =>
   simp only [vcOp0, vcCallAny, vcInvoke] at *
   split at h
   ·obtain ⟨h1, h2, fn, h3, h4⟩ := h
    exact ⟨h1, h2, fn, h3, h4.mono fun r σ' hK => hk _ hK⟩
   ·exact h.elim
 | _ => exact h.elim
theorem X_ext {dst : Option Tmp} {op : Op} {st : St} {K : St → Prop} (h : vcX P dst op st K) : ∃ s, K s ∧ vcX P dst op st (· = s) := by
 unfold vcX at *
 split at h
 ·split at h
  ·simp only [vcLenX] at *
   obtain ⟨h0, h⟩ := h
   split at h <;> first | exact ⟨_, h, h0, rfl⟩ | exact h.elim
  ·exact h.elim
 ·split at h
  ·simp only [vcAppendX] at *
   split at h
   ·obtain ⟨h0, h1, h2, h3⟩ := h
    split at h3 <;> first | exact ⟨_, h3.2, h0, h1, h2, h3.1, rfl⟩ | (obtain ⟨ds, es, h4, h5⟩ := h3; exact ⟨_, h5, h0, h1, h2, ds, es, h4, rfl⟩) | exact h3.elim
   ·exact h.elim
  ·exact h.elim
 ·split at h
  ·simp only [vcClearX] at *
   obtain ⟨h0, h⟩ := h
   split at h
   ·split at h
    ·exact ⟨_, h.2, h0, h.1, rfl⟩
    ·exact h.elim
   ·exact h.elim
  ·exact h.elim
 ·simp only [vcIndexAddrX] at *
  split at h
  ·exact ⟨_, h.2, h.1, rfl⟩
  ·exact h.elim
 ·simp only [vcSliceX] at *
  split at h
  ·split at h
   ·exact ⟨_, h.2, h.1, rfl⟩
   ·exact h.elim
  ·exact h.elim
 ·exact h.elim
theorem X_mono {dst : Option Tmp} {op : Op} {st : St} {K K' : St → Prop} (hk : ∀ s, K s → K' s) (h : vcX P dst op st K) : vcX P dst op st K' := by
 unfold vcX at *
 split at h
 ·split at h
  ·simp only [vcLenX] at *
   obtain ⟨h0, h⟩ := h
   split at h <;> first | exact ⟨h0, hk _ h⟩ | exact h.elim
  ·exact h.elim
 ·split at h
  ·simp only [vcAppendX] at *
   split at h
   ·obtain ⟨h0, h1, h2, h3⟩ := h
    split at h3 <;> first | exact ⟨h0, h1, h2, h3.1, hk _ h3.2⟩ | (obtain ⟨ds, es, h4, h5⟩ := h3; exact ⟨h0, h1, h2, ds, es, h4, hk _ h5⟩) | exact h3.elim
   ·exact h.elim
  ·exact h.elim
 ·split at h
  ·simp only [vcClearX] at *
   obtain ⟨h0, h⟩ := h
   split at h
   ·split at h
    ·exact ⟨h0, h.1, hk _ h.2⟩
    ·exact h.elim
   ·exact h.elim
  ·exact h.elim
 ·simp only [vcIndexAddrX] at *
  split at h
  ·exact ⟨h.1, hk _ h.2⟩
  ·exact h.elim
 ·simp only [vcSliceX] at *
  split at h
  ·split at h
   ·exact ⟨h.1, hk _ h.2⟩
   ·exact h.elim
  ·exact h.elim
 ·exact h.elim
theorem op_ext {c : Cfg} {dst : Option Tmp} {op : Op} {st : St} {K : St → Prop} (hc : isCallOp op = false) (h : vcOp' P c dst op st K) : ∃ s, K s ∧ vcOp' P c dst op st (· = s) := by
 unfold vcOp' at *
 by_cases hy : useY c dst op = true
 ·simp only [hy, if_true] at *
  obtain ⟨sets, ob, h1, hK⟩ := h
  exact ⟨_, hK, sets, ob, h1, rfl⟩
 simp only [hy] at *
 by_cases hu : useX c dst op = true
 ·simp only [hu, if_true] at *; exact X_ext h
 ·simp only [hu] at *; exact op_ext0 hc h
theorem vcOp'_mono {c : Cfg} {dst : Option Tmp} {op : Op} {st : St} {K K' : St → Prop} (hk : ∀ s, K s → K' s) (h : vcOp' P c dst op st K) : vcOp' P c dst op st K' := by
 unfold vcOp' at *
 by_cases hy : useY c dst op = true
 ·simp only [hy, if_true] at *
  obtain ⟨sets, ob, h1, hK⟩ := h
  exact ⟨sets, ob, h1, hk _ hK⟩
 simp only [hy] at *
 by_cases hu : useX c dst op = true
 ·simp only [hu, if_true] at *; exact X_mono hk h
 ·simp only [hu] at *; exact vcOp0_mono hk h
inductive DK where
 | op (f : Fl)
 | pure
 | det
 | pureT
 | detT
 | read
 | pureC
def flD : DK → Fl
 | .op f => f
 | .pure => ⟨false, false, false, false⟩
 | .pureT => ⟨false, false, false, false⟩
 | .detT => ⟨false, false, true, true⟩
 | .det => ⟨false, false, true, true⟩
 | .read => ⟨false, false, true, false⟩
 | .pureC => ⟨false, false, false, false⟩
def wsD (c : Cfg) (dst : Option Tmp) (op : Op) : DK → List Nat
 | .op _ => wsOf c dst op
 | .pureT | .detT => dst.toList ++ opTmps op
 | _ => dst.toList
def vcD (P : Program) (c : Cfg) (dst : Option Tmp) (op : Op) (k : DK) (st : St) (K : St → Prop) : Prop :=
 match k with
 | .op f => isCallOp op = false ∧ flOf c dst st op = f ∧ vcOp' P c dst op st K
 | .pure => match op with
  | .call { callee := .value (.func f), args, .. } => vcArgs args.toList st ∧ ∃ r, (∀ σ, Ct P f (argsD args.toList st) σ fun r' σ' => r' = r ∧ σ' = σ) ∧ K (st.put dst (.d r))
  | _ => False
 | .read => match op with
  | .call { callee := .value (.func f), args, .. } => vcArgs args.toList st ∧ ∃ r, (Ct P f (argsD args.toList st) st.obj fun r' σ' => r' = r ∧ σ' = st.obj) ∧ K (st.put dst (.d r))
  | _ => False
 | .pureC => match op with
  | .call { callee := .value f, args, .. } => match st.rd f with
   | .clo (.func fid) first caps => (∀ d ∈ first ++ caps, d.plain = true) ∧ vcArgs args.toList st ∧ ∃ r, (∀ σ, Ct P fid (first.map D.strip ++ argsD args.toList st ++ caps.map D.strip) σ fun r' σ' => r' = r ∧ σ' = σ) ∧ K (st.put dst (.d r))
   | _ => False
  | _ => False
 | .det => match op with
  | .call { callee := .value (.func f), args, .. } => vcArgs args.toList st ∧ ∃ r σ0, (Ct P f (argsD args.toList st) st.obj fun r' σ' => r' = r ∧ σ' = σ0) ∧ K (({ st with obj := σ0 } : St).put dst (.d r))
  | _ => False
 | .pureT => match dst, op with
  | some d, .call { callee := .value (.func f), args, .. } => (args.toList.filterMap opSlot).Nodup ∧ (∀ x ∈ args.toList, noTup (st.rdS x) = true ∧ (st.rd x).plain = true) ∧
   ∃ r, (∀ σ, Ct P f (args.toList.map (argT st)) σ fun r' σ' => r' = r ∧ σ' = σ) ∧ K (({ st with env := stripIn (args.toList.map opSlot) st.env } : St).put (some d) (.d r))
  | _, _ => False
 | .detT => match dst, op with
  | some d, .call { callee := .value (.func f), args, .. } => (args.toList.filterMap opSlot).Nodup ∧ (∀ x ∈ args.toList, noTup (st.rdS x) = true ∧ (st.rd x).plain = true) ∧
   ∃ r σ0, (Ct P f (args.toList.map (argT st)) st.obj fun r' σ' => r' = r ∧ σ' = σ0) ∧ K (({ st with env := stripIn (args.toList.map opSlot) st.env, obj := σ0 } : St).put (some d) (.d r))
  | _, _ => False
def rsD (c : Cfg) (all : List Oper) (o : Oper) (k : DK) : List Nat := wsD c o.dst o.op k ++ opTmps o.op ++ match o.guard with
 | none => []
 | some (j, _) => (guardOf all j).toList
def dstar (ws : List Nat) (f : Fl) (s : St) : Delta := ⟨ws.map fun t => (t, s.env t), if f.wL then some s.loc else none, if f.wO then some s.obj else none⟩
theorem dstar_env (ws : List Nat) (f : Fl) (s st : St) (t : Nat) : (st.upd (dstar ws f s)).env t = if t ∈ ws then s.env t else st.env t := by
 simp only [St.upd, dstar]
 exact setAll_map ws s.env st.env t
def GDoes (P : Program) (all : List Oper) (o : Oper) (st : St) (K : St → Prop) : Prop :=
 ∀ (w : World) (g : Gh) (tmps : Array Value), Ok w g st (vals tmps) → tmps.size = st.n →
  (Region.wanted o (yielded all.toArray tmps) = true → o.wp P ⟨tmps, []⟩ w (fun a w' => a.defers = [] ∧ ∃ st' g', K st' ∧ Fr w g w' g' ∧ Ok w' g' st' (vals a.tmps) ∧ a.tmps.size = st'.n) (fun _ _ _ => False)) ∧
  (Region.wanted o (yielded all.toArray tmps) = false → ∃ st' g', K st' ∧ Fr w g w g' ∧ Ok w g' st' (vals ((⟨tmps, []⟩ : Act).put o.dst undef).tmps) ∧ tmps.size = st'.n)
structure Step (P : Program) (c : Cfg) (all : List Oper) (o : Oper) (k : DK) (st s : St) : Prop where
 self : s = st.upd (dstar (wsD c o.dst o.op k) (flD k) s)
 go : ∀ st', Agree (rsD c all o k) (flD k) st st' → GDoes P all o st' (· = st'.upd (dstar (wsD c o.dst o.op k) (flD k) s))
theorem flOf0_wr (c : Cfg) (dst : Option Tmp) (st : St) (op : Op) : ((flOf0 c dst st op).wL = true → (flOf0 c dst st op).rL = true) ∧ ((flOf0 c dst st op).wO = true → (flOf0 c dst st op).rO = true) := by
 have ad : ∀ w s, ((addrFl w s).wL = true → (addrFl w s).rL = true) ∧ ((addrFl w s).wO = true → (addrFl w s).rO = true) := by
  intro w s
  cases s with
  | lref n o => simp [addrFl]
  | d d => cases d <;> simp [addrFl]
 cases op <;> simp only [flOf0] <;> try exact ⟨id, id⟩
 ·split <;> simp
 ·split
  ·simp
  ·split <;> simp
 ·exact ad _ _
 ·exact ad _ _
 ·rename_i call
  obtain ⟨callee, args, ts⟩ := call
  cases callee <;> exact ⟨id, id⟩
theorem flOf_wr (c : Cfg) (dst : Option Tmp) (st : St) (op : Op) : ((flOf c dst st op).wL = true → (flOf c dst st op).rL = true) ∧ ((flOf c dst st op).wO = true → (flOf c dst st op).rO = true) := by
 unfold flOf
 split
 ·unfold flY; split <;> first | (simp; done) | (split <;> simp)
 split
 ·unfold flX; split <;> simp
 ·exact flOf0_wr c dst st op
theorem star_eq {ws : List Nat} {f : Fl} {st st' : St} {δ : Delta} (hδ : δ.ok ws f) (hw : (f.wL = true → f.rL = true) ∧ (f.wO = true → f.rO = true)) (ha : Agree ws f st st') : st'.upd δ = st'.upd (dstar ws f (st.upd δ)) := by
 have key : ∀ t, setAll δ.sets st'.env t = if t ∈ ws then setAll δ.sets st.env t else st'.env t := by
  intro t
  split
  ·rename_i ht
   have : ∀ (l : List (Nat × Slot)) (e e' : Nat → Slot), e t = e' t → setAll l e t = setAll l e' t := by
    intro l
    induction l with
    | nil => intro e e' h; exact h
    | cons p l ih =>
     obtain ⟨x, y⟩ := p
     intro e e' h
     exact ih _ _ (by split <;> first | rfl | exact h)
   exact this _ _ _ (ha.env t ht)
  ·rename_i ht
   exact setAll_not fun p hp e => ht (by rw [← e]; exact hδ.sets p hp)
 have h1 : (st'.upd δ).env = (st'.upd (dstar ws f (st.upd δ))).env := by
  funext t
  rw [dstar_env]
  exact key t
 have h2 : (st'.upd δ).loc = (st'.upd (dstar ws f (st.upd δ))).loc := by
  simp only [St.upd, dstar]
  cases hl : f.wL with
  | true =>
   simp only [if_true, Option.getD_some]
   rw [ha.loc (hw.1 hl)]
  | false =>
   cases hd : δ.loc with
   | none => simp
   | some l => have := hδ.loc (by simp [hd]); rw [hl] at this; cases this
 have h3 : (st'.upd δ).obj = (st'.upd (dstar ws f (st.upd δ))).obj := by
  simp only [St.upd, dstar]
  cases hl : f.wO with
  | true =>
   simp only [if_true, Option.getD_some]
   rw [ha.obj (hw.2 hl)]
  | false =>
   cases hd : δ.obj with
   | none => simp
   | some l => have := hδ.obj (by simp [hd]); rw [hl] at this; cases this
 show (⟨_, _, _, _⟩ : St) = ⟨_, _, _, _⟩
 congr 1
theorem agree_refl (rs : List Nat) (f : Fl) (st : St) : Agree rs f st st := ⟨rfl, fun _ _ => rfl, fun _ => rfl, fun _ => rfl⟩
theorem Agree.sub {rs rs' : List Nat} {f : Fl} {st st' : St} (h : Agree rs f st st') (hs : ∀ t, t ∈ rs' → t ∈ rs) : Agree rs' f st st' := ⟨h.n, fun t ht => h.env t (hs t ht), h.loc, h.obj⟩
theorem gdoes_of {all : List Oper} {o : Oper} {st : St} {K : St → Prop} (hw : ∀ (w : World) (g : Gh) (tmps : Array Value), Ok w g st (vals tmps) → Region.wanted o (yielded all.toArray tmps) = true) (h : Does P o st K) : GDoes P all o st K := by
 intro w g tmps hok hn
 refine ⟨fun _ => ?_, fun hf => by rw [hw w g tmps hok] at hf; cases hf⟩
 exact Oper.wp_mono (fun a w' ⟨h1, st', g', h2, h3, h4, h5, _⟩ => ⟨h1, st', g', h2, h3, h4, h5⟩) (h w g tmps hok hn)
theorem setAll_strip {f : FuncId} {args : Array Operand} {ts : Array TypeId} {d : Nat} {r : Slot} {e e' : Nat → Slot} (he : ∀ t, t ∈ opTmps (.call ⟨.value (.func f), args, ts⟩) → e' t = e t) (u : Nat) :
  setAll (((some d).toList ++ opTmps (.call ⟨.value (.func f), args, ts⟩)).map fun t => (t, if t = d then r else stripIn (args.toList.map opSlot) e t)) e' u = if u = d then r else stripIn (args.toList.map opSlot) e' u := by
 rw [setAll_map]
 by_cases hu : u = d
 ·subst hu; simp
 ·simp only [hu, if_false]
  by_cases hm : u ∈ opTmps (.call ⟨.value (.func f), args, ts⟩)
  ·rw [if_pos (by simp [hm])]
   simp only [stripIn, he u hm]
  ·rw [if_neg (by simp [hm, hu])]
   have hc : (args.toList.map opSlot).contains (some u) = false := by
    rw [Bool.eq_false_iff]
    intro hc
    obtain ⟨x, hx, hx'⟩ := List.mem_map.1 (by simpa using hc : some u ∈ args.toList.map opSlot)
    exact hm (mem_ops (by simp [Op.operands, Call.operands]; right; simpa using hx) u hx')
   simp only [stripIn, hc]; rfl
theorem step_of {c : Cfg} {all : List Oper} {o : Oper} {k : DK} {st : St} {K : St → Prop} (hfw : ((flD k).wL = true → (flD k).rL = true) ∧ ((flD k).wO = true → (flD k).rO = true)) (hd : dstOk o st) (h : match o.guard with
  | none => vcD P c o.dst o.op k st K
  | some (j, want) => ∃ t b, guardOf all j = some t ∧ gRead (st.env t) want = some b ∧ (b = want → vcD P c o.dst o.op k st K) ∧ (b = !want → K (st.put o.dst .und))) : ∃ s, K s ∧ Step P c all o k st s := by
 -- the body of the step, taken
 have taken : vcD P c o.dst o.op k st K → ∃ s, K s ∧ s = st.upd (dstar (wsD c o.dst o.op k) (flD k) s) ∧ ∀ st', Agree (rsD c all o k) (flD k) st st' → Does P o st' (· = st'.upd (dstar (wsD c o.dst o.op k) (flD k) s)) := by
  intro h
  have hd' : ∀ st', st'.n = st.n → dstOk o st' := fun st' hn => by unfold dstOk at *; split <;> simp_all
  cases k with
  | op f =>
   obtain ⟨h1, rfl, h3⟩ := h
   obtain ⟨s, hK, hs⟩ := op_ext h1 h3
   have loc : ∀ st', Agree (rsD c all o (.op (flOf c o.dst st o.op))) (flOf c o.dst st o.op) st st' → ∃ δ : Delta, δ.ok (wsOf c o.dst o.op) (flOf c o.dst st o.op) ∧ s = st.upd δ ∧ vcOp' P c o.dst o.op st' (· = st'.upd δ) := by
    intro st' ha
    have hl := op_local (rs := rsD c all o (.op (flOf c o.dst st o.op))) (fun t ht => by simp [rsD, ht]) ha hs
    obtain ⟨s', ⟨δ, d1, d2, rfl⟩, h5⟩ := op_ext h1 hl
    exact ⟨δ, d1, d2.symm, h5⟩
   obtain ⟨δ0, d1, d2, _⟩ := loc st (agree_refl _ _ _)
   refine ⟨s, hK, ?_, fun st' ha => ?_⟩
   ·have := star_eq d1 (flOf_wr c o.dst st o.op) (agree_refl (wsOf c o.dst o.op) (flOf c o.dst st o.op) st)
    rw [← d2] at this
    exact this
   ·obtain ⟨δ, e1, e2, e3⟩ := loc st' ha
    have := star_eq e1 (flOf_wr c o.dst st o.op) (ha.sub (rs' := wsOf c o.dst o.op) (fun t ht => by simp [rsD, wsD, ht]))
    rw [← e2] at this
    simp only [wsD, flD]
    rw [← this]
    exact does_op ⟨hd' st' ha.n, e3⟩
  | pure =>
   obtain ⟨dst, op, ty, pos, after, guard⟩ := o
   simp only [vcD] at h
   split at h
   ·rename_i f args ts _
    obtain ⟨h1, r, h2, h3⟩ := h
    have ups : ∀ st' : St, st'.upd (dstar dst.toList ⟨false, false, false, false⟩ (st.put dst (.d r))) = st'.put dst (.d r) := by
     intro st'
     cases dst with
     | none => rfl
     | some d =>
      refine St.mk.injEq .. |>.mpr ⟨rfl, ?_, rfl, rfl⟩
      funext u
      show setAll [(d, (st.put (some d) (.d r)).env d)] st'.env u = _
      simp [setAll, St.put, St.set]
    refine ⟨_, h3, (ups st).symm, fun st' ha => ?_⟩
    simp only [wsD, flD]
    rw [ups st']
    have hargs : ∀ x ∈ args.toList, st'.rd x = st.rd x := fun x hx => agree_rd ha fun t ht => by
     have := mem_ops (op := .call ⟨.value (.func f), args, ts⟩) (x := x) (by simp [Op.operands, Call.operands]; right; simpa using hx) t ht
     simp [rsD, this]
    refine does_call (.func f) args ts (hd' st' ha.n) rfl ?_
    unfold vcCall
    simp only [rd_func]
    refine ⟨by simp, fun x hx => by rw [hargs x hx]; exact h1 x hx, ?_⟩
    have e1 : argsD args.toList st' = argsD args.toList st := List.map_congr_left fun x hx => argOf_congr (hargs x hx)
    rw [e1]
    simpa using (h2 st'.obj).mono fun r' σ' ⟨a, b⟩ => by subst a; subst b; rfl
   ·exact h.elim
  | pureC =>
   obtain ⟨dst, op, ty, pos, after, guard⟩ := o
   simp only [vcD] at h
   split at h
   ·rename_i f args ts _
    split at h
    ·rename_i fid first caps hf
     obtain ⟨h0, h1, r, h2, h3⟩ := h
     have ups : ∀ st' : St, st'.upd (dstar dst.toList ⟨false, false, false, false⟩ (st.put dst (.d r))) = st'.put dst (.d r) := by
      intro st'
      cases dst with
      | none => rfl
      | some d =>
       refine St.mk.injEq .. |>.mpr ⟨rfl, ?_, rfl, rfl⟩
       funext u
       show setAll [(d, (st.put (some d) (.d r)).env d)] st'.env u = _
       simp [setAll, St.put, St.set]
     refine ⟨_, h3, (ups st).symm, fun st' ha => ?_⟩
     simp only [wsD, flD]
     rw [ups st']
     have hargs : ∀ x ∈ args.toList, st'.rd x = st.rd x := fun x hx => agree_rd ha fun t ht => by
      have := mem_ops (op := .call ⟨.value f, args, ts⟩) (x := x) (by simp [Op.operands, Call.operands]; right; simpa using hx) t ht
      simp [rsD, this]
     have hff : st'.rd f = st.rd f := agree_rd ha fun t ht => by
      have := mem_ops (op := .call ⟨.value f, args, ts⟩) (x := f) (by simp [Op.operands, Call.operands]) t ht
      simp [rsD, this]
     refine does_call f args ts (hd' st' ha.n) rfl ?_
     unfold vcCall
     rw [hff, hf]
     refine ⟨h0, fun x hx => by rw [hargs x hx]; exact h1 x hx, ?_⟩
     have e1 : argsD args.toList st' = argsD args.toList st := List.map_congr_left fun x hx => argOf_congr (hargs x hx)
     rw [e1]
     exact (h2 st'.obj).mono fun r' σ' ⟨a, b⟩ => by subst a; subst b; rfl
    ·exact h.elim
   ·exact h.elim
  | read =>
   obtain ⟨dst, op, ty, pos, after, guard⟩ := o
   simp only [vcD] at h
   split at h
   ·rename_i f args ts _
    obtain ⟨h1, r, h2, h3⟩ := h
    have ups : ∀ st' : St, st'.upd (dstar dst.toList ⟨false, false, true, false⟩ (st.put dst (.d r))) = st'.put dst (.d r) := by
     intro st'
     cases dst with
     | none => rfl
     | some d =>
      refine St.mk.injEq .. |>.mpr ⟨rfl, ?_, rfl, rfl⟩
      funext u
      show setAll [(d, (st.put (some d) (.d r)).env d)] st'.env u = _
      simp [setAll, St.put, St.set]
    refine ⟨_, h3, (ups st).symm, fun st' ha => ?_⟩
    simp only [wsD, flD]
    rw [ups st']
    have hargs : ∀ x ∈ args.toList, st'.rd x = st.rd x := fun x hx => agree_rd ha fun t ht => by
     have := mem_ops (op := .call ⟨.value (.func f), args, ts⟩) (x := x) (by simp [Op.operands, Call.operands]; right; simpa using hx) t ht
     simp [rsD, this]
    refine does_call (.func f) args ts (hd' st' ha.n) rfl ?_
    unfold vcCall
    simp only [rd_func]
    refine ⟨by simp, fun x hx => by rw [hargs x hx]; exact h1 x hx, ?_⟩
    have e1 : argsD args.toList st' = argsD args.toList st := List.map_congr_left fun x hx => argOf_congr (hargs x hx)
    rw [e1]
    rw [show st'.obj = st.obj from ha.obj rfl]
    simpa using h2.mono fun r' σ' ⟨a, b⟩ => by subst a; subst b; rw [← show st'.obj = st.obj from ha.obj rfl]
   ·exact h.elim
  | det =>
   obtain ⟨dst, op, ty, pos, after, guard⟩ := o
   simp only [vcD] at h
   split at h
   ·rename_i f args ts _
    obtain ⟨h1, r, σ0, h2, h3⟩ := h
    have ups : ∀ st' : St, st'.upd (dstar dst.toList ⟨false, false, true, true⟩ (({ st with obj := σ0 } : St).put dst (.d r))) = ({ st' with obj := σ0 } : St).put dst (.d r) := by
     intro st'
     cases dst with
     | none => rfl
     | some d =>
      refine St.mk.injEq .. |>.mpr ⟨rfl, ?_, rfl, rfl⟩
      funext u
      show setAll [(d, (({ st with obj := σ0 } : St).put (some d) (.d r)).env d)] st'.env u = _
      simp [setAll, St.put, St.set]
    refine ⟨_, h3, (ups st).symm, fun st' ha => ?_⟩
    simp only [wsD, flD]
    rw [ups st']
    have hargs : ∀ x ∈ args.toList, st'.rd x = st.rd x := fun x hx => agree_rd ha fun t ht => by
     have := mem_ops (op := .call ⟨.value (.func f), args, ts⟩) (x := x) (by simp [Op.operands, Call.operands]; right; simpa using hx) t ht
     simp [rsD, this]
    refine does_call (.func f) args ts (hd' st' ha.n) rfl ?_
    unfold vcCall
    simp only [rd_func]
    refine ⟨by simp, fun x hx => by rw [hargs x hx]; exact h1 x hx, ?_⟩
    have e1 : argsD args.toList st' = argsD args.toList st := List.map_congr_left fun x hx => argOf_congr (hargs x hx)
    have e2 : st'.obj = st.obj := ha.obj rfl
    rw [e1, e2]
    simpa using h2.mono fun r' σ' ⟨a, b⟩ => by subst a; subst b; rfl
   ·exact h.elim
  | pureT =>
   obtain ⟨dst, op, ty, pos, after, guard⟩ := o
   simp only [vcD] at h
   split at h
   ·rename_i d f args ts _
    obtain ⟨h0, h1, r, h2, h3⟩ := h
    have ups : ∀ st' : St, (∀ t, t ∈ opTmps (.call ⟨.value (.func f), args, ts⟩) → st'.env t = st.env t) →
      st'.upd (dstar ((some d).toList ++ opTmps (.call ⟨.value (.func f), args, ts⟩)) ⟨false, false, false, false⟩ (({ st with env := stripIn (args.toList.map opSlot) st.env } : St).put (some d) (.d r))) = ({ st' with env := stripIn (args.toList.map opSlot) st'.env } : St).put (some d) (.d r) := by
     intro st' he
     refine St.mk.injEq .. |>.mpr ⟨rfl, ?_, rfl, rfl⟩
     funext u
     exact setAll_strip he u
    refine ⟨_, h3, (ups st fun _ _ => rfl).symm, fun st' ha => ?_⟩
    have he : ∀ t, t ∈ opTmps (.call ⟨.value (.func f), args, ts⟩) → st'.env t = st.env t := fun t ht => ha.env t (by simp [rsD, ht])
    simp only [wsD, flD]
    rw [ups st' he]
    have hargs : ∀ x ∈ args.toList, st'.rd x = st.rd x := fun x hx => agree_rd ha fun t ht => by
     have := mem_ops (op := .call ⟨.value (.func f), args, ts⟩) (x := x) (by simp [Op.operands, Call.operands]; right; simpa using hx) t ht
     simp [rsD, this]
    have hargS : ∀ x ∈ args.toList, st'.rdS x = st.rdS x := fun x hx => agree_rdS ha fun t ht => by
     have := mem_ops (op := .call ⟨.value (.func f), args, ts⟩) (x := x) (by simp [Op.operands, Call.operands]; right; simpa using hx) t ht
     simp [rsD, this]
    refine does_callT f args ts (hd' st' ha.n) rfl ?_
    unfold vcCallT
    refine ⟨h0, fun x hx => by rw [hargs x hx, hargS x hx]; exact h1 x hx, ?_⟩
    have e1 : args.toList.map (argT st') = args.toList.map (argT st) := List.map_congr_left fun x hx => argT_congr (hargs x hx)
    rw [e1]
    exact (h2 st'.obj).mono fun r' σ' ⟨a, b⟩ => by subst a; subst b; rfl
   ·exact h.elim
  | detT =>
   obtain ⟨dst, op, ty, pos, after, guard⟩ := o
   simp only [vcD] at h
   split at h
   ·rename_i d f args ts _
    obtain ⟨h0, h1, r, σ0, h2, h3⟩ := h
    have ups : ∀ st' : St, (∀ t, t ∈ opTmps (.call ⟨.value (.func f), args, ts⟩) → st'.env t = st.env t) →
      st'.upd (dstar ((some d).toList ++ opTmps (.call ⟨.value (.func f), args, ts⟩)) ⟨false, false, true, true⟩ (({ st with env := stripIn (args.toList.map opSlot) st.env, obj := σ0 } : St).put (some d) (.d r))) = ({ st' with env := stripIn (args.toList.map opSlot) st'.env, obj := σ0 } : St).put (some d) (.d r) := by
     intro st' he
     refine St.mk.injEq .. |>.mpr ⟨rfl, ?_, rfl, rfl⟩
     funext u
     exact setAll_strip he u
    refine ⟨_, h3, (ups st fun _ _ => rfl).symm, fun st' ha => ?_⟩
    have he : ∀ t, t ∈ opTmps (.call ⟨.value (.func f), args, ts⟩) → st'.env t = st.env t := fun t ht => ha.env t (by simp [rsD, ht])
    simp only [wsD, flD]
    rw [ups st' he]
    have hargs : ∀ x ∈ args.toList, st'.rd x = st.rd x := fun x hx => agree_rd ha fun t ht => by
     have := mem_ops (op := .call ⟨.value (.func f), args, ts⟩) (x := x) (by simp [Op.operands, Call.operands]; right; simpa using hx) t ht
     simp [rsD, this]
    have hargS : ∀ x ∈ args.toList, st'.rdS x = st.rdS x := fun x hx => agree_rdS ha fun t ht => by
     have := mem_ops (op := .call ⟨.value (.func f), args, ts⟩) (x := x) (by simp [Op.operands, Call.operands]; right; simpa using hx) t ht
     simp [rsD, this]
    refine does_callT f args ts (hd' st' ha.n) rfl ?_
    unfold vcCallT
    refine ⟨h0, fun x hx => by rw [hargs x hx, hargS x hx]; exact h1 x hx, ?_⟩
    have e1 : args.toList.map (argT st') = args.toList.map (argT st) := List.map_congr_left fun x hx => argT_congr (hargs x hx)
    have e2 : st'.obj = st.obj := ha.obj rfl
    rw [e1, e2]
    exact h2.mono fun r' σ' ⟨a, b⟩ => by subst a; subst b; rfl
   ·exact h.elim
 split at h
 ·rename_i hg
  obtain ⟨s, h1, h2, h3⟩ := taken h
  exact ⟨s, h1, h2, fun st' ha => gdoes_of (fun w g tmps _ => by simp [Region.wanted, hg]) (h3 st' ha)⟩
 ·rename_i j want hg
  obtain ⟨t, b, h1, h2, h3, h4⟩ := h
  have hin : t ∈ rsD c all o k := by simp [rsD, hg, h1]
  by_cases hb : b = want
  ·obtain ⟨s, k1, k2, k3⟩ := taken (h3 hb)
   refine ⟨s, k1, k2, fun st' ha => gdoes_of (fun w g tmps hok => ?_) (k3 st' ha)⟩
   have := wanted_of (all := all) (j := j) (want := want) hok h1 (by rw [ha.env t hin]; exact h2)
   simp [Region.wanted, hg, this, hb]
  ·have hb' : b = !want := by cases b <;> cases want <;> simp_all
   have hdw : ∀ d, o.dst = some d → d ∈ wsD c o.dst o.op k := by
    intro d e
    cases k <;> simp [wsD, wsOf, e]
   have same : ∀ st', Agree (rsD c all o k) (flD k) st st' → st'.upd (dstar (wsD c o.dst o.op k) (flD k) (st.put o.dst .und)) = st'.put o.dst .und := by
    intro st' ha
    refine St.mk.injEq .. |>.mpr ⟨by cases o.dst <;> rfl, ?_, ?_, ?_⟩
    ·funext u
     have := dstar_env (wsD c o.dst o.op k) (flD k) (st.put o.dst .und) st' u
     simp only [St.upd, dstar] at this
     rw [dstar]
     simp only
     rw [this]
     have hin' : u ∈ wsD c o.dst o.op k → st'.env u = st.env u := fun hu => ha.env u (by simp [rsD, hu])
     cases hd' : o.dst with
     | none =>
      rw [hd'] at hin'
      split
      ·rename_i hu; exact (hin' hu).symm
      ·rfl
     | some d =>
      rw [hd'] at hin'
      have hdw' := hdw d hd'
      rw [hd'] at hdw'
      simp only [St.put, St.set]
      by_cases hu : u = d
      ·subst hu; simp [hdw']
      ·simp only [hu, if_false]
       split
       ·rename_i h; exact (hin' h).symm
       ·rfl
    ·simp only [dstar]
     cases hl : (flD k).wL with
     | true => have := ha.loc (hfw.1 hl); cases o.dst <;> simp [St.put, St.set, this]
     | false => cases o.dst <;> simp [St.put, St.set]
    ·simp only [dstar]
     cases hl : (flD k).wO with
     | true => have := ha.obj (hfw.2 hl); cases o.dst <;> simp [St.put, St.set, this]
     | false => cases o.dst <;> simp [St.put, St.set]
   refine ⟨_, h4 hb', (same st (agree_refl _ _ _)).symm, fun st' ha => ?_⟩
   rw [same st' ha]
   intro w g tmps hok hn
   have hy := wanted_of (all := all) (j := j) (want := want) hok h1 (by rw [ha.env t hin]; exact h2)
   have hw : Region.wanted o (yielded all.toArray tmps) = false := by simp [Region.wanted, hg, hy, hb]
   refine ⟨fun h => (by rw [hw] at h; cases h), fun _ => ?_⟩
   have hdst : ∀ d, o.dst = some d → d < tmps.size := by
    intro d hd'
    have hd2 : d < st.n := by simpa [dstOk, hd'] using hd
    rw [hn, ha.n]; exact hd2
   refine ⟨_, g, rfl, Fr.refl w g, ?_, by rw [put_n]; exact hn⟩
   rw [vals_put tmps [] o.dst undef hdst]
   exact hok.put o.dst .und undef fun t _ => und_ok t
end
end Go.Vm

