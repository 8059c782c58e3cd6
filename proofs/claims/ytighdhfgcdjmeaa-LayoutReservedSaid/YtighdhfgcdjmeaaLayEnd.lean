import Derived.Test.YtighdhfgcdjmeaaRows
import Derived.Test.YtighdhfgcdjmeaaWkL22
import Derived.Test.YtighdhfgcdjmeaaVm23
import Derived.ProofKit
namespace Go.Proofs.Ytighdhfgcdjmeaa
open Go Go.Vm Go.ChangeShapes Go.WideShapes Go.ChangeAt Go.RowKit
theorem Try.own : ownKnob Try.prog.godebug = none := by kernel_rfl
theorem Try.laidOut : laidOutB Try.prog = true := by kernel_rfl
abbrev pI (n : Int) : Prop := -9223372036854775808 ≤ n ∧ n ≤ 9223372036854775807
abbrev pT (_ : Bool) : Prop := True
abbrev pS (s : ByteArray) : Prop := s.size ≤ maxLen
theorem k22 : Try.prog.cellsOf 22 = 1 := by kernel_rfl
theorem Zx : Try.prog.cellsOf 64 = 14 := by kernel_rfl
theorem k3 : Try.prog.cellsOf 3 = 1 := by kernel_rfl
theorem o3 : Opens Try.prog 3 D.int pI := Ee Try.underlying3
theorem k9 : Try.prog.cellsOf 9 = 1 := by kernel_rfl
theorem o9 : Opens Try.prog 9 D.str pS := Gd Try.underlying9
theorem k24 : Try.prog.cellsOf 24 = 1 := by kernel_rfl
abbrev Zj (l : (List ByteArray)) : Prop := l.length ≤ maxLen ∧ ∀ x ∈ l, pS x
theorem o24 : Opens Try.prog 24 (fun l : (List ByteArray) => .sl false (l.map D.str)) Zj := iM Try.underlying24 o9 (by rw [k9]; decide)
theorem k34 : Try.prog.cellsOf 34 = 1 := by kernel_rfl
theorem k62 : Try.prog.cellsOf 62 = 2 := by kernel_rfl
abbrev p62 (s : AT) : Prop := pS s.name ∧ pS s.value
theorem o62 : Opens Try.prog 62 bR p62 :=
 (gV Try.underlying62 (bL (m := 1) rfl k9 o9 (bL (m := 1) rfl k9 o9 (by rw [k62]; exact jP)))).map (fun a => ⟨a.1, a.2.1⟩) (fun a => rfl) (fun a h => ⟨h.1, h.2.1⟩)
abbrev p34 (l : (List AT)) : Prop := l.length ≤ maxLen ∧ ∀ x ∈ l, p62 x
theorem o34 : Opens Try.prog 34 (fun l : (List AT) => .sl false (l.map bR)) p34 := iM Try.underlying34 o62 (by rw [k62]; decide)
theorem k35 : Try.prog.cellsOf 35 = 1 := by kernel_rfl
theorem k91 : Try.prog.cellsOf 91 = 2 := by kernel_rfl
abbrev Zp (s : PI) : Prop := pS s.name ∧ pI s.value
theorem o91 : Opens Try.prog 91 bH Zp :=
 (gV Try.underlying91 (bL (m := 1) rfl k9 o9 (bL (m := 1) rfl k3 o3 (by rw [k91]; exact jP)))).map (fun a => ⟨a.1, a.2.1⟩) (fun a => rfl) (fun a h => ⟨h.1, h.2.1⟩)
abbrev p35 (l : (List PI)) : Prop := l.length ≤ maxLen ∧ ∀ x ∈ l, Zp x
theorem o35 : Opens Try.prog 35 (fun l : (List PI) => .sl false (l.map bH)) p35 := iM Try.underlying35 o91 (by rw [k91]; decide)
theorem k37 : Try.prog.cellsOf 37 = 6 := by kernel_rfl
theorem k4 : Try.prog.cellsOf 4 = 1 := by kernel_rfl
theorem o4 : Opens Try.prog 4 D.bool pT := Aj Try.underlying4
abbrev p37 (s : OPT) : Prop := pI s.enter ∧ pI s.leave ∧ pI s.move ∧ pI s.mode ∧ pT s.appear ∧ pT s.moves
theorem o37 : Opens Try.prog 37 Uk p37 :=
 (gV Try.underlying37 (bL (m := 1) rfl k3 o3 (bL (m := 1) rfl k3 o3 (bL (m := 1) rfl k3 o3 (bL (m := 1) rfl k3 o3 (bL (m := 1) rfl k4 o4 (bL (m := 1) rfl k4 o4 (by rw [k37]; exact jP)))))))).map (fun a => ⟨a.1, a.2.1, a.2.2.1, a.2.2.2.1, a.2.2.2.2.1, a.2.2.2.2.2.1⟩) (fun a => rfl) (fun a h => ⟨h.1, h.2.1, h.2.2.1, h.2.2.2.1, h.2.2.2.2.1, h.2.2.2.2.2.1⟩)
abbrev p64 (s : FL) : Prop := pI s.deep ∧ pI s.kind ∧ pS s.tag ∧ pS s.key ∧ pS s.text ∧ Zj s.classes ∧ p34 s.attrs ∧ p35 s.styles ∧ p37 s.opts
theorem o64 : Opens Try.prog 64 vL p64 :=
 (gV Try.underlying64 (bL (m := 1) rfl k3 o3 (bL (m := 1) rfl k3 o3 (bL (m := 1) rfl k9 o9 (bL (m := 1) rfl k9 o9 (bL (m := 1) rfl k9 o9 (bL (m := 1) rfl k24 o24 (bL (m := 1) rfl k34 o34 (bL (m := 1) rfl k35 o35 (bL (m := 6) rfl k37 o37 (by rw [Zx]; exact jP))))))))))).map (fun a => ⟨a.1, a.2.1, a.2.2.1, a.2.2.2.1, a.2.2.2.2.1, a.2.2.2.2.2.1, a.2.2.2.2.2.2.1, a.2.2.2.2.2.2.2.1, a.2.2.2.2.2.2.2.2.1⟩) (fun a => rfl) (fun a h => ⟨h.1, h.2.1, h.2.2.1, h.2.2.2.1, h.2.2.2.2.1, h.2.2.2.2.2.1, h.2.2.2.2.2.2.1, h.2.2.2.2.2.2.2.1, h.2.2.2.2.2.2.2.2.1⟩)
abbrev p22 (l : (List FL)) : Prop := l.length ≤ maxLen ∧ ∀ x ∈ l, p64 x
theorem o22 : Opens Try.prog 22 (fun l : (List FL) => .sl false (l.map vL)) p22 := iM Try.underlying22 o64 (by rw [Zx]; decide)
set_option maxRecDepth 100000 in
theorem qF (os : Os) (started : os.Started) (H : Type) (enc : TypeId × Value → H) :
  ReturnsInHanded {} Try.checked os 3 .any (Rows.layoutReservedSpec.pre6 enc Try.prog Try.f3 Rows.layoutReservedRow.domain false) (Rows.layoutReservedSpec.post enc Try.prog Try.f3 false true false false) := by
 refine returnsInHanded_of_change (C := Try.checked) Try.own started (by kernel_rfl) Try.func3
  (ChangeSpec.witness6 (enc := enc) (C := Try.checked) false ⟨#[], #[.slice none 0 0, .int .i64 0, .int .i64 0], []⟩ 8 (by kernel_rfl) (by kernel_rfl) (by kernel_rfl) (by kernel_rfl)) ?_
 intro W base args ds gs before hval0 hW hcnd _;have hval : ∀ (j : Nat) t v, Try.f3.params[j]? = some t → args[j]? = some v → Value.okWide Try.prog W .any base t v := hval0;have hW' := hW;obtain ⟨p, q, hA0, hV, rfl, hfz, hnd⟩ := hW;have hA : DataW.TrodAll enc Try.prog W 0 (fun _ => true) true Try.f3.params.toList args.toList ds p := hA0;rw [Try.params3] at hA hval;obtain ⟨v0, v1, v2, d0, d1, d2, p0, p1, p2, rfl, rfl, rfl, h0, h1, h2⟩ := trodAll_three hA;obtain ⟨rfl, rfl⟩ := trodVars_none hV;have c0 : v0.oneCell' = true := by obtain ⟨a, n, c, rfl⟩ := okWide_slice Try.underlying22 (hval 0 22 v0 rfl rfl); rfl
 have c1 : v1.oneCell' = true := by obtain ⟨x, rfl, _⟩ := open_int Try.underlying3 (hval 1 3 v1 rfl rfl) h1; rfl
 have c2 : v2.oneCell' = true := by obtain ⟨x, rfl, _⟩ := open_int Try.underlying3 (hval 2 3 v2 rfl rfl) h2; rfl
 obtain ⟨x0, k0, r0, w0⟩ := qW o22 (fun _ => rfl) c0 h0;obtain ⟨x1, k1, r1, w1⟩ := qW o3 (fun _ => rfl) c1 h1;obtain ⟨x2, k2, r2, w2⟩ := qW o3 (fun _ => rfl) c2 h2;clear hA0 hval0;simp only [List.append_nil] at hW';have hlt : ∀ x ∈ p0 ++ p1 ++ p2, x.block < W.heap.size := fun x hx => by simpa using hW'.lt x (by simpa using hx)
 have hct := (Ep x0 x1 x2 ([]) (by simpa [maxLen] using k0.1) (fun a h => by obtain ⟨_, _, _, _, _, h6, h7, h8, _⟩ := k0.2 a h; exact ⟨by simpa [maxLen] using h6.1, by simpa [maxLen] using h7.1, by simpa [maxLen] using h8.1⟩)).mono (Q' := fun r _ => r = .bool true) fun r σ' h => h;refine (Tn (vs := #[v0, v1, v2]) hct rfl (fun i d v e1 e2 => ?_)).mono fun e W' ⟨he, hnx⟩ => ?_
 ·match i with
  | 0 => simp at e1 e2; subst e1; subst e2; exact ⟨r0, w0⟩
  | 1 => simp at e1 e2; subst e1; subst e2; exact ⟨r1, w1⟩
  | 2 => simp at e1 e2; subst e1; subst e2; exact ⟨r2, w2⟩
  | i + 3 => simp at e1
 ·subst he;refine ⟨_, rfl, _, _, _, [] ++ [], p0 ++ (p1 ++ p2), [], hW', ?_, ?_, rfl, hnx.frame _, fun h => by cases h⟩
  ·exact trodAll_mk1 (shut_bool Try.underlying4 true)
  ·exact trodAll_mk3 (Below.trod Try.laidOut (by kernel_rfl) (of_decide_eq_true (by kernel_rfl)) h0 hnx fun x hx => hlt x (by simp [hx]))
    (Below.trod Try.laidOut (by kernel_rfl) (of_decide_eq_true (by kernel_rfl)) h1 hnx fun x hx => hlt x (by simp [hx]))
    (Below.trod Try.laidOut (by kernel_rfl) (of_decide_eq_true (by kernel_rfl)) h2 hnx fun x hx => hlt x (by simp [hx]))
theorem reserved_holds : Rows.LayoutReservedSaid :=
 OpenClaim.holds_of_wide 3 Try.f3 rfl rfl rfl rfl rfl rfl rfl ⟨rfl, rfl, rfl, rfl, rfl⟩ rfl rfl rfl rfl rfl (by kernel_rfl) Try.func3 (by kernel_rfl)
  (of_decide_eq_true (by kernel_rfl)) (by unfold Func.isWrapper; first | (rw [if_pos (by decide +kernel)]; kernel_rfl) | (rw [if_neg (by decide +kernel)]; exact ⟨rfl, rfl⟩))
  (fun os started H enc _ => qF os started H enc)
#print axioms reserved_holds
end Go.Proofs.Ytighdhfgcdjmeaa

