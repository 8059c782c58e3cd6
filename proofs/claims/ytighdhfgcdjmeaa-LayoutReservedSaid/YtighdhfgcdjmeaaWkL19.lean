import Derived.Test.YtighdhfgcdjmeaaWkL17
namespace Go.Proofs.Ytighdhfgcdjmeaa
open Go Go.Vm
set_option maxRecDepth 20000
set_option linter.all false
set_option maxHeartbeats 8000000
theorem Il (N : Nat) (x : ByteArray) : Sc N (D.str x) := Sc.v _
theorem Md (N : Nat) (x : AT) : Sc N (bR x) := Sc.agg fun d hd => by
 simp at hd; rcases hd with rfl | rfl <;> exact Sc.v _
theorem Lq (N : Nat) (x : PI) : Sc N (bH x) := Sc.agg fun d hd => by
 simp at hd; rcases hd with rfl | rfl <;> exact Sc.v _
theorem Nv (N : Nat) (f : FL) : Sc N (yO (kE f)) := Sc.agg fun d hd => by
 simp only [List.mem_cons, List.not_mem_nil, or_false] at hd;rcases hd with rfl | rfl | rfl | rfl | rfl | rfl | rfl | rfl | rfl | rfl | rfl | rfl | rfl | rfl <;> first
  | exact Sc.v _
  | exact Sc.sl (Sc.map fun a => Il _ a)
  | exact Sc.sl (Sc.map fun a => Md _ a)
  | exact Sc.sl (Sc.map fun a => Lq _ a)
  | exact Sc.sl fun d hd => by cases hd
theorem wQ (f : FL) (σ : List (List D)) (h : FO f) : Ct Try.prog 16 [vL f] σ (fun r σ' => r = yO (kE f) ∧ σ' = σ) :=
 (Kq f σ h).trim fun r σ' ⟨hr, J, hs⟩ => ⟨σ, J, hs, rfl, by rw [hr]; exact Nv _ _, fun n cs h => .inl h, hr, rfl⟩
def hD (v : VN) : Nat := 1 + (v.kids.attach.map fun k => hD k.1).sum
termination_by SizeOf.sizeOf v
decreasing_by
 have h := List.sizeOf_lt_of_mem k.2;cases v; simp at h ⊢; omega
theorem nT (v : VN) : hD v = 1 + (v.kids.map hD).sum := by rw [hD]; simp
abbrev VF (v : VN) : Prop := v.classes.length ≤ 4 ∧ v.attrs.length ≤ 4 ∧ v.styles.length ≤ 4 ∧ v.text.size ≤ 70
inductive VG : VN → Prop
 | mk (v : VN) (h : VF v) (hk : ∀ k ∈ v.kids, VG k) : VG v
theorem yY (f : FL) (vs : List VN) : VF { kE f with kids := vs } := ⟨yL _ _, wW _ _, yP _ _, Mu _ _⟩
abbrev Qu (l : List FL) (i : Nat) (d : Int) : Prop := ∀ σ : List (List D), Ct Try.prog 17 [.sl false (l.map vL), D.int i, D.int d] σ (fun r σ' => (∃ (vs : List VN) (j : Nat), r = .tup [.sl false (vs.map xR), D.int j] ∧ i ≤ j ∧ j ≤ l.length ∧ (∀ v ∈ vs, VG v) ∧ (vs.map hD).sum = j - i) ∧ σ' = σ)
theorem zF (l : List FL) (i : Nat) (d : Int) (σ : List (List D)) (hl : l.length ≤ 25) (hf : ∀ f ∈ l, FO f) (hi : i ≤ l.length) (ih : ∀ (i2 : Nat) (d2 : Int), i < i2 → i2 ≤ l.length → Qu l i2 d2) : Ct Try.prog 17 [.sl false (l.map vL), D.int i, D.int d] σ (fun r σ' => (∃ (vs : List VN) (j : Nat), r = .tup [.sl false (vs.map xR), D.int j] ∧ i ≤ j ∧ j ≤ l.length ∧ (∀ v ∈ vs, VG v) ∧ (vs.map hD).sum = j - i) ∧ σ' = σ) := by
 refine zf (rs:=[.tmp 6,.tmp 7]) Try.func17 Try.ntmps17 Try.results17 ?_;simp only [aM];refine zr ⟨[8,41],[],[],[],[]⟩ fun _ _ Z=>?_;simp (disch:=omega);and_intros<;>(try omega);apply Z;refine zr ⟨[8,41],[],[],[],[]⟩ fun _ _ Z=>?_;simp (disch:=omega);and_intros<;>(try omega);apply Z;apply aH;apply aN;refine zk [0,1,2,6,7,8] ?_;refine cN (fun (p : List VN × Nat) => [(8, .d (.sl true (p.1.map xR))), (1, .d (.v (.int .i64 (p.2 : Int)))), (9, .d (.any))]) [1, 8, 9, 10, 11, 12, 13, 14, 15, 16, 17, 18, 19, 20, 21, 22, 23, 24, 25, 26, 27, 28, 29, 30, 31, 32, 33, 34, 35, 36, 37, 38, 39, 40, 41, 42, 43, 44] (fun (p : List VN × Nat) => i ≤ p.2 ∧ p.2 ≤ l.length ∧ (∀ v ∈ p.1, VG v) ∧ (p.1.map hD).sum = p.2 - i ∧ p.1.length ≤ p.2 - i) (fun (p : List VN × Nat) => l.length - p.2) (([], i)) (by simp <;> rfl) ?_ ?_ ?_
 ·simp
 ·simp; omega
 rintro ⟨vs, k⟩ ⟨h1, h2, h3, h4, h5⟩;simp only [List.cons_append, List.nil_append];dsimp only at h1 h2 h3 h4 h5;apply aH;refine zk [0,1,2,6,7,8,9] ?_;refine Ms ⟨[8,41],[],[],[],[]⟩ fun all hall _ Z=>?_;have ga4 : bK all 4 = some 14 := hall 4;refine aC 5 fun _ Y=>?_;simp (disch:=omega)[ga4];and_intros<;>(try omega);apply Y;simp only [List.drop];refine eC 14 (by simp <;> rfl) ?_;refine ⟨fun g1 => ?_, fun g1 => ?_⟩
 ·try simp at g1
  simp (disch:=omega)[ga4];and_intros<;>(try omega);apply Z;refine zi ?_;refine ⟨fun c2=>?_,fun c2=>?_⟩
  ·try simp at c2
   apply aK;apply aE;apply aN;refine zk [0,1,2,6,7,8,9] ?_;refine zr ⟨[8,41],[],[],[],[]⟩ fun _ _ Z=>?_;refine aC 4 fun _ Y=>?_;simp (disch:=omega);and_intros<;>(try omega);apply Y;simp only [List.drop];refine aD fun _ Y=>?_;simp (disch:=omega);refine cD (wQ l[k] _ (hf _ (List.getElem_mem _))) ?_;apply Y;simp (disch:=omega);and_intros<;>(try omega);apply Z;refine zk [0,1,2,6,7,8,9] ?_;refine zr ⟨[8,41],[],[],[],[]⟩ fun _ _ Z=>?_;refine aC 8 fun _ Y=>?_;simp (disch:=omega);and_intros<;>(try omega);apply Y;simp only [List.drop];refine aD fun _ Y=>?_;simp (disch:=omega);refine Tu (ih (k + 1) l[k].deep (by omega) (by omega) _) ?_;rintro _ τ1 ⟨⟨ws, j, hr, hj1, hj2, hg, hs⟩, hτ⟩;subst hr hτ;apply Y;simp (disch:=omega);and_intros<;>(try omega);apply Z;refine zk [0,1,2,6,7,8,9] ?_;refine zt ⟨[8,41],[],[],[],[]⟩ fun _ _ Z=>?_;simp (disch:=omega);and_intros<;>(try omega);apply Z;apply aZ;refine bT ((vs ++ [{ kE l[k] with kids := ws }], j)) ?_ ?_ (bI rfl ?_ (by simp) (by simp))
   ·refine ⟨by omega, hj2, fun v hv => ?_, ?_, ?_⟩
    ·rcases List.mem_append.1 hv with hv | hv
     ·exact h3 v hv
     ·rw [List.mem_singleton.1 hv]; exact .mk _ (yY _ _) hg
    ·simp only [List.map_append, List.sum_append, List.map_cons, List.map_nil, List.sum_cons, List.sum_nil, nT { kE l[k] with kids := ws }]; omega
    ·simp; omega
   ·try dsimp only
    omega
   ·simp (disch:=omega)
  ·try simp at c2
   apply bP;apply bN;apply bO;apply bG;apply aE;refine zk [1,6,7,8] ?_;refine zr ⟨[8,41],[],[],[],[]⟩ fun _ _ Z=>?_;simp (disch:=omega);and_intros<;>(try omega);apply Z;apply aF;simp [aR];exact ⟨vs, k, ⟨rfl, rfl⟩, h1, h2, h3, h4⟩
 ·try simp at g1
  simp (disch:=omega)[ga4];and_intros<;>(try omega);apply Z;refine fP (t := false) (by simp) (fun h => by cases h) (fun _ => ?_);apply bP;apply bN;apply bO;apply bG;apply aE;refine zk [1,6,7,8] ?_;refine zr ⟨[8,41],[],[],[],[]⟩ fun _ _ Z=>?_;simp (disch:=omega);and_intros<;>(try omega);apply Z;apply aF;simp [aR];exact ⟨vs, k, ⟨rfl, rfl⟩, h1, h2, h3, h4⟩
end Go.Proofs.Ytighdhfgcdjmeaa
namespace Go.Proofs.Ytighdhfgcdjmeaa
open Go Go.Vm
set_option maxRecDepth 20000
set_option linter.all false
set_option maxHeartbeats 8000000
theorem uX (l : List FL) (hl : l.length ≤ 25) (hf : ∀ f ∈ l, FO f) : ∀ (n i : Nat) (d : Int), l.length - i ≤ n → i ≤ l.length → Qu l i d
 | 0, i, d, hn, hi => fun σ => zF l i d σ hl hf hi fun i2 d2 h1 h2 => absurd h2 (by omega)
 | n + 1, i, d, hn, hi => fun σ => zF l i d σ hl hf hi fun i2 d2 h1 h2 => uX l hl hf n i2 d2 (by omega) h2
def oP : VN := ⟨2, ⟨#[112]⟩, ⟨#[]⟩, ⟨#[]⟩, [], [], [], ⟨0, 0, 0, 0, false, false⟩, []⟩
theorem Ks : VG oP := .mk _ ⟨by decide, by decide, by decide, by decide +kernel⟩ fun k hk => by cases hk
theorem Lu : hD oP ≤ 25 := by rw [nT]; decide
theorem Qj (f : FL) (ws : List VN) (j : Nat) (hg : ∀ v ∈ ws, VG v) (hs : (ws.map hD).sum = j - 1) (hj : j ≤ 25) (h1 : 1 ≤ j) : VG { kE f with kids := ws } ∧ hD { kE f with kids := ws } ≤ 25 := by
 refine ⟨.mk _ (yY _ _) hg, ?_⟩;rw [nT]; simp only []; omega
theorem Ih (l : List FL) (σ : List (List D)) (hl : l.length ≤ 9223372036854775807) (hf : ∀ f ∈ l, FO f) : Ct Try.prog 6 [.sl false (l.map vL), D.int 25] σ (fun r σ' => (r.plain = true ∧ ∃ v : VN, r.strip = yO v ∧ VG v ∧ hD v ≤ 25) ∧ σ' = σ) := by
 refine zf (rs:=[.cell 4 40]) Try.func6 Try.ntmps6 Try.results6 ?_;simp only [aM];refine bQ fun _ _ Z=>?_;simp (disch:=omega);and_intros<;>(try omega);apply Z;apply aH;refine bQ fun _ _ Z=>?_;simp (disch:=omega);and_intros<;>(try omega);apply Z;refine zi ?_;refine ⟨fun c1=>?_,fun c1=>?_⟩
 ·try simp at c1
  refine Mx fun _ _ Z=>?_;simp (disch:=omega);and_intros<;>(try omega);apply Z;apply aE;apply aH;rw [← List.map_take];obtain ⟨L, hL⟩ : ∃ L, L = l.take 25 := ⟨_, rfl⟩;rw [← hL];have hLl : L.length ≤ 25 := by rw [hL, List.length_take]; omega
  have hLf : ∀ f ∈ L, FO f := by rw [hL]; exact fun f hf2 => hf f (List.mem_of_mem_take hf2)
  refine bQ fun _ _ Z=>?_;simp (disch:=omega);and_intros<;>(try omega);apply Z;refine zi ?_;refine ⟨fun c2=>?_,fun c2=>?_⟩
  ·try simp at c2
   refine zk [0,4] ?_;refine bQ fun _ _ Z=>?_;simp (disch:=omega);and_intros<;>(try omega);apply Z;apply aF;apply bD;simp [aR];exact ⟨oP, by simp [oP], Ks, Lu⟩
  ·try simp at c2
   apply aK;apply aE;have hL0 : 0 < L.length := by
    rcases L with _ | ⟨a, b⟩
    ·first | (simp at c2; done) | (simp at c3; done)
    ·simp
   refine zk [0,4] ?_;refine bQ fun _ _ Z=>?_;refine aC 3 fun _ Y=>?_;simp (disch:=omega);and_intros<;>(try omega);apply Y;simp only [List.drop];refine aD fun _ Y=>?_;simp (disch:=omega);refine cD (wQ L[0] _ (hLf _ (List.getElem_mem _))) ?_;apply Y;simp (disch:=omega);and_intros<;>(try omega);apply Z;refine bQ fun _ _ Z=>?_;refine aC 5 fun _ Y=>?_;simp (disch:=omega);and_intros<;>(try omega);apply Y;simp only [List.drop];refine aD fun _ Y=>?_;simp (disch:=omega);refine Tu (uX L hLl hLf 25 1 L[0].deep (by omega) (by omega) _) ?_;rintro _ τ1 ⟨⟨ws, j, hr, hj1, hj2, hg, hs⟩, hτ⟩;subst hr hτ;apply Y;simp (disch:=omega);and_intros<;>(try omega);apply Z;refine zk [4,5] ?_;refine bQ fun _ _ Z=>?_;simp (disch:=omega);and_intros<;>(try omega);apply Z;apply aF;simp [aR];exact ⟨{ kE L[0] with kids := ws }, by simp, Qj _ ws j hg hs (by omega) (by omega)⟩
 ·try simp at c1
  apply aK;apply aE;apply aH;obtain ⟨L, hL⟩ : ∃ L, L = l := ⟨_, rfl⟩;have hLl : L.length ≤ 25 := by rw [hL]; omega
  have hLf : ∀ f ∈ L, FO f := by rw [hL]; exact hf
  rw [← hL];refine bQ fun _ _ Z=>?_;simp (disch:=omega);and_intros<;>(try omega);apply Z;refine zi ?_;refine ⟨fun c3=>?_,fun c3=>?_⟩
  ·try simp at c3
   refine bQ fun _ _ Z=>?_;simp (disch:=omega);and_intros<;>(try omega);apply Z;apply aF;apply bD;simp [aR];exact ⟨oP, by simp [oP], Ks, Lu⟩
  ·try simp at c3
   apply aK;apply aE;have hL0 : 0 < L.length := by
    rcases L with _ | ⟨a, b⟩
    ·first | (simp at c2; done) | (simp at c3; done)
    ·simp
   refine bQ fun _ _ Z=>?_;refine aC 3 fun _ Y=>?_;simp (disch:=omega);and_intros<;>(try omega);apply Y;simp only [List.drop];refine aD fun _ Y=>?_;simp (disch:=omega);refine cD (wQ L[0] _ (hLf _ (List.getElem_mem _))) ?_;apply Y;simp (disch:=omega);and_intros<;>(try omega);apply Z;refine zk [0,4,5] ?_;refine bQ fun _ _ Z=>?_;refine aC 5 fun _ Y=>?_;simp (disch:=omega);and_intros<;>(try omega);apply Y;simp only [List.drop];refine aD fun _ Y=>?_;simp (disch:=omega);refine Tu (uX L hLl hLf 25 1 L[0].deep (by omega) (by omega) _) ?_;rintro _ τ1 ⟨⟨ws, j, hr, hj1, hj2, hg, hs⟩, hτ⟩;subst hr hτ;apply Y;simp (disch:=omega);and_intros<;>(try omega);apply Z;refine zk [4,5] ?_;refine bQ fun _ _ Z=>?_;simp (disch:=omega);and_intros<;>(try omega);apply Z;apply aF;simp [aR];exact ⟨{ kE L[0] with kids := ws }, by simp, Qj _ ws j hg hs (by omega) (by omega)⟩
end Go.Proofs.Ytighdhfgcdjmeaa

