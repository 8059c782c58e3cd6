import Derived.Test.YtighdhfgcdjmeaaWkL8
namespace Go.Proofs.Ytighdhfgcdjmeaa
open Go Go.Vm
set_option maxRecDepth 20000
set_option linter.all false
set_option maxHeartbeats 8000000
theorem Uu (N : Nat) (x : PT) : Sc N (rG x) := Sc.agg fun d hd => by
 simp at hd; rcases hd with rfl | rfl <;> exact Sc.v _
theorem Qn (N : Nat) (x : SZ) : Sc N (gH x) := Sc.agg fun d hd => by
 simp at hd; rcases hd with rfl | rfl <;> exact Sc.v _
theorem Nk (N : Nat) (l : List PT) (x : SZ) : Sc N (.tup [.sl true (l.map rG), gH x]) := Sc.tup fun d hd => by
 rcases List.mem_cons.1 hd with rfl | hd
 ·exact Sc.sl (Sc.map fun a => Uu _ a)
 ·rcases List.mem_cons.1 hd with rfl | hd
  ·exact Qn _ _
  ·cases hd
theorem wK (gap : Int) (l : List SZ) (f1 f2 : FuncId) (c1 c2 : List D) (tk : SZ → Int) (nx : Nat → PN → Int → Bool) (σ : List (List D)) (hl : l.length ≤ 1000) (htk : ∀ (s : SZ) (τ : List (List D)), Ct Try.prog f1 (gH s :: c1) τ (fun r τ' => r = D.int (tk s) ∧ τ' = τ)) (hnx : ∀ (i : Nat) (p : PN) (n : Int) (m : Nat) (τ : List (List D)), i ≤ 1000 → τ[m]? = some (pc p) → Ct Try.prog f2 (D.int i :: .ref m 0 :: D.int n :: c2) τ (fun r τ' => r = D.bool (nx i p n) ∧ τ' = τ)) (hp1 : ∀ d ∈ c1, d.plain = true) (hp2 : ∀ d ∈ c2, d.plain = true) (hc1 : c1.map D.strip = c1) (hc2 : c2.map D.strip = c2) : Ct Try.prog 78 [D.int gap, .sl false (l.map gH), .clo (.func f1) [] c1, .clo (.func f2) [] c2] σ (fun r σ' => r = .tup [.sl true ((cV tk nx gap l l.length).2.map rG), gH (mF (cV tk nx gap l l.length))] ∧ σ' = σ) :=
 (Ly gap l f1 f2 c1 c2 tk nx σ hl htk hnx hp1 hp2 hc1 hc2).trim fun r σ' ⟨hr, J, hs⟩ => ⟨σ, J, hs, rfl, by rw [hr]; exact Nk _ _ _, fun n cs h => .inl h, hr, rfl⟩
def Dh (w : Int) : Nat → PN → Int → Bool := fun _ p n => decide (mY p.x n > w)
def Cr (c : Int) : Nat → PN → Int → Bool := fun i _ _ => decide ((i : Int).tmod c = 0)
abbrev vJ (gap : Int) (l : List SZ) : PN × List PT := cV (fun s => s.w) (fun _ _ _ => true) gap l l.length
abbrev Di (w gap : Int) (l : List SZ) : PN × List PT := cV (fun s => s.w) (Dh (eY w)) gap l l.length
abbrev Dj (c w gap : Int) (l : List SZ) : PN × List PT := cV (fun _ => eY w) (Cr (gZ c 1 64)) gap l l.length
theorem Rp (c : Int) : 1 ≤ gZ c 1 64 ∧ gZ c 1 64 ≤ 64 := by unfold gZ; omega
theorem Sq (i : Nat) (c : Int) (hc : 1 ≤ c ∧ c ≤ 64) : 0 ≤ (i : Int).tmod c ∧ (i : Int).tmod c ≤ 64 := by
 have h1 : 0 ≤ (i : Int).tmod c := Int.tmod_nonneg c (by omega);have h2 : (i : Int).tmod c < c := Int.tmod_lt_of_pos _ (by omega);omega
theorem Lb (s : SZ) (σ : List (List D))  : Ct Try.prog 79 [gH s] σ (fun r σ' => r = .int s.w ∧ σ' = σ) := by
 refine zf (rs:=[.tmp 2]) Try.func79 Try.ntmps79 Try.results79 ?_;simp only [aM];refine bQ fun _ _ Z=>?_;simp;and_intros<;>(try omega);apply Z;refine bQ fun _ _ Z=>?_;simp;and_intros<;>(try omega);apply Z;apply aF;simp [aR]
theorem Fa (i : Nat) (p : PN) (n : Int) (m : Nat) (σ : List (List D)) (hq : σ[m]? = some (pc p)) : Ct Try.prog 86 [D.int i, .ref m 0, D.int n] σ (fun r σ' => r = .bool true ∧ σ' = σ) := by
 refine zf (rs:=[.tmp 6]) Try.func86 Try.ntmps86 Try.results86 ?_;simp only [aM];refine bQ fun _ _ Z=>?_;simp;and_intros<;>(try omega);apply Z;refine bQ fun _ _ Z=>?_;simp;and_intros<;>(try omega);apply Z;apply aF;simp [aR]
theorem Ht (w : Int) (i : Nat) (p : PN) (n : Int) (m : Nat) (σ : List (List D)) (hq : σ[m]? = some (pc p)) : Ct Try.prog 80 [D.int i, .ref m 0, D.int n, .adr [D.int w]] σ (fun r σ' => r = .bool (Dh w i p n) ∧ σ' = σ) := by
 refine zf (rs:=[.tmp 7]) Try.func80 Try.ntmps80 Try.results80 ?_;simp only [aM];refine bQ fun _ _ Z=>?_;simp[hq,aX hq];and_intros<;>(try omega);apply Z;refine zd ⟨[],[],[],[],[]⟩ [.op {},.op {},.op {},.op {rO:=true},.op {},.pure,.op {},.op {},.op {}] fun all hall _ Z=>?_;refine aL 5 (by simp) fun _ Y=>?_;simp[hq,aX hq];and_intros<;>(try omega);apply Y;simp only [List.drop];refine aV fun _ Y=>?_;simp[hq,aX hq];refine kM (fun _ => (kC p.x n _)) ?_;apply Y;simp[hq,aX hq];and_intros<;>(try omega);apply Z;apply aF;simp [aR, Dh]
theorem Mk (s : SZ) (w : Int) (σ : List (List D))  : Ct Try.prog 84 [gH s, .adr [D.int w]] σ (fun r σ' => r = .int w ∧ σ' = σ) := by
 refine zf (rs:=[.tmp 3]) Try.func84 Try.ntmps84 Try.results84 ?_;simp only [aM];refine bQ fun _ _ Z=>?_;simp;and_intros<;>(try omega);apply Z;refine bQ fun _ _ Z=>?_;simp;and_intros<;>(try omega);apply Z;apply aF;simp [aR]
theorem Mf (c : Int) (i : Nat) (p : PN) (n : Int) (m : Nat) (σ : List (List D)) (hq : σ[m]? = some (pc p)) (hi : i ≤ 1000) (hc : 1 ≤ c ∧ c ≤ 64) : Ct Try.prog 85 [D.int i, .ref m 0, D.int n, .adr [D.int c]] σ (fun r σ' => r = .bool (Cr c i p n) ∧ σ' = σ) := by
 refine zf (rs:=[.tmp 7]) Try.func85 Try.ntmps85 Try.results85 ?_;simp only [aM];have htm := Sq i c hc;refine bQ fun _ _ Z=>?_;simp;and_intros<;>(try omega);apply Z;refine bQ fun _ _ Z=>?_;simp;and_intros<;>(try omega);apply Z;apply aF;simp [aR, Cr]
theorem Jj (gap : Int) (l : List SZ) (σ : List (List D)) (hl : l.length ≤ 1000) : Ct Try.prog 60 [D.int gap, .sl false (l.map gH)] σ (fun r σ' => r = .tup [.sl true ((vJ gap l).2.map rG), gH (mF (vJ gap l))] ∧ σ' = σ) := by
 refine zf (rs:=[.tmp 4,.cell 5 58]) Try.func60 Try.ntmps60 Try.results60 ?_;simp only [aM];refine zr ⟨[4,9],[],[],[],[]⟩ fun _ _ Z=>?_;simp;and_intros<;>(try omega);apply Z;refine zr ⟨[4,9],[],[],[],[]⟩ fun _ _ Z=>?_;refine aC 2 fun _ Y=>?_;simp;and_intros<;>(try omega);apply Y;simp only [List.drop];refine aD fun _ Y=>?_;simp;refine cD (wK gap l 79 86 [] [] (fun s => s.w) (fun _ _ _ => true) _ hl (fun s τ => Lb s τ) (fun i p n m τ _ h => Fa i p n m τ h) (by simp) (by simp) (by simp) (by simp)) ?_;apply Y;simp;and_intros<;>(try omega);apply Z;apply aF;simp [aR]
theorem Ol (w gap : Int) (l : List SZ) (σ : List (List D)) (hl : l.length ≤ 1000) : Ct Try.prog 57 [D.int w, D.int gap, .sl false (l.map gH)] σ (fun r σ' => r = .tup [.sl true ((Di w gap l).2.map rG), gH (mF (Di w gap l))] ∧ σ' = σ) := by
 refine zf (rs:=[.tmp 6,.cell 7 58]) Try.func57 Try.ntmps57 Try.results57 ?_;simp only [aM];refine zr ⟨[6,14],[],[],[],[]⟩ fun _ _ Z=>?_;simp;and_intros<;>(try omega);apply Z;refine zr ⟨[6,14],[],[],[],[]⟩ fun _ _ Z=>?_;refine aC 1 fun _ Y=>?_;simp;and_intros<;>(try omega);apply Y;simp only [List.drop];refine aD fun _ Y=>?_;simp;refine cD (lF w _) ?_;apply Y;simp;and_intros<;>(try omega);apply Z;refine iU 3 0 (by simp <;> rfl) (by simp <;> rfl) (by simp) ?_;simp only [List.map_cons, List.map_nil, Ob];refine zr ⟨[6,14],[],[],[],[]⟩ fun _ _ Z=>?_;refine aC 3 fun _ Y=>?_;simp;and_intros<;>(try omega);apply Y;simp only [List.drop];refine aD fun _ Y=>?_;simp;refine cD (wK gap l 79 80 [] [.adr [D.int (eY w)]] (fun s => s.w) (Dh (eY w)) _ hl (fun s τ => Lb s τ) (fun i p n m τ _ h => Ht (eY w) i p n m τ h) (by simp) (by simp) (by simp) (by simp)) ?_;apply Y;simp;and_intros<;>(try omega);apply Z;apply aF;simp [aR]
theorem Np (c w gap : Int) (l : List SZ) (σ : List (List D)) (hl : l.length ≤ 1000) : Ct Try.prog 59 [D.int c, D.int w, D.int gap, .sl false (l.map gH)] σ (fun r σ' => r = .tup [.sl true ((Dj c w gap l).2.map rG), gH (mF (Dj c w gap l))] ∧ σ' = σ) := by
 refine zf (rs:=[.tmp 8,.cell 9 58]) Try.func59 Try.ntmps59 Try.results59 ?_;simp only [aM];refine zr ⟨[8,19],[],[],[],[]⟩ fun _ _ Z=>?_;simp;and_intros<;>(try omega);apply Z;refine zd ⟨[8,19],[],[],[],[]⟩ [.op {rL:=true},.pure,.op {rL:=true},.pure,.op {rL:=true,wL:=true},.op {rL:=true,wL:=true}] fun all hall _ Z=>?_;refine aL 1 (by simp) fun _ Y=>?_;simp;and_intros<;>(try omega);apply Y;simp only [List.drop];refine aV fun _ Y=>?_;simp;refine kM (fun _ => (Dg c 1 64 _)) ?_;apply Y;refine aL 1 (by simp) fun _ Y=>?_;simp;and_intros<;>(try omega);apply Y;simp only [List.drop];refine aV fun _ Y=>?_;simp;refine kM (fun _ => (lF w _)) ?_;apply Y;simp;and_intros<;>(try omega);apply Z;refine iU 4 0 (by simp <;> rfl) (by simp <;> rfl) (by simp) ?_;simp only [List.map_cons, List.map_nil, Ob];refine iU 5 1 (by simp <;> rfl) (by simp <;> rfl) (by simp) ?_;simp only [List.map_cons, List.map_nil, Ob];refine zr ⟨[8,19],[],[],[],[]⟩ fun _ _ Z=>?_;refine aC 4 fun _ Y=>?_;simp;and_intros<;>(try omega);apply Y;simp only [List.drop];refine aD fun _ Y=>?_;simp;refine cD (wK gap l 84 85 [.adr [D.int (eY w)]] [.adr [D.int (gZ c 1 64)]] (fun _ => eY w) (Cr (gZ c 1 64)) _ hl (fun s τ => Mk s (eY w) τ) (fun i p n m τ hi h => Mf (gZ c 1 64) i p n m τ h hi (Rp c)) (by simp) (by simp) (by simp) (by simp)) ?_;apply Y;simp;and_intros<;>(try omega);apply Z;apply aF;simp [aR]
end Go.Proofs.Ytighdhfgcdjmeaa

