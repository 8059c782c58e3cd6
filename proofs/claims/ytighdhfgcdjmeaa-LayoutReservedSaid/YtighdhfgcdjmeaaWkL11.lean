import Derived.Test.YtighdhfgcdjmeaaWkL10
namespace Go.Proofs.Ytighdhfgcdjmeaa
open Go Go.Vm
set_option maxRecDepth 20000
set_option linter.all false
set_option maxHeartbeats 8000000
theorem Kz (n : Nat) (t : TN) (h : SO t) (h2 : t.kids.length ≤ 1000) (ih : ∀ k ∈ t.kids, Bb n k) (ih2 : ∀ k ∈ t.kids, Cs n k) : Rd n t := fun g σ => Qg n t g σ h h2 ih ih2
theorem Ku (n : Nat) (t : TN) (g : Int) (σ : List (List D)) (h : SO t) (hn : Bb (n + 1) t) (hp : Rd n t) : Ct Try.prog 14 [fE t, D.int g] σ (fun r σ' => r = gH (cU (n + 1) t g) ∧ ∃ J, σ' = σ ++ J) := by
 refine zf (rs:=[.cell 4 58]) Try.func14 Try.ntmps14 Try.results14 ?_;simp only [aM];refine zr ⟨[],[],[8],[],[]⟩ fun _ _ Z=>?_;simp (disch:=omega)[aB,aA];and_intros<;>(try omega);apply Z;apply aH;refine zr ⟨[],[],[8],[],[]⟩ fun _ _ Z=>?_;simp (disch:=omega)[aB,aA];and_intros<;>(try omega);apply Z;refine zi ?_;refine ⟨fun c1=>?_,fun c1=>?_⟩
 ·try simp at c1
  refine zr ⟨[],[],[8],[],[]⟩ fun _ _ Z=>?_;refine aC 1 fun _ Y=>?_;simp (disch:=omega)[aB,aA];and_intros<;>(try omega);apply Y;simp only [List.drop];refine aD fun _ Y=>?_;simp (disch:=omega)[aB,aA];refine cD (hn _) ?_;apply Y;simp (disch:=omega)[aB,aA];and_intros<;>(try omega);apply Z;apply aF;apply bD;simp [aR, cU, qT, *]
 ·try simp at c1
  apply aK;apply aE;refine zr ⟨[],[],[8],[],[]⟩ fun _ _ Z=>?_;refine aC 1 fun _ Y=>?_;simp (disch:=omega)[aB,aA];and_intros<;>(try omega);apply Y;simp only [List.drop];refine aD fun _ Y=>?_;simp (disch:=omega)[aB,aA];refine cD (nF t kH _ h) ?_;apply Y;simp (disch:=omega)[aB,aA];and_intros<;>(try omega);apply Z;apply aH;refine zk [1,2,4,5,6] ?_;refine zr ⟨[],[],[8],[],[]⟩ fun _ _ Z=>?_;simp (disch:=omega)[aB,aA];and_intros<;>(try omega);apply Z;refine zi ?_;refine ⟨fun c2=>?_,fun c2=>?_⟩
  ·try simp at c2
   refine zd ⟨[],[],[8],[],[]⟩ [.op {rL:=true},.op {rL:=true},.op {},.pure,.pure,.op {},.op {},.op {},.op {rO:=true,wO:=true},.op {},.op {rO:=true,wO:=true}] fun all hall _ Z=>?_;refine aL 3 (by simp) fun _ Y=>?_;simp (disch:=omega)[aB,aA];and_intros<;>(try omega);apply Y;simp only [List.drop];refine aV fun _ Y=>?_;simp (disch:=omega)[aB,aA];refine kM (fun _ => (tD t g _ h)) ?_;apply Y;refine aV fun _ Y=>?_;simp (disch:=omega)[aB,aA];refine kM (fun _ => (hp (cB t g) _)) ?_;apply Y;simp (disch:=omega)[aB,aA];and_intros<;>(try omega);apply Z;refine zk [1,2,4,5,8] ?_;refine ze ⟨[],[],[8],[],[]⟩ [.op {},.op {rO:=true},.op {rL:=true},.pure,.pure,.pure,.op {}] fun all hall _ Z=>?_;refine aL 3 (by simp) fun _ Y=>?_;simp (disch:=omega)[aB,aA];and_intros<;>(try omega);apply Y;simp only [List.drop];refine aV fun _ Y=>?_;simp (disch:=omega)[aB,aA];refine kM (fun _ => (mP t dO _ h)) ?_;apply Y;refine aV fun _ Y=>?_;simp (disch:=omega)[aB,aA];refine kM (fun _ => (xU (gF t dO) _)) ?_;apply Y;refine aV fun _ Y=>?_;simp (disch:=omega)[aB,aA];refine kM (fun _ => (kC (mF (mN n (cU n) t (cB t g))).h (mY (gF t dO) (gF t dO)) _)) ?_;apply Y;simp (disch:=omega)[aB,aA];and_intros<;>(try omega);apply Z;apply aE;refine zk [1,2,4,5] ?_;refine zr ⟨[],[],[8],[],[]⟩ fun _ _ Z=>?_;refine aC 2 fun _ Y=>?_;simp (disch:=omega)[aB,aA];and_intros<;>(try omega);apply Y;simp only [List.drop];refine aD fun _ Y=>?_;simp (disch:=omega)[aB,aA];refine cD (rM t g _ h) ?_;apply Y;simp (disch:=omega)[aB,aA];and_intros<;>(try omega);apply Z;apply aF;simp [aR, cU, qT, *]
  ·try simp at c2
   apply aK;apply aE;refine zr ⟨[],[],[8],[],[]⟩ fun _ _ Z=>?_;refine aC 2 fun _ Y=>?_;simp (disch:=omega)[aB,aA];and_intros<;>(try omega);apply Y;simp only [List.drop];refine aD fun _ Y=>?_;simp (disch:=omega)[aB,aA];refine cD (rM t g _ h) ?_;apply Y;simp (disch:=omega)[aB,aA];and_intros<;>(try omega);apply Z;apply aF;simp [aR, cU, qT, *]
theorem qP : ∀ (n : Nat) (t : TN), Bx n t → Cs n t
 | 0, _, h => h.elim
 | n + 1, t, h => fun g σ => (Ku n t g σ h.1 (sR (n + 1) t h) (Kz n t h.1 h.2.2.1 (fun k hk => sR n k (h.2.2.2 k hk)) fun k hk => qP n k (h.2.2.2 k hk))).trim fun r σ' ⟨hr, J, hs⟩ => ⟨σ, J, hs, rfl, by rw [hr]; exact Qn _ _, fun n cs h => .inl h, hr, rfl⟩
end Go.Proofs.Ytighdhfgcdjmeaa

