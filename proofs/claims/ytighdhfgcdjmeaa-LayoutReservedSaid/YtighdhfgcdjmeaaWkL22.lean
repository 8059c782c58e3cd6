import Derived.Test.YtighdhfgcdjmeaaLaLaw
namespace Go.Proofs.Ytighdhfgcdjmeaa
open Go Go.Vm
set_option maxRecDepth 20000
set_option linter.all false
set_option maxHeartbeats 8000000
theorem Ep (l : List FL) (g dx : Int) (σ : List (List D)) (hl : l.length ≤ 9223372036854775807) (hf : ∀ f ∈ l, FO f) : Ct Try.prog 3 [.sl false (l.map vL), D.int g, D.int dx] σ (fun r σ' => r = .bool true) := by
 refine zf (rs:=[.tmp 6]) Try.func3 Try.ntmps3 Try.results3 ?_;simp only [aM];refine bQ fun _ _ Z=>?_;simp;and_intros<;>(try omega);apply Z;apply aH;refine bQ fun _ _ Z=>?_;refine aD fun _ Y=>?_;simp;refine cD (Is _) ?_;apply Y;simp;and_intros<;>(try omega);apply Z;refine zi ?_;refine ⟨fun c1=>?_,fun c1=>?_⟩
 ·simp at c1
 ·try simp at c1
  apply aK;apply aE;refine bQ fun _ _ Z=>?_;refine aC 1 fun _ Y=>?_;simp;and_intros<;>(try omega);apply Y;simp only [List.drop];refine aD fun _ Y=>?_;simp;refine Tu (Pw l _ hl hf) ?_;rintro _ τ1 ⟨⟨v, hr1, hv, hvc⟩, hτ1⟩;subst hr1 hτ1;apply Y;refine aD fun _ Y=>?_;simp;refine Tu (Oz hv 1 _ (by omega)) ?_;rintro _ τ2 ⟨⟨t, hr2, hg, hcc⟩, hτ2⟩;subst hr2 hτ2;have hc : jS t ≤ 25 := by omega
  have hso : SO t ∧ AO t := ⟨(rY 25 t (by decide) hg hc).1.1, (rY 25 t (by decide) hg hc).2.1⟩;apply Y;simp;and_intros<;>(try omega);apply Z;refine bQ fun _ _ Z=>?_;simp;and_intros<;>(try omega);apply Z;refine zk [1,2,6,7,9] ?_;refine bQ fun _ _ Z=>?_;refine aC 3 fun _ Y=>?_;simp;and_intros<;>(try omega);apply Y;simp only [List.drop];refine aD fun _ Y=>?_;simp;refine cD (Oy t.styles Ty dx _ hso.1.1 hso.1.2) ?_;apply Y;simp;and_intros<;>(try omega);apply Z;refine bQ fun _ _ Z=>?_;refine aC 2 fun _ Y=>?_;simp;and_intros<;>(try omega);apply Y;simp only [List.drop];refine aD fun _ Y=>?_;simp;refine cD (Cm t.attrs kGh ⟨#[]⟩ _ hso.2.1 hso.2.2) ?_;apply Y;simp;and_intros<;>(try omega);apply Z;refine zk [1,6,7,9] ?_;refine zd ⟨[],[],[],[],[]⟩ [.op {rL:=true},.op {},.pure,.op {rL:=true},.pure,.op {},.pure,.pure,.op {}] fun all hall _ Z=>?_;refine aL 2 (by simp) fun _ Y=>?_;simp;and_intros<;>(try omega);apply Y;simp only [List.drop];refine aV fun _ Y=>?_;simp;refine kM (fun _ => (Nr t dx g _ hg hc)) ?_;apply Y;refine aL 1 (by simp) fun _ Y=>?_;simp;and_intros<;>(try omega);apply Y;simp only [List.drop];refine aV fun _ Y=>?_;simp;refine kM (fun _ => (Hj t _ hg hc)) ?_;apply Y;refine aL 1 (by simp) fun _ Y=>?_;simp;and_intros<;>(try omega);apply Y;simp only [List.drop];refine aV fun _ Y=>?_;simp;refine kM (fun _ => (Ns t g _ hg hc)) ?_;apply Y;refine aV fun _ Y=>?_;simp;refine kM (fun _ => (Mg (nJ 25 t g) _ (Pc t g hc))) ?_;apply Y;simp;and_intros<;>(try omega);apply Z;apply aF;simp [aR]
end Go.Proofs.Ytighdhfgcdjmeaa

