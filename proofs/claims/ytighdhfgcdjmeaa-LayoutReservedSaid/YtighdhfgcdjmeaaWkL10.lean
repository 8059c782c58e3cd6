import Derived.Test.YtighdhfgcdjmeaaWkL9
namespace Go.Proofs.Ytighdhfgcdjmeaa
open Go Go.Vm
set_option maxRecDepth 20000
set_option linter.all false
set_option maxHeartbeats 8000000
def wJ (f : TN → Int) (l : List TN) : Int := l.foldl (fun a k => max a (f k)) 0
theorem Er (f : TN → Int) (l : List TN) (k : Nat) (h : k < l.length) : wJ f (l.take (k + 1)) = max (wJ f (l.take k)) (f l[k]) := by
 unfold wJ; rw [cS l k h, List.foldl_append]; rfl
def mL : Nat → TN → Int
 | 0, _ => 0
 | n + 1, t => if t.kind = 1 then iL (t.text.size : Nat) else if Qv t kW = true then gF t kW else mY (wJ (mL n) t.kids) (mY (gF t dO) (gF t dO))
def Bx : Nat → TN → Prop
 | 0, _ => False
 | n + 1, t => SO t ∧ t.text.size ≤ 1000000 ∧ t.kids.length ≤ 1000 ∧ ∀ k ∈ t.kids, Bx n k
abbrev Bb (n : Nat) (t : TN) : Prop := ∀ σ : List (List D), Ct Try.prog 28 [fE t] σ (fun r σ' => r = .int (mL n t) ∧ σ' = σ)
def fF (n : Nat) (t k : TN) (g : Int) : Int := if rF t = 1 then mL n k else if rF t = 2 then yM t g else g
def wT (n : Nat) (sz : TN → Int → SZ) (t : TN) (g : Int) : List SZ := t.kids.map fun k => sz k (fF n t k g)
def mN (n : Nat) (sz : TN → Int → SZ) (t : TN) (g : Int) : PN × List PT := if rF t = 1 then Di g (gF t mM) (wT n sz t g) else if rF t = 2 then Dj (kG t) (yM t g) (gF t mM) (wT n sz t g) else vJ (gF t mM) (wT n sz t g)
theorem rR (n : Nat) (sz : TN → Int → SZ) (t : TN) (g : Int) : (mN n sz t g).2.length = t.kids.length := by
 unfold mN; split
 ·simp only [Di, iY, wT, List.length_map]
 ·split
  ·simp only [Dj, iY, wT, List.length_map]
  ·simp only [vJ, iY, wT, List.length_map]
def qT (t : TN) (h : Int) : Int := if Qv t kH = true then gF t kH else mY h (mY (gF t dO) (gF t dO))
def cU : Nat → TN → Int → SZ
 | 0 => fun _ _ => ⟨0, 0⟩
 | n + 1 => fun t g => if t.kind = 1 then ⟨mL (n + 1) t, 1⟩ else ⟨iW t g, qT t (mF (mN n (cU n) t (cB t g))).h⟩
abbrev Cs (n : Nat) (t : TN) : Prop := ∀ (g : Int) (σ : List (List D)), Ct Try.prog 14 [fE t, D.int g] σ (fun r σ' => r = gH (cU n t g) ∧ σ' = σ)
abbrev Rd (n : Nat) (t : TN) : Prop := ∀ (g : Int) (σ : List (List D)), Ct Try.prog 30 [fE t, D.int g] σ (fun r σ' => r = .tup [.sl true ((mN n (cU n) t g).2.map rG), gH (mF (mN n (cU n) t g))] ∧ σ' = σ)
theorem Nc (n : Nat) (t : TN) (σ : List (List D)) (h : SO t) (h1 : t.text.size ≤ 1000000) (h2 : t.kids.length ≤ 1000) (ih : ∀ k ∈ t.kids, Bb n k) : Ct Try.prog 28 [fE t] σ (fun r σ' => r = .int (mL (n + 1) t) ∧ σ' = σ) := by
 refine zf (rs:=[.tmp 2]) Try.func28 Try.ntmps28 Try.results28 ?_;simp only [aM];refine bQ fun _ _ Z=>?_;simp (disch:=omega);and_intros<;>(try omega);apply Z;apply aH;refine bQ fun _ _ Z=>?_;simp (disch:=omega);and_intros<;>(try omega);apply Z;refine zi ?_;refine ⟨fun c1=>?_,fun c1=>?_⟩
 ·try simp at c1
  refine bQ fun _ _ Z=>?_;refine aC 3 fun _ Y=>?_;simp (disch:=omega);and_intros<;>(try omega);apply Y;simp only [List.drop];refine aD fun _ Y=>?_;simp (disch:=omega);refine cD (eW (t.text.size : Nat) _) ?_;apply Y;simp (disch:=omega);and_intros<;>(try omega);apply Z;apply aF;apply bD;simp [aR, mL, *]
 ·try simp at c1
  apply aK;apply aE;apply aH;refine bQ fun _ _ Z=>?_;refine aC 1 fun _ Y=>?_;simp (disch:=omega);and_intros<;>(try omega);apply Y;simp only [List.drop];refine aD fun _ Y=>?_;simp (disch:=omega);refine cD (nF t kW _ h) ?_;apply Y;simp (disch:=omega);and_intros<;>(try omega);apply Z;refine zk [1,2,3,4] ?_;refine bQ fun _ _ Z=>?_;simp (disch:=omega);and_intros<;>(try omega);apply Z;refine zi ?_;refine ⟨fun c2=>?_,fun c2=>?_⟩
  ·try simp at c2
   refine bQ fun _ _ Z=>?_;simp (disch:=omega);and_intros<;>(try omega);apply Z;apply aF;apply bD;simp [aR, mL, *]
  ·try simp at c2
   apply aK;apply aE;refine bQ fun _ _ Z=>?_;simp (disch:=omega);and_intros<;>(try omega);apply Z;apply aH;refine bQ fun _ _ Z=>?_;simp (disch:=omega);and_intros<;>(try omega);apply Z;apply aN;refine zk [1,2,5,23,24,25] ?_;refine cN (fun (k : Nat) => [(25, .d (.v (.int .i64 (k : Int)))), (5, .d (.int (wJ (mL n) (t.kids.take k)))), (7, .d (.any))]) [5, 7, 25, 26, 27, 28, 29, 30, 31, 32, 33] (fun (k : Nat) => k ≤ t.kids.length) (fun (k : Nat) => t.kids.length - k) (0) (by simp <;> rfl) ?_ ?_ ?_
   ·simp [wJ]
   ·simp
   rintro k hk;simp only [List.cons_append, List.nil_append];refine bQ fun _ _ Z=>?_;simp (disch:=omega);and_intros<;>(try omega);apply Z;apply aH;refine zi ?_;refine ⟨fun c3=>?_,fun c3=>?_⟩
   ·try simp at c3
    apply aK;apply aE;apply aH;apply aN;refine bQ fun _ _ Z=>?_;simp (disch:=omega);and_intros<;>(try omega);apply Z;refine Mx fun _ _ Z=>?_;refine aC 2 fun _ Y=>?_;simp (disch:=omega);and_intros<;>(try omega);apply Y;simp only [List.drop];refine aD fun _ Y=>?_;simp (disch:=omega);refine cD (ih t.kids[k] (List.getElem_mem _) _) ?_;apply Y;simp (disch:=omega);and_intros<;>(try omega);apply Z;apply aZ;apply aE;refine zk [1,2,5,7,23,24,25] ?_;refine Mx fun _ _ Z=>?_;simp (disch:=omega);and_intros<;>(try omega);apply Z;refine bT (k + 1) ?_ ?_ (bI rfl ?_ (by simp) (by simp))
    ·omega
    ·try dsimp only
     omega
    ·simp (disch:=omega)[Er]
   ·try simp at c3
    obtain rfl : k = t.kids.length := by omega
    rw [List.take_length];apply bP;apply bN;apply bO;apply bG;apply aE;refine bQ fun _ _ Z=>?_;refine aC 2 fun _ Y=>?_;simp (disch:=omega);and_intros<;>(try omega);apply Y;simp only [List.drop];refine aD fun _ Y=>?_;simp (disch:=omega);refine cD (mP t dO _ h) ?_;apply Y;refine aD fun _ Y=>?_;simp (disch:=omega);refine cD (xU (gF t dO) _) ?_;apply Y;refine aD fun _ Y=>?_;simp (disch:=omega);refine cD (kC (wJ (mL n) t.kids) (mY (gF t dO) (gF t dO)) _) ?_;apply Y;simp (disch:=omega);and_intros<;>(try omega);apply Z;apply aF;simp [aR, mL, *]
theorem zD (n : Nat) (t k : TN) (g : Int) (σ : List (List D)) (h : SO t) (hk : Bb n k) : Ct Try.prog 44 [fE t, fE k, D.int g] σ (fun r σ' => r = .int (fF n t k g) ∧ σ' = σ) := by
 refine zf (rs:=[.tmp 6]) Try.func44 Try.ntmps44 Try.results44 ?_;simp only [aM];refine bQ fun _ _ Z=>?_;simp (disch:=omega);and_intros<;>(try omega);apply Z;apply aH;refine bQ fun _ _ Z=>?_;refine aC 1 fun _ Y=>?_;simp (disch:=omega);and_intros<;>(try omega);apply Y;simp only [List.drop];refine aD fun _ Y=>?_;simp (disch:=omega);refine cD (Mi t _ h) ?_;apply Y;simp only [iR];apply Z;apply aN;refine bQ fun _ _ Z=>?_;simp (disch:=omega);and_intros<;>(try omega);apply Z;refine zi ?_;refine ⟨fun c1=>?_,fun c1=>?_⟩
 ·try simp at c1
  refine bQ fun _ _ Z=>?_;refine aC 1 fun _ Y=>?_;simp (disch:=omega);and_intros<;>(try omega);apply Y;simp only [List.drop];refine aD fun _ Y=>?_;simp (disch:=omega);refine cD (hk _) ?_;apply Y;simp (disch:=omega);and_intros<;>(try omega);apply Z;apply aF;apply eE;apply bD;simp [aR, fF, *]
 ·try simp at c1
  refine bQ fun _ _ Z=>?_;simp (disch:=omega);and_intros<;>(try omega);apply Z;refine zi ?_;refine ⟨fun c2=>?_,fun c2=>?_⟩
  ·try simp at c2
   refine bQ fun _ _ Z=>?_;refine aC 2 fun _ Y=>?_;simp (disch:=omega);and_intros<;>(try omega);apply Y;simp only [List.drop];refine aD fun _ Y=>?_;simp (disch:=omega);refine cD (tH t g _ h) ?_;apply Y;simp (disch:=omega);and_intros<;>(try omega);apply Z;refine zk [2,6,8] ?_;refine bQ fun _ _ Z=>?_;simp (disch:=omega);and_intros<;>(try omega);apply Z;apply aF;apply eE;apply bD;simp [aR, fF, *]
  ·try simp at c2
   apply aK;apply aZ;apply aE;refine bQ fun _ _ Z=>?_;simp (disch:=omega);and_intros<;>(try omega);apply Z;apply aF;simp [aR, fF, *]
theorem sR : ∀ (n : Nat) (t : TN), Bx n t → Bb n t
 | 0, _, h => h.elim
 | n + 1, t, h => fun σ => Nc n t σ h.1 h.2.1 h.2.2.1 fun k hk => sR n k (h.2.2.2 k hk)
def Nn (n : Nat) (t : TN) (g : Int) (k : Nat) : List SZ := (wT n (cU n) t g).take k
theorem Vi (n : Nat) (t : TN) (g : Int) : Nn n t g 0 = [] := rfl
theorem Le (n : Nat) (t : TN) (g : Int) (k : Nat) (h : k < t.kids.length) : Nn n t g (k + 1) = Nn n t g k ++ [cU n t.kids[k] (fF n t t.kids[k] g)] := by
 unfold Nn;have hl : k < (wT n (cU n) t g).length := by simpa [wT] using h
 rw [cS _ _ hl]; simp [wT]
theorem Qa (n : Nat) (t : TN) (g : Int) : Nn n t g t.kids.length = wT n (cU n) t g := by
 unfold Nn; rw [List.take_of_length_le (by simp [wT])]
theorem Pb (n : Nat) (t : TN) (g : Int) (k : Nat) : (Nn n t g k).length ≤ k := by unfold Nn; rw [List.length_take]; omega
theorem Py (n : Nat) (sz : TN → Int → SZ) (t : TN) (g : Int) : (wT n sz t g).length = t.kids.length := by simp [wT]
theorem Qg (n : Nat) (t : TN) (g : Int) (σ : List (List D)) (h : SO t) (h2 : t.kids.length ≤ 1000) (ih : ∀ k ∈ t.kids, Bb n k) (ih2 : ∀ k ∈ t.kids, Cs n k) : Ct Try.prog 30 [fE t, D.int g] σ (fun r σ' => r = .tup [.sl true ((mN n (cU n) t g).2.map rG), gH (mF (mN n (cU n) t g))] ∧ σ' = σ) := by
 refine zf (rs:=[.tmp 4,.cell 5 58]) Try.func30 Try.ntmps30 Try.results30 ?_;simp only [aM];have hsl := Py n (cU n) t g;refine zr ⟨[4,6,19,39,54,59],[],[],[],[]⟩ fun _ _ Z=>?_;simp (disch:=omega);and_intros<;>(try omega);apply Z;refine zr ⟨[4,6,19,39,54,59],[],[],[],[]⟩ fun _ _ Z=>?_;simp (disch:=omega);and_intros<;>(try omega);apply Z;apply aH;refine zr ⟨[4,6,19,39,54,59],[],[],[],[]⟩ fun _ _ Z=>?_;simp (disch:=omega);and_intros<;>(try omega);apply Z;apply aN;refine zk [1,2,4,5,6,13,14,15] ?_;refine cN (fun (k : Nat) => [(15, .d (.v (.int .i64 (k : Int)))), (6, .d (.sl true ((Nn n t g k).map gH))), (8, .d (.any))]) [6, 8, 15, 16, 17, 18, 19, 20, 21, 22, 23, 24, 25, 26, 27, 28] (fun (k : Nat) => k ≤ t.kids.length) (fun (k : Nat) => t.kids.length - k) (0) (by simp <;> rfl) ?_ ?_ ?_
 ·simp [Vi]
 ·simp
 rintro k hk;simp only [List.cons_append, List.nil_append];have hzl := Pb n t g k;refine zr ⟨[4,6,19,39,54,59],[],[],[],[]⟩ fun _ _ Z=>?_;simp (disch:=omega);and_intros<;>(try omega);apply Z;apply aH;refine zi ?_;refine ⟨fun c1=>?_,fun c1=>?_⟩
 ·try simp at c1
  apply aK;apply aE;apply aH;apply aN;refine zr ⟨[4,6,19,39,54,59],[],[],[],[]⟩ fun _ _ Z=>?_;simp (disch:=omega);and_intros<;>(try omega);apply Z;refine zk [1,2,4,5,6,8,13,14,15] ?_;refine ze ⟨[4,6,19,39,54,59],[],[],[],[]⟩ [.op {},.op {rL:=true},.op {rL:=true},.op {rL:=true},.op {},.pure,.pure,.op {},.op {},.op {}] fun all hall _ Z=>?_;refine aL 5 (by simp) fun _ Y=>?_;simp (disch:=omega);and_intros<;>(try omega);apply Y;simp only [List.drop];refine aV fun _ Y=>?_;simp (disch:=omega);refine kM (fun _ => (zD n t t.kids[k] g _ h (ih t.kids[k] (List.getElem_mem _)))) ?_;apply Y;refine aV fun _ Y=>?_;simp (disch:=omega);refine kM (fun _ => (ih2 t.kids[k] (List.getElem_mem _) (fF n t t.kids[k] g) _)) ?_;apply Y;simp (disch:=omega);and_intros<;>(try omega);apply Z;apply aZ;apply aE;refine zk [1,2,4,5,6,8,13,14,15] ?_;refine zt ⟨[4,6,19,39,54,59],[],[],[],[]⟩ fun _ _ Z=>?_;simp (disch:=omega);and_intros<;>(try omega);apply Z;refine bT (k + 1) ?_ ?_ (bI rfl ?_ (by simp) (by simp))
  ·omega
  ·try dsimp only
   omega
  ·simp (disch:=omega)[Le]
 ·try simp at c1
  obtain rfl : k = t.kids.length := by omega
  rw [Qa];apply bP;apply bN;apply bO;apply bG;apply aE;refine zr ⟨[4,6,19,39,54,59],[],[],[],[]⟩ fun _ _ Z=>?_;refine aC 1 fun _ Y=>?_;simp (disch:=omega);and_intros<;>(try omega);apply Y;simp only [List.drop];refine aD fun _ Y=>?_;simp (disch:=omega);refine cD (mP t mM _ h) ?_;apply Y;simp (disch:=omega);and_intros<;>(try omega);apply Z;apply aH;refine zk [1,2,4,5,6,9] ?_;refine zr ⟨[4,6,19,39,54,59],[],[],[],[]⟩ fun _ _ Z=>?_;refine aC 1 fun _ Y=>?_;simp (disch:=omega);and_intros<;>(try omega);apply Y;simp only [List.drop];refine aD fun _ Y=>?_;simp (disch:=omega);refine cD (Mi t _ h) ?_;apply Y;simp only [iR];apply Z;apply aN;refine zr ⟨[4,6,19,39,54,59],[],[],[],[]⟩ fun _ _ Z=>?_;simp (disch:=omega);and_intros<;>(try omega);apply Z;refine zi ?_;refine ⟨fun c2=>?_,fun c2=>?_⟩
  ·try simp at c2
   refine zr ⟨[4,6,19,39,54,59],[],[],[],[]⟩ fun _ _ Z=>?_;refine aC 3 fun _ Y=>?_;simp (disch:=omega);and_intros<;>(try omega);apply Y;simp only [List.drop];refine aD fun _ Y=>?_;simp (disch:=omega);refine cD (Ol g (gF t mM) (wT n (cU n) t g) _ (by omega)) ?_;apply Y;simp (disch:=omega);and_intros<;>(try omega);apply Z;apply aF;apply eE;apply bD;simp [aR, mN, *]
  ·try simp at c2
   refine zr ⟨[4,6,19,39,54,59],[],[],[],[]⟩ fun _ _ Z=>?_;simp (disch:=omega);and_intros<;>(try omega);apply Z;refine zi ?_;refine ⟨fun c3=>?_,fun c3=>?_⟩
   ·try simp at c3
    refine zk [1,2,4,5,6,9] ?_;refine zr ⟨[4,6,19,39,54,59],[],[],[],[]⟩ fun _ _ Z=>?_;refine aC 2 fun _ Y=>?_;simp (disch:=omega);and_intros<;>(try omega);apply Y;simp only [List.drop];refine aD fun _ Y=>?_;simp (disch:=omega);refine cD (tH t g _ h) ?_;apply Y;simp (disch:=omega);and_intros<;>(try omega);apply Z;refine zk [4,5,6,9,10,11] ?_;refine zr ⟨[4,6,19,39,54,59],[],[],[],[]⟩ fun _ _ Z=>?_;refine aC 4 fun _ Y=>?_;simp (disch:=omega);and_intros<;>(try omega);apply Y;simp only [List.drop];refine aD fun _ Y=>?_;simp (disch:=omega);refine cD (Np (kG t) (yM t g) (gF t mM) (wT n (cU n) t g) _ (by omega)) ?_;apply Y;simp (disch:=omega);and_intros<;>(try omega);apply Z;apply aF;apply eE;apply bD;simp [aR, mN, *]
   ·try simp at c3
    apply aK;apply aZ;apply aE;refine zk [4,5,6,9] ?_;refine zr ⟨[4,6,19,39,54,59],[],[],[],[]⟩ fun _ _ Z=>?_;refine aC 2 fun _ Y=>?_;simp (disch:=omega);and_intros<;>(try omega);apply Y;simp only [List.drop];refine aD fun _ Y=>?_;simp (disch:=omega);refine cD (Jj (gF t mM) (wT n (cU n) t g) _ (by omega)) ?_;apply Y;simp (disch:=omega);and_intros<;>(try omega);apply Z;apply aF;simp [aR, mN, *]
end Go.Proofs.Ytighdhfgcdjmeaa

