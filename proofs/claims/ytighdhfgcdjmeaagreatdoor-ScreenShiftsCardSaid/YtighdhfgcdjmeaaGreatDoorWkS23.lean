import Derived.Test.YtighdhfgcdjmeaaGreatDoorWkS15
namespace Go.Proofs.YtighdhfgcdjmeaaGreatDoor
open Go Go.Vm
set_option maxRecDepth 20000
set_option linter.all false
set_option maxHeartbeats 8000000
structure FR where
 x : (List Int)
 y : (List Int)
 deriving DecidableEq
@[simp] abbrev sG (s : FR) : D := .agg [.sl false (s.x.map D.int), .sl false (s.y.map D.int)]
@[simp] abbrev aE4 (s : FR) : D := .agg [.sl true (s.x.map D.int), .sl true (s.y.map D.int)]
theorem vE (l : List Int) (σ : List (List D)) (hl : l.length ≤ 1000000) : Ct Tryz.prog 59 [.sl false (l.map D.int)] σ (fun r σ' => r = .sl true (l.map D.int) ∧ σ' = σ) := by
 refine zf (rs:=[.tmp 2]) Tryz.func59 Tryz.ntmps59 Tryz.results59 ?_;simp only [aQ];refine zr ⟨[2],[],[],[],[]⟩ fun _ _ Z=>?_;simp;and_intros<;>(try omega);apply Z;apply aE;refine zr ⟨[2],[],[],[],[]⟩ fun _ _ Z=>?_;refine aB 1 fun _ Y=>?_;simp;and_intros<;>(try omega);apply Y;simp only [List.drop];refine aH fun _ Y=>?_;simp;refine ⟨Y _ ?_, fun e1 => Y _ ?_⟩
 ·skip
  simp only [eX];apply Z;refine cI (t := false) (by simp) (fun h => by cases h) (fun _ => ?_);apply aG;apply aC;refine zr ⟨[2],[],[],[],[]⟩ fun _ _ Z=>?_;simp;and_intros<;>(try omega);apply Z;apply aF;simp [aS]
 ·skip
  simp only [eX];apply Z;refine cI (t := true) (by simp) (fun _ => ?_) (fun h => by cases h);refine zr ⟨[2],[],[],[],[]⟩ fun _ _ Z=>?_;simp;and_intros<;>(try omega);apply Z;apply aF;apply bK;simp [aS, e1]
theorem Gt (l : List EN) (σ : List (List D)) (hl : l.length ≤ 1000000) : Ct Tryz.prog 33 [.sl false (l.map bP)] σ (fun r σ' => r = .sl true (l.map bP) ∧ σ' = σ) := by
 refine zf (rs:=[.tmp 2]) Tryz.func33 Tryz.ntmps33 Tryz.results33 ?_;simp only [aQ];refine zr ⟨[2],[],[],[],[]⟩ fun _ _ Z=>?_;simp;and_intros<;>(try omega);apply Z;apply aE;refine zr ⟨[2],[],[],[],[]⟩ fun _ _ Z=>?_;refine aB 1 fun _ Y=>?_;simp;and_intros<;>(try omega);apply Y;simp only [List.drop];refine aH fun _ Y=>?_;simp;refine ⟨Y _ ?_, fun e1 => Y _ ?_⟩
 ·skip
  simp only [eX];apply Z;refine cI (t := false) (by simp) (fun h => by cases h) (fun _ => ?_);apply aG;apply aC;refine zr ⟨[2],[],[],[],[]⟩ fun _ _ Z=>?_;simp;and_intros<;>(try omega);apply Z;apply aF;simp [aS]
 ·skip
  simp only [eX];apply Z;refine cI (t := true) (by simp) (fun _ => ?_) (fun h => by cases h);refine zr ⟨[2],[],[],[],[]⟩ fun _ _ Z=>?_;simp;and_intros<;>(try omega);apply Z;apply aF;apply bK;simp [aS, e1]
abbrev Vc : ByteArray := ⟨#[116, 45, 100, 120]⟩
abbrev Vb : ByteArray := ⟨#[116, 45, 100, 121]⟩
def cY (t : TN) (f : FR) : FR := ⟨f.x ++ [gI t.styles Vc], f.y ++ [gI t.styles Vb]⟩
def fK (f : FR) (q : RC) : Nat → RC
 | 0 => q
 | k + 1 => ⟨iV (fK f q k).x (f.x.getD k 0), iV (fK f q k).y (f.y.getD k 0), (fK f q k).w, (fK f q k).h⟩
@[simp] theorem Tq (f : FR) (q : RC) : fK f q 0 = q := rfl
theorem Ni (f : FR) (q : RC) (k : Nat) (h : k < f.x.length) (h2 : k < f.y.length) : fK f q (k + 1) = ⟨iV (fK f q k).x f.x[k], iV (fK f q k).y f.y[k], (fK f q k).w, (fK f q k).h⟩ := by simp [fK, List.getD, h, h2]
theorem yB (f : FR) (t : TN) (σ : List (List D)) (h : SO t) (hx : f.x.length ≤ 10000) (hy : f.y.length ≤ 10000) : Ct Tryz.prog 31 [sG f, gF t] σ (fun r σ' => r = sG (cY t f) ∧ σ' = σ) := by
 refine zf (rs:=[.cell 4 95]) Tryz.func31 Tryz.ntmps31 Tryz.results31 ?_;simp only [aQ];refine bV fun _ _ Z=>?_;simp;and_intros<;>(try omega);apply Z;refine zd ⟨[],[],[],[],[]⟩ [.op {},.op {rL:=true},.pure,.op {rL:=true},.pure,.op {},.op {},.op {},.op {rL:=true},.pure,.op {rL:=true},.pure,.op {},.op {},.op {},.op {rL:=true,wL:=true}] fun all hall _ Z=>?_;refine aL 2 (by simp) fun _ Y=>?_;simp;and_intros<;>(try omega);apply Y;simp only [List.drop];refine bH fun _ Y=>?_;simp;refine nG (fun _ => (vE f.x _ (by omega))) ?_;apply Y;refine aL 1 (by simp) fun _ Y=>?_;simp;and_intros<;>(try omega);apply Y;simp only [List.drop];refine bH fun _ Y=>?_;simp;refine nG (fun _ => (rN t Vc _ h)) ?_;apply Y;refine aL 4 (by simp) fun _ Y=>?_;simp;and_intros<;>(try omega);apply Y;simp only [List.drop];refine bH fun _ Y=>?_;simp;refine nG (fun _ => (vE f.y _ (by omega))) ?_;apply Y;refine aL 1 (by simp) fun _ Y=>?_;simp;and_intros<;>(try omega);apply Y;simp only [List.drop];refine bH fun _ Y=>?_;simp;refine nG (fun _ => (rN t Vb _ h)) ?_;apply Y;simp;and_intros<;>(try omega);apply Z;apply aF;simp [aS, cY]
theorem Sb (q : RC) (a b : Int) (σ : List (List D))  : Ct Tryz.prog 60 [oS q, D.int a, D.int b] σ (fun r σ' => r = oS ⟨iV q.x a, iV q.y b, q.w, q.h⟩ ∧ σ' = σ) := by
 refine zf (rs:=[.cell 6 64]) Tryz.func60 Tryz.ntmps60 Tryz.results60 ?_;simp only [aQ];refine bV fun _ _ Z=>?_;simp;and_intros<;>(try omega);apply Z;refine zd ⟨[],[],[],[],[]⟩ [.op {},.op {rL:=true},.op {},.pure,.op {},.op {rL:=true},.op {},.pure,.op {},.op {rL:=true,wL:=true},.op {},.op {rL:=true,wL:=true}] fun all hall _ Z=>?_;refine aL 3 (by simp) fun _ Y=>?_;simp;and_intros<;>(try omega);apply Y;simp only [List.drop];refine bH fun _ Y=>?_;simp;refine nG (fun _ => (oK q.x a _)) ?_;apply Y;refine aL 3 (by simp) fun _ Y=>?_;simp;and_intros<;>(try omega);apply Y;simp only [List.drop];refine bH fun _ Y=>?_;simp;refine nG (fun _ => (oK q.y b _)) ?_;apply Y;simp;and_intros<;>(try omega);apply Z;refine zk [3,6] ?_;refine bV fun _ _ Z=>?_;simp;and_intros<;>(try omega);apply Z;apply aF;simp [aS]
theorem Oo (f : FR) (q : RC) (σ : List (List D)) (hx : f.x.length ≤ 10000) (hy : f.y.length = f.x.length) : Ct Tryz.prog 34 [sG f, oS q] σ (fun r σ' => r = oS (fK f q f.x.length) ∧ σ' = σ) := by
 refine zf (rs:=[.cell 4 64]) Tryz.func34 Tryz.ntmps34 Tryz.results34 ?_;simp only [aQ];refine bV fun _ _ Z=>?_;simp (disch:=omega);and_intros<;>(try omega);apply Z;apply aE;refine bV fun _ _ Z=>?_;simp (disch:=omega);and_intros<;>(try omega);apply Z;apply aI;refine zk [2,3,4,8,9] ?_;refine lR (fun (k : Nat) => [(9, .d (.v (.int .i64 (k : Int)))), (5, .d (.any))]) (fun (k : Nat) => [[.sl false (f.x.map D.int), .sl false (f.y.map D.int)], [D.int (fK f q k).x, D.int (fK f q k).y, D.int (fK f q k).w, D.int (fK f q k).h], [D.int 0, D.int 0, D.int 0, D.int 0]]) [5, 9, 10, 11, 12, 13, 14, 15, 16, 17, 18, 19, 20, 21, 22, 23, 24] (fun (k : Nat) => k ≤ f.x.length) (fun (k : Nat) => f.x.length - k) (0) (by simp <;> rfl) ?_ (by simp) ?_ ?_
 ·simp [fK]
 ·simp
 rintro k hk;simp only [List.cons_append, List.nil_append];refine bV fun _ _ Z=>?_;simp (disch:=omega);and_intros<;>(try omega);apply Z;apply aE;refine zi ?_;refine ⟨fun c1=>?_,fun c1=>?_⟩
 ·try simp at c1
  apply aG;apply aC;apply aE;apply aI;refine bV fun _ _ Z=>?_;simp (disch:=omega);and_intros<;>(try omega);apply Z;refine zk [2,3,4,5,8,9] ?_;refine ze ⟨[],[],[],[],[]⟩ [.op {rL:=true},.op {},.op {rL:=true},.op {},.op {},.op {},.op {},.op {rL:=true},.op {},.op {},.op {},.pure,.op {rL:=true,wL:=true}] fun all hall _ Z=>?_;refine aL 8 (by simp) fun _ Y=>?_;simp (disch:=omega);and_intros<;>(try omega);apply Y;simp only [List.drop];refine aL 3 (by simp) fun _ Y=>?_;simp (disch:=omega);and_intros<;>(try omega);apply Y;simp only [List.drop];refine bH fun _ Y=>?_;simp (disch:=omega);refine nG (fun _ => (Sb (fK f q k) f.x[k] f.y[k] _)) ?_;apply Y;simp (disch:=omega);and_intros<;>(try omega);apply Z;apply aN;apply aC;refine zk [2,3,4,5,8,9] ?_;refine Fe fun _ _ Z=>?_;simp (disch:=omega);and_intros<;>(try omega);apply Z;refine bJ (k + 1) ?_ ?_ (aV rfl ?_ (by rw [Ni f q k (by omega) (by omega)]; simp) (by simp))
  ·omega
  ·try dsimp only
   omega
  ·simp (disch:=omega)
 ·try simp at c1
  obtain rfl : k = f.x.length := by omega
  apply bD;apply bE;apply bG;apply aY;apply aC;refine bV fun _ _ Z=>?_;simp (disch:=omega);and_intros<;>(try omega);apply Z;apply aF;simp [aS]
end Go.Proofs.YtighdhfgcdjmeaaGreatDoor
namespace Go.Proofs.YtighdhfgcdjmeaaGreatDoor
open Go Go.Vm
set_option maxRecDepth 20000
set_option linter.all false
set_option maxHeartbeats 8000000
def qZ (L : List EN) (t : TN) (f : FR) : List EN := if SI.fnd nE L t.ID = true then [⟨t.ID, fK (cY t f) (bR L t.ID) (cY t f).x.length⟩] else []
def dU (L : List EN) : Nat → TN → FR → List EN
 | 0, _, _ => []
 | n + 1, t, f => qZ L t f ++ t.kids.flatMap fun k => dU L n k (cY t f)
theorem sL (L : List EN) (t : TN) (f : FR) : (qZ L t f).length ≤ 1 := by unfold qZ; split <;> simp
def iO (cur l : List EN) : List EN := l.foldl (SI.putL nE) cur
theorem wG (l : List EN) : ∀ cur, SI.Sorted nE cur → SI.Sorted nE (iO cur l) := by
 induction l with
 | nil => exact fun _ h => h
 | cons a l ih => exact fun cur h => ih _ (SI.putL_sorted nE h a)
theorem Hb (l : List EN) : ∀ cur : List EN, (iO cur l).length ≤ cur.length + l.length := by
 induction l with
 | nil => exact fun _ => Nat.le_refl _
 | cons a l ih => intro cur; have := ih (SI.putL nE cur a); have := SI.putL_len nE cur a; simp only [List.length_cons]; show (iO (SI.putL nE cur a) l).length ≤ _; omega
theorem Ht (cur a b : List EN) : iO cur (a ++ b) = iO (iO cur a) b := List.foldl_append
theorem Jp (a b : List EN) : SI.ofL nE (a ++ b) = iO (SI.ofL nE a) b := List.foldl_append
theorem En {cur : List EN} (h : SI.Sorted nE cur) (e : EN) : SI.ofL nE (cur ++ [e]) = SI.putL nE cur e := by rw [SI.ofL_snoc, SI.ofL_id nE h]
theorem Pf (a o : Nat) (t : TN) (f : FR) (L cur : List EN) (σ : List (List D)) (h : SO t) (hx : f.x.length ≤ 9000) (hy : f.y.length = f.x.length) (hL : L.length ≤ 99999) (hs : SI.Sorted nE L) (hcl : cur.length ≤ 99999) (hcs : SI.Sorted nE cur) (ha : σ[a]? = some [.sl false ((L).map bP)]) (ho : σ[o]? = some [.sl false ((cur).map bP)]) (hf : SI.fnd nE L t.ID = true) : Ct Tryz.prog 30 [gF t, sG f, .ref a 0, .ref o 0] σ (fun r σ' => r = .tup [sG (cY t f), .bool true] ∧ σ' = σ.set o [.sl false ((SI.putL nE cur ⟨t.ID, fK (cY t f) (bR L t.ID) (cY t f).x.length⟩).map bP)]) := by
 refine zf (rs:=[.cell 6 95,.tmp 7]) Tryz.func30 Tryz.ntmps30 Tryz.results30 ?_;simp only [aQ];refine bV fun _ _ Z=>?_;simp[ha,ho,hf];and_intros<;>(try omega);apply Z;refine bV fun _ _ Z=>?_;refine aB 2 fun _ Y=>?_;simp[ha,ho,hf];and_intros<;>(try omega);apply Y;simp only [List.drop];refine aH fun _ Y=>?_;simp[ha,ho,hf];refine dW (yB f t _ h (by omega) (by omega)) ?_;have hbx : (cY t f).x.length ≤ 10000 ∧ (cY t f).y.length = (cY t f).x.length := by simp [cY]; omega
 generalize hbf : cY t f = bf at hbx ⊢;apply Y;simp[ha,ho,hf];and_intros<;>(try omega);apply Z;apply aE;refine bV fun _ _ Z=>?_;refine aB 3 fun _ Y=>?_;simp[ha,ho,hf];and_intros<;>(try omega);apply Y;simp only [List.drop];refine aH fun _ Y=>?_;simp[ha,ho,hf];refine dW (nN L t.ID _ (by omega) hs) ?_;apply Y;simp[ha,ho,hf];and_intros<;>(try omega);apply Z;refine zk [3,4,5,6,7,8,9] ?_;refine bV fun _ _ Z=>?_;simp[ha,ho,hf];and_intros<;>(try omega);apply Z;refine zi ?_;refine ⟨fun c1=>?_,fun c1=>?_⟩
 ·try simp at c1
  refine zk [3,4,5,6,7,8] ?_;refine ze ⟨[],[],[],[],[]⟩ [.op {rO:=true},.pure,.op {},.op {rL:=true},.op {rL:=true},.op {rL:=true},.pure,.op {},.op {},.op {},.pure,.op {rO:=true,wO:=true}] fun all hall _ Z=>?_;refine aL 1 (by simp) fun _ Y=>?_;simp[ha,ho,hf];and_intros<;>(try omega);apply Y;simp only [List.drop];refine bH fun _ Y=>?_;simp[ha,ho,hf];refine nG (fun _ => (Gt cur _ (by omega))) ?_;apply Y;refine aL 4 (by simp) fun _ Y=>?_;simp[ha,ho,hf];and_intros<;>(try omega);apply Y;simp only [List.drop];refine bH fun _ Y=>?_;simp[ha,ho,hf];refine nG (fun _ => (Oo bf (bR L t.ID) _ hbx.1 hbx.2)) ?_;apply Y;refine aL 3 (by simp) fun _ Y=>?_;simp[ha,ho,hf];and_intros<;>(try omega);apply Y;simp only [List.drop];refine bH fun _ Y=>?_;simp[ha,ho,hf];refine nG (fun _ => (xU (cur ++ [⟨t.ID, fK bf (bR L t.ID) bf.x.length⟩]) _ (by simp; omega))) ?_;apply Y;simp[ha,ho,hf];and_intros<;>(try omega);apply Z;apply aC;refine zk [5,6,7] ?_;refine bV fun _ _ Z=>?_;simp[ha,ho,hf];and_intros<;>(try omega);apply Z;apply aF;simp [aS, En hcs, hbf]
 ·simp at c1
theorem Rd (a o : Nat) (t : TN) (f : FR) (L cur : List EN) (σ : List (List D)) (h : SO t) (hx : f.x.length ≤ 9000) (hy : f.y.length = f.x.length) (hL : L.length ≤ 99999) (hs : SI.Sorted nE L) (hcl : cur.length ≤ 99999) (hcs : SI.Sorted nE cur) (ha : σ[a]? = some [.sl false ((L).map bP)]) (ho : σ[o]? = some [.sl false ((cur).map bP)]) (hf : SI.fnd nE L t.ID = false) : Ct Tryz.prog 30 [gF t, sG f, .ref a 0, .ref o 0] σ (fun r σ' => r = .tup [sG (cY t f), .bool true] ∧ σ' = σ) := by
 refine zf (rs:=[.cell 6 95,.tmp 7]) Tryz.func30 Tryz.ntmps30 Tryz.results30 ?_;simp only [aQ];refine bV fun _ _ Z=>?_;simp[ha,ho,hf];and_intros<;>(try omega);apply Z;refine bV fun _ _ Z=>?_;refine aB 2 fun _ Y=>?_;simp[ha,ho,hf];and_intros<;>(try omega);apply Y;simp only [List.drop];refine aH fun _ Y=>?_;simp[ha,ho,hf];refine dW (yB f t _ h (by omega) (by omega)) ?_;have hbx : (cY t f).x.length ≤ 10000 ∧ (cY t f).y.length = (cY t f).x.length := by simp [cY]; omega
 generalize hbf : cY t f = bf at hbx ⊢;apply Y;simp[ha,ho,hf];and_intros<;>(try omega);apply Z;apply aE;refine bV fun _ _ Z=>?_;refine aB 3 fun _ Y=>?_;simp[ha,ho,hf];and_intros<;>(try omega);apply Y;simp only [List.drop];refine aH fun _ Y=>?_;simp[ha,ho,hf];refine dW (nN L t.ID _ (by omega) hs) ?_;apply Y;simp[ha,ho,hf];and_intros<;>(try omega);apply Z;refine zk [3,4,5,6,7,8,9] ?_;refine bV fun _ _ Z=>?_;simp[ha,ho,hf];and_intros<;>(try omega);apply Z;refine zi ?_;refine ⟨fun c1=>?_,fun c1=>?_⟩
 ·simp at c1
 ·try simp at c1
  apply aG;apply aC;refine bV fun _ _ Z=>?_;simp[ha,ho,hf];and_intros<;>(try omega);apply Z;apply aF;simp [aS, En hcs, hbf]
end Go.Proofs.YtighdhfgcdjmeaaGreatDoor
namespace Go.Proofs.YtighdhfgcdjmeaaGreatDoor
open Go Go.Vm
set_option maxRecDepth 20000
set_option linter.all false
set_option maxHeartbeats 8000000
abbrev xW (l : List EN) : List D := [.sl false (l.map bP)]
theorem Uo (a o : Nat) (t : TN) (f : FR) (L cur : List EN) (σ : List (List D)) (h : SO t) (hx : f.x.length ≤ 9000) (hy : f.y.length = f.x.length) (hL : L.length ≤ 99999) (hs : SI.Sorted nE L) (hcl : cur.length ≤ 99999) (hcs : SI.Sorted nE cur) (ha : σ[a]? = some (xW L)) (ho : σ[o]? = some (xW cur)) :
  Ct Tryz.prog 30 [gF t, sG f, .ref a 0, .ref o 0] σ (fun r σ' => r = .tup [sG (cY t f), .bool true] ∧ σ' = σ.set o (xW (iO cur (qZ L t f)))) := by
 unfold qZ;cases hf : SI.fnd nE L t.ID with
 | true => exact Pf a o t f L cur σ h hx hy hL hs hcl hcs ha ho hf
 | false =>
  have e : σ.set o (xW (iO cur [])) = σ := by
   obtain ⟨h1, h2⟩ := List.getElem?_eq_some_iff.1 ho;show σ.set o (xW cur) = σ
   rw [← h2]; exact List.set_getElem_self h1
  simp only [Bool.false_eq_true, if_false, e];exact Rd a o t f L cur σ h hx hy hL hs hcl hcs ha ho hf
theorem dE {g : TN → List EN} : ∀ ks : List TN, (∀ k ∈ ks, (g k).length ≤ dJ k) → (ks.flatMap g).length ≤ (ks.map dJ).sum
 | [], _ => Nat.le_refl _
 | k :: ks, h => by
  have h1 := h k List.mem_cons_self;have h2 := dE ks fun k' hk' => h k' (List.mem_cons_of_mem _ hk');simp only [List.flatMap_cons, List.length_append, List.map_cons, List.sum_cons]; omega
theorem fM (L : List EN) : ∀ (n : Nat) (t : TN) (f : FR), (dU L n t f).length ≤ dJ t
 | 0, _, _ => Nat.zero_le _
 | n + 1, t, f => by
  have h1 := sL L t f;have h2 := dE (g := fun k => dU L n k (cY t f)) t.kids fun k _ => fM L n k _;have h3 := dF t;simp only [dU, List.length_append]; omega
theorem Mr (l : List TN) (k : Nat) : ((l.take k).map dJ).sum ≤ (l.map dJ).sum := by
 have : (l.map dJ).sum = ((l.take k).map dJ).sum + ((l.drop k).map dJ).sum := by rw [← List.sum_append, ← List.map_append, List.take_append_drop]
 omega
theorem pB (l : List TN) (k : Nat) (h : k < l.length) : ((l.take k).map dJ).sum + dJ l[k] ≤ (l.map dJ).sum := by
 have h1 := Mr l (k + 1);rw [cF l k h, List.map_append, List.sum_append] at h1;simpa using h1
def nX (L : List EN) (n : Nat) (t : TN) (f : FR) (cur : List EN) (k : Nat) : List EN := iO cur (qZ L t f ++ (t.kids.take k).flatMap fun c => dU L n c (cY t f))
theorem Np (L : List EN) (n : Nat) (t : TN) (f : FR) (cur : List EN) : nX L n t f cur 0 = iO cur (qZ L t f) := by simp [nX]
theorem Ho (L : List EN) (n : Nat) (t : TN) (f : FR) (cur : List EN) (k : Nat) (h : k < t.kids.length) : nX L n t f cur (k + 1) = iO (nX L n t f cur k) (dU L n t.kids[k] (cY t f)) := by
 unfold nX;rw [cF _ _ h, List.flatMap_append, ← List.append_assoc, Ht];simp
theorem Ns (L : List EN) (n : Nat) (t : TN) (f : FR) (cur : List EN) : nX L n t f cur t.kids.length = iO cur (dU L (n + 1) t f) := by unfold nX; rw [List.take_length]; rfl
theorem Ms (L : List EN) (n : Nat) (t : TN) (f : FR) (cur : List EN) (k : Nat) : (nX L n t f cur k).length ≤ cur.length + 1 + ((t.kids.take k).map dJ).sum := by
 have h1 := Hb (qZ L t f ++ (t.kids.take k).flatMap fun c => dU L n c (cY t f)) cur;have h2 := sL L t f;have h3 := dE (g := fun c => dU L n c (cY t f)) (t.kids.take k) fun c _ => fM L n c _;unfold nX;simp only [List.length_append] at h1;omega
theorem Tk (L : List EN) (n : Nat) (t : TN) (f : FR) (cur : List EN) (k : Nat) (h : SI.Sorted nE cur) : SI.Sorted nE (nX L n t f cur k) := wG _ _ h
abbrev Rs (a o : Nat) (L : List EN) (n : Nat) (t : TN) : Prop := ∀ (f : FR) (cur : List EN) (τ : List (List D)), f.x.length + n ≤ 9000 → f.y.length = f.x.length → cur.length + dJ t ≤ 99999 → SI.Sorted nE cur → τ[a]? = some (xW L) → τ[o]? = some (xW cur) →
 Ct Tryz.prog 29 [gF t, sG f, .clo (.func 30) [] [.ref a 0, .ref o 0]] τ (fun r τ' => r = .tup [] ∧ τ' = τ.set o (xW (iO cur (dU L n t f))))
theorem Tj (σ : List (List D)) (o : Nat) (x c : List D) (h : σ[o]? = some c) : (σ.set o x)[o]? = some x := by
 rw [List.getElem?_set_self (List.getElem?_eq_some_iff.1 h).1]
theorem Gk (n a o : Nat) (t : TN) (f : FR) (L cur : List EN) (σ : List (List D)) (h : SO t) (hk1 : t.kids.length ≤ 1000) (hao : a ≠ o) (hx : f.x.length + (n + 1) ≤ 9000) (hy : f.y.length = f.x.length) (hL : L.length ≤ 99999) (hs : SI.Sorted nE L) (hcl : cur.length + dJ t ≤ 99999) (hcs : SI.Sorted nE cur) (ha : σ[a]? = some (xW L)) (ho : σ[o]? = some (xW cur)) (ih : ∀ k ∈ t.kids, Rs a o L n k) : Ct Tryz.prog 29 [gF t, sG f, .clo (.func 30) [] [.ref a 0, .ref o 0]] σ (fun r σ' => r = .tup [] ∧ σ' = σ.set o (xW (iO cur (dU L (n + 1) t f)))) := by
 refine zf (rs:=[]) Tryz.func29 Tryz.ntmps29 Tryz.results29 ?_;simp only [aQ];have hce := dF t;have hbl : (cY t f).x.length = f.x.length + 1 ∧ (cY t f).y.length = (cY t f).x.length := by simp [cY, hy]
 refine bV fun _ _ Z=>?_;simp (disch:=omega);and_intros<;>(try omega);apply Z;refine bV fun _ _ Z=>?_;refine aB 3 fun _ Y=>?_;simp (disch:=omega);and_intros<;>(try omega);apply Y;simp only [List.drop];refine aH fun _ Y=>?_;simp (disch:=omega);refine dW (Uo a o t f L cur _ h (by omega) hy hL hs (by omega) hcs ha ho) ?_;apply Y;simp (disch:=omega);and_intros<;>(try omega);apply Z;apply aE;refine bV fun _ _ Z=>?_;simp (disch:=omega);and_intros<;>(try omega);apply Z;refine zi ?_;refine ⟨fun c1=>?_,fun c1=>?_⟩
 ·simp at c1
 ·try simp at c1
  apply aG;apply aC;refine zk [2,3,6] ?_;refine bV fun _ _ Z=>?_;simp (disch:=omega);and_intros<;>(try omega);apply Z;apply aI;refine zk [2,6,20,21,22] ?_;refine fS (fun (k : Nat) => [(22, .d (.v (.int .i64 (k : Int)))), (9, .d (.any))]) (fun (k : Nat) => [[D.int t.ID, D.int t.kind, D.str t.tag, D.str t.text, .sl false (t.classes.map D.str), .sl false (t.attrs.map bY), .sl false (t.styles.map bS), .sl false (t.kids.map mX)], [.sl false ((f).x.map D.int), .sl false ((f).y.map D.int)], [.sl false ((cY t f).x.map D.int), .sl false ((cY t f).y.map D.int)]]) (fun (k : Nat) => σ.set o (xW (nX L n t f cur k))) [9, 22, 23, 24, 25, 26, 27, 28, 29, 30] (fun (k : Nat) => k ≤ t.kids.length) (fun (k : Nat) => t.kids.length - k) (0) (by simp <;> rfl) ?_ (by simp) (by rw [Np]) ?_ ?_
  ·simp [Np]
  ·simp
  rintro k hk;simp only [List.cons_append, List.nil_append];have hfl := Ms L n t f cur k;have hfs := Tk L n t f cur k hcs;have hka : (σ.set o (xW (nX L n t f cur k)))[a]? = some (xW L) := by rw [List.getElem?_set_ne (fun e => hao e.symm)]; exact ha
  have hko := Tj σ o (xW (nX L n t f cur k)) _ ho;refine bV fun _ _ Z=>?_;simp (disch:=omega);and_intros<;>(try omega);apply Z;apply aE;refine zi ?_;refine ⟨fun c2=>?_,fun c2=>?_⟩
  ·try simp at c2
   apply aG;apply aC;apply aE;apply aI;refine bV fun _ _ Z=>?_;simp (disch:=omega);and_intros<;>(try omega);apply Z;refine Fe fun _ _ Z=>?_;refine aB 3 fun _ Y=>?_;simp (disch:=omega);and_intros<;>(try omega);apply Y;simp only [List.drop];refine aH fun _ Y=>?_;simp (disch:=omega);have hsm := pB t.kids k (by assumption);refine dW (ih t.kids[k] (List.getElem_mem _) (cY t f) (nX L n t f cur k) _ (by omega) hbl.2 (by omega) hfs hka hko) ?_;apply Y;simp only [eX];apply Z;apply aN;apply aC;refine zk [2,6,9,20,21,22] ?_;refine Fe fun _ _ Z=>?_;simp (disch:=omega);and_intros<;>(try omega);apply Z;refine bJ (k + 1) ?_ ?_ (aV rfl ?_ (by simp) (by simp [Ho, *]))
   ·omega
   ·try dsimp only
    omega
   ·simp (disch:=omega)
  ·try simp at c2
   obtain rfl : k = t.kids.length := by omega
   apply bD;apply bE;apply bG;apply aY;simp [aS, Ns]
end Go.Proofs.YtighdhfgcdjmeaaGreatDoor
namespace Go.Proofs.YtighdhfgcdjmeaaGreatDoor
open Go Go.Vm
set_option maxRecDepth 20000
set_option linter.all false
set_option maxHeartbeats 8000000
theorem zJ (a o : Nat) (L : List EN) (hao : a ≠ o) (hL : L.length ≤ 99999) (hs : SI.Sorted nE L) : ∀ (n : Nat) (t : TN), n ≤ 1000 → TG t → dJ t ≤ n → Rs a o L n t
 | 0, t, _, _, h => absurd (dF t) (by omega)
 | n + 1, t, hn, hg, h => fun f cur σ hx hy hcl hcs ha ho => by
  cases hg with
  | mk _ hf hk =>
   have hc := dF t;have hkl : ∀ ks : List TN, ks.length ≤ (ks.map dJ).sum := fun ks => by
    induction ks with
    | nil => exact Nat.le_refl _
    | cons a ks ih => have := dF a; simp only [List.map_cons, List.sum_cons, List.length_cons]; omega
   have hkm : ∀ (ks : List TN) (k : TN), k ∈ ks → dJ k ≤ (ks.map dJ).sum := fun ks => by
    induction ks with
    | nil => intro k hk; cases hk
    | cons a ks ih =>
     intro k hk;rcases List.mem_cons.1 hk with rfl | hk
     ·simp
     ·have := ih k hk; simp only [List.map_cons, List.sum_cons]; omega
   have hl2 := hkl t.kids;exact Gk n a o t f L cur σ ⟨by have := hf.1.1; omega, hf.1.2⟩ (by omega) hao hx hy hL hs hcl hcs ha ho fun k hk' => zJ a o L hao hL hs n k (by omega) (hk k hk') (by have := hkm t.kids k hk'; omega)
def qF (l : List EN) (n : Nat) (t : TN) : List EN := SI.ofL nE (l ++ dU (SI.ofL nE l) n t ⟨[], []⟩)
theorem Po (σ : List (List D)) (x y : List D) : (σ ++ [x, y])[σ.length + 1]? = some y ∧ (σ ++ [x, y])[σ.length]? = some x := by
 constructor
 ·rw [List.getElem?_append_right (by omega), show σ.length + 1 - σ.length = 1 by omega]; rfl
 ·rw [List.getElem?_append_right (by omega), Nat.sub_self]; rfl
theorem Bf (n : Nat) (t : TN) (l : List EN) (σ : List (List D)) (hn : n ≤ 1000) (hgt : TG t) (hct : dJ t ≤ n) (hl : l.length ≤ 9999) : Ct Tryz.prog 14 [gF t, .sl false (l.map bP)] σ (fun r σ' => r = .sl false ((qF l n t).map bP) ∧ ∃ J, σ' = σ ++ J) := by
 refine zf (rs:=[.tmp 4]) Tryz.func14 Tryz.ntmps14 Tryz.results14 ?_;simp only [aQ];have hol := SI.ofL_len nE l;have hse := Po σ (xW (SI.ofL nE l)) (xW (SI.ofL nE l));refine zr ⟨[],[],[5,6],[],[]⟩ fun _ _ Z=>?_;simp[aD,aA];and_intros<;>(try omega);apply Z;refine zr ⟨[],[],[5,6],[],[]⟩ fun _ _ Z=>?_;refine aB 1 fun _ Y=>?_;simp[aD,aA];and_intros<;>(try omega);apply Y;simp only [List.drop];refine aH fun _ Y=>?_;simp[aD,aA];refine dW (xU l _ (by omega)) ?_;apply Y;simp[aD,aA];and_intros<;>(try omega);apply Z;refine zr ⟨[],[],[5,6],[],[]⟩ fun _ _ Z=>?_;simp[aD,aA];and_intros<;>(try omega);apply Z;refine zr ⟨[],[],[5,6],[],[]⟩ fun _ _ Z=>?_;refine aB 3 fun _ Y=>?_;simp[aD,aA];and_intros<;>(try omega);apply Y;simp only [List.drop];refine aH fun _ Y=>?_;simp[aD,aA];refine dW (zJ (σ.length + 1) σ.length (SI.ofL nE l) (by omega) (by omega) (SI.ofL_sorted nE l) n t hn hgt hct ⟨[], []⟩ (SI.ofL nE l) (σ ++ [xW (SI.ofL nE l), xW (SI.ofL nE l)]) (by simp; omega) rfl (by omega) (SI.ofL_sorted nE l) hse.1 hse.2) ?_;apply Y;simp only [eX];apply Z;refine zr ⟨[],[],[5,6],[],[]⟩ fun _ _ Z=>?_;simp[aD,aA];and_intros<;>(try omega);apply Z;apply aF;simp [aS, qF, Jp]
theorem Fq (n : Nat) (t : TN) (l : List EN) (σ : List (List D)) (hn : n ≤ 1000) (hgt : TG t) (hct : dJ t ≤ n) (hl : l.length ≤ 9999) : Ct Tryz.prog 14 [gF t, .sl false (l.map bP)] σ (fun r σ' => r = .sl false ((qF l n t).map bP) ∧ σ' = σ) :=
 (Bf n t l σ hn hgt hct hl).trim fun r σ' ⟨hr, J, hs⟩ => ⟨σ, J, hs, rfl, by
  rw [hr];exact Sc.sl fun d hd => by
   obtain ⟨s, _, rfl⟩ := List.mem_map.1 hd;exact Sc.agg fun e he => by simp at he; rcases he with rfl | rfl | rfl | rfl | rfl <;> exact Sc.v _, fun n cs h => .inl h, hr, rfl⟩
end Go.Proofs.YtighdhfgcdjmeaaGreatDoor

