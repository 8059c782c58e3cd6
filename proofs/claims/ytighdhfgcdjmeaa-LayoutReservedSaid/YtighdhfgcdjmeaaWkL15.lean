import Derived.Test.YtighdhfgcdjmeaaWkL13
namespace Go.Proofs.Ytighdhfgcdjmeaa
open Go Go.Vm
set_option maxRecDepth 20000
set_option linter.all false
set_option maxHeartbeats 8000000
def lA (s : ByteArray) : Bool := decide (2 ≤ s.size) && decide (s.extract 0 2 = ⟨#[116, 45]⟩)
def Qp (l : List AT) : List AT := l.filter fun x => !lA x.name
def wZ (l : List PI) : List PI := l.filter fun x => !lA x.name
theorem yE (s : ByteArray) (σ : List (List D))  : Ct Try.prog 74 [D.str s, D.str ⟨#[116, 45]⟩] σ (fun r σ' => r = .bool (lA s) ∧ σ' = σ) := by
 have h2 : (⟨#[116, 45]⟩ : ByteArray).size = 2 := rfl;refine zf (rs:=[.tmp 4]) Try.func74 Try.ntmps74 Try.results74 ?_;simp only [aM];refine bQ fun _ _ Z=>?_;simp;and_intros<;>(try omega);apply Z;refine Ms ⟨[],[],[],[],[]⟩ fun all hall _ Z=>?_;have ga5 : bK all 5 = some 10 := hall 5;refine aC 6 fun _ Y=>?_;simp[ga5];and_intros<;>(try omega);apply Y;simp only [List.drop];refine eC 10 (by simp <;> rfl) ?_;refine ⟨fun g1 => ?_, fun g1 => ?_⟩
 ·try simp at g1
  simp[ga5];and_intros<;>(try omega);apply Z;apply aF;first | (simp only [aR, h2] at *; simp [aR, lA, *, h2]; done) | (simp [aR, lA, h2]; intro h; omega)
 ·try simp at g1
  simp[ga5];and_intros<;>(try omega);apply Z;apply aF;first | (simp only [aR, h2] at *; simp [aR, lA, *, h2]; done) | (simp [aR, lA, h2]; intro h; omega)
theorem nR (s : ByteArray) (σ : List (List D))  : Ct Try.prog 48 [D.str s, D.str ⟨#[116, 45]⟩] σ (fun r σ' => r = .bool (lA s) ∧ σ' = σ) := by
 refine zf (rs:=[.tmp 4]) Try.func48 Try.ntmps48 Try.results48 ?_;simp only [aM];refine bQ fun _ _ Z=>?_;simp;and_intros<;>(try omega);apply Z;refine bQ fun _ _ Z=>?_;refine aC 2 fun _ Y=>?_;simp;and_intros<;>(try omega);apply Y;simp only [List.drop];refine aD fun _ Y=>?_;simp;refine cD (yE s _) ?_;apply Y;simp;and_intros<;>(try omega);apply Z;apply aF;simp[aR]
theorem Dp (x : AT) (σ : List (List D))  : Ct Try.prog 47 [bR x] σ (fun r σ' => r = .bool (lA x.name) ∧ σ' = σ) := by
 refine zf (rs:=[.tmp 2]) Try.func47 Try.ntmps47 Try.results47 ?_;simp only [aM];refine bQ fun _ _ Z=>?_;simp;and_intros<;>(try omega);apply Z;refine bQ fun _ _ Z=>?_;refine aC 2 fun _ Y=>?_;simp;and_intros<;>(try omega);apply Y;simp only [List.drop];refine aD fun _ Y=>?_;simp;refine cD (nR x.name _) ?_;apply Y;simp;and_intros<;>(try omega);apply Z;apply aF;simp [aR]
theorem Fp (l : List AT) (σ : List (List D)) (hl : l.length ≤ 99999) : Ct Try.prog 25 [.sl false (l.map bR)] σ (fun r σ' => r = .xs 2 (((ofL nA l).filter fun x => !lA x.name).map bR) ∧ σ' = σ) := by
 refine zf (rs:=[.tmp 2]) Try.func25 Try.ntmps25 Try.results25 ?_;simp only [aM];refine zr ⟨[2],[],[],[],[]⟩ fun _ _ Z=>?_;simp;and_intros<;>(try omega);apply Z;refine zr ⟨[2],[],[],[],[]⟩ fun _ _ Z=>?_;refine aC 1 fun _ Y=>?_;simp;and_intros<;>(try omega);apply Y;simp only [List.drop];refine aD fun _ Y=>?_;simp;refine cD (Of l (fun x => lA x.name) 47 [] _ hl (by simp) (by simp) (fun x τ => Dp x τ)) ?_;apply Y;simp;and_intros<;>(try omega);apply Z;apply aF;simp [aR]
theorem Ld (l : List AT) (σ : List (List D)) (hl : l.length ≤ 99999) (hs : Sorted nA l) : Ct Try.prog 25 [.sl false (l.map bR)] σ (fun r σ' => r = .sl false ((Qp l).map bR) ∧ σ' = σ) :=
 (Fp l σ hl).freeze fun r σ' h => by rw [ofL_id nA hs] at h; exact h
theorem El (x : PI) (σ : List (List D))  : Ct Try.prog 50 [bH x] σ (fun r σ' => r = .bool (lA x.name) ∧ σ' = σ) := by
 refine zf (rs:=[.tmp 2]) Try.func50 Try.ntmps50 Try.results50 ?_;simp only [aM];refine bQ fun _ _ Z=>?_;simp;and_intros<;>(try omega);apply Z;refine bQ fun _ _ Z=>?_;refine aC 2 fun _ Y=>?_;simp;and_intros<;>(try omega);apply Y;simp only [List.drop];refine aD fun _ Y=>?_;simp;refine cD (nR x.name _) ?_;apply Y;simp;and_intros<;>(try omega);apply Z;apply aF;simp [aR]
theorem Fx (l : List PI) (σ : List (List D)) (hl : l.length ≤ 99999) : Ct Try.prog 26 [.sl false (l.map bH)] σ (fun r σ' => r = .xs 2 (((ofL nP l).filter fun x => !lA x.name).map bH) ∧ σ' = σ) := by
 refine zf (rs:=[.tmp 2]) Try.func26 Try.ntmps26 Try.results26 ?_;simp only [aM];refine zr ⟨[2],[],[],[],[]⟩ fun _ _ Z=>?_;simp;and_intros<;>(try omega);apply Z;refine zr ⟨[2],[],[],[],[]⟩ fun _ _ Z=>?_;refine aC 1 fun _ Y=>?_;simp;and_intros<;>(try omega);apply Y;simp only [List.drop];refine aD fun _ Y=>?_;simp;refine cD (Px l (fun x => lA x.name) 50 [] _ hl (by simp) (by simp) (fun x τ => El x τ)) ?_;apply Y;simp;and_intros<;>(try omega);apply Z;apply aF;simp [aR]
theorem Kd (l : List PI) (σ : List (List D)) (hl : l.length ≤ 99999) (hs : Sorted nP l) : Ct Try.prog 26 [.sl false (l.map bH)] σ (fun r σ' => r = .sl false ((wZ l).map bH) ∧ σ' = σ) :=
 (Fx l σ hl).freeze fun r σ' h => by rw [ofL_id nP hs] at h; exact h
abbrev AO (t : TN) : Prop := t.attrs.length ≤ 99999 ∧ Sorted nA t.attrs
def gR : Nat → TN → TN
 | 0, t => t
 | n + 1, t => { t with classes := [], attrs := Qp t.attrs, styles := wZ t.styles, kids := t.kids.map (gR n) }
def bk (n : Nat) (t : TN) (k : Nat) : List TN := (t.kids.take k).map (gR n)
theorem Zf (n : Nat) (t : TN) : bk n t 0 = [] := rfl
theorem Qd (n : Nat) (t : TN) (k : Nat) (h : k < t.kids.length) : bk n t (k + 1) = bk n t k ++ [gR n t.kids[k]] := by unfold bk; rw [cS _ _ h, List.map_append]; rfl
theorem Rg (n : Nat) (t : TN) : bk n t t.kids.length = t.kids.map (gR n) := by unfold bk; rw [List.take_length]
theorem Tk (n : Nat) (t : TN) (k : Nat) : (bk n t k).length ≤ k := by unfold bk; rw [List.length_map, List.length_take]; omega
def Vu : Nat → TN → Prop
 | 0, _ => False
 | n + 1, t => AO t ∧ ∀ k ∈ t.kids, Vu n k
abbrev Qs (n : Nat) (t : TN) : Prop := ∀ σ : List (List D), Ct Try.prog 11 [fE t] σ (fun r σ' => r = fE (gR n t) ∧ σ' = σ)
theorem Ig (n : Nat) (t : TN) (σ : List (List D)) (h : SO t) (ha : AO t) (h2 : t.kids.length ≤ 1000) (ih : ∀ k ∈ t.kids, Qs n k) : Ct Try.prog 11 [fE t] σ (fun r σ' => r = fE (gR (n + 1) t) ∧ σ' = σ) := by
 refine zf (rs:=[.cell 2 31]) Try.func11 Try.ntmps11 Try.results11 ?_;simp only [aM];refine zr ⟨[3,22],[],[],[],[]⟩ fun _ _ Z=>?_;simp (disch:=omega);and_intros<;>(try omega);apply Z;refine zd ⟨[3,22],[],[],[],[]⟩ [.op {},.op {rL:=true},.pure,.op {},.op {rL:=true},.pure,.op {},.op {rL:=true,wL:=true},.op {},.op {rL:=true,wL:=true}] fun all hall _ Z=>?_;refine aL 2 (by simp) fun _ Y=>?_;simp (disch:=omega);and_intros<;>(try omega);apply Y;simp only [List.drop];refine aV fun _ Y=>?_;simp (disch:=omega);refine kM (fun _ => (Ld t.attrs _ (by omega) ha.2)) ?_;apply Y;refine aL 2 (by simp) fun _ Y=>?_;simp (disch:=omega);and_intros<;>(try omega);apply Y;simp only [List.drop];refine aV fun _ Y=>?_;simp (disch:=omega);refine kM (fun _ => (Kd t.styles _ (by omega) h.2)) ?_;apply Y;simp (disch:=omega);and_intros<;>(try omega);apply Z;refine zr ⟨[3,22],[],[],[],[]⟩ fun _ _ Z=>?_;simp (disch:=omega);and_intros<;>(try omega);apply Z;refine zr ⟨[3,22],[],[],[],[]⟩ fun _ _ Z=>?_;simp (disch:=omega);and_intros<;>(try omega);apply Z;apply aH;refine zk [1,2,3] ?_;refine zr ⟨[3,22],[],[],[],[]⟩ fun _ _ Z=>?_;simp (disch:=omega);and_intros<;>(try omega);apply Z;apply aN;refine zk [1,2,3,16,17,18] ?_;refine cN (fun (k : Nat) => [(18, .d (.v (.int .i64 (k : Int)))), (3, .d (.sl true ((bk n t k).map zS))), (5, .d (.any))]) [3, 5, 18, 19, 20, 21, 22, 23, 24, 25, 26, 27] (fun (k : Nat) => k ≤ t.kids.length) (fun (k : Nat) => t.kids.length - k) (0) (by simp <;> rfl) ?_ ?_ ?_
 ·simp [Zf]
 ·simp
 rintro k hk;simp only [List.cons_append, List.nil_append];have hbl := Tk n t k;refine zr ⟨[3,22],[],[],[],[]⟩ fun _ _ Z=>?_;simp (disch:=omega);and_intros<;>(try omega);apply Z;apply aH;refine zi ?_;refine ⟨fun c1=>?_,fun c1=>?_⟩
 ·try simp at c1
  apply aK;apply aE;apply aH;apply aN;refine zr ⟨[3,22],[],[],[],[]⟩ fun _ _ Z=>?_;simp (disch:=omega);and_intros<;>(try omega);apply Z;refine zt ⟨[3,22],[],[],[],[]⟩ fun _ _ Z=>?_;refine aC 2 fun _ Y=>?_;simp (disch:=omega);and_intros<;>(try omega);apply Y;simp only [List.drop];refine aD fun _ Y=>?_;simp (disch:=omega);refine cD (ih t.kids[k] (List.getElem_mem _) _) ?_;apply Y;simp (disch:=omega);and_intros<;>(try omega);apply Z;apply aZ;apply aE;refine zk [1,2,3,5,16,17,18] ?_;refine zt ⟨[3,22],[],[],[],[]⟩ fun _ _ Z=>?_;simp (disch:=omega);and_intros<;>(try omega);apply Z;refine bT (k + 1) ?_ ?_ (bI rfl ?_ (by simp) (by simp))
  ·omega
  ·try dsimp only
   omega
  ·simp (disch:=omega)[Qd]
 ·try simp at c1
  obtain rfl : k = t.kids.length := by omega
  rw [Rg];apply bP;apply bN;apply bO;apply bG;apply aE;refine zr ⟨[3,22],[],[],[],[]⟩ fun _ _ Z=>?_;simp (disch:=omega);and_intros<;>(try omega);apply Z;refine zr ⟨[3,22],[],[],[],[]⟩ fun _ _ Z=>?_;simp (disch:=omega);and_intros<;>(try omega);apply Z;apply aF;simp [aR, gR]
theorem Db : ∀ (n : Nat) (t : TN), Bx n t → Vu n t → Qs n t
 | 0, _, h, _ => h.elim
 | n + 1, t, h, ha => fun σ => Ig n t σ h.1 ha.1 h.2.2.1 fun k hk => Db n k (h.2.2.2 k hk) (ha.2 k hk)
end Go.Proofs.Ytighdhfgcdjmeaa
namespace Go.Proofs.Ytighdhfgcdjmeaa
open Go Go.Vm
set_option maxRecDepth 20000
set_option linter.all false
set_option maxHeartbeats 8000000
def Wk : TN := ⟨2, 1, ⟨#[]⟩, ⟨#[97, 98, 99]⟩, [], [], [], []⟩
def Yc : TN := ⟨3, 1, ⟨#[]⟩, ⟨#[100, 101]⟩, [], [], [], []⟩
def Df : TN := ⟨1, 2, ⟨#[112]⟩, ⟨#[]⟩, [], [], [⟨dO, 1⟩, ⟨kW, 9⟩], [Wk, Yc]⟩
theorem Kx (t : TN) (h1 : t.styles = []) (h2 : t.kids = []) (h3 : t.text.size ≤ 1000000) (n : Nat) : Bx (n + 1) t := by
 refine ⟨⟨by rw [h1]; decide, by rw [h1]; exact List.Pairwise.nil⟩, h3, by rw [h2]; decide, fun k hk => ?_⟩;rw [h2] at hk; cases hk
theorem Uj : Bx 3 Df := by
 refine ⟨⟨by decide, by unfold Sorted; decide +kernel⟩, by decide +kernel, by decide, fun k hk => ?_⟩;have : k = Wk ∨ k = Yc := by simpa [Df] using hk
 rcases this with rfl | rfl
 ·exact Kx _ rfl rfl (by decide +kernel) 1
 ·exact Kx _ rfl rfl (by decide +kernel) 1
theorem Un : (cK 3 Df 0 0 50).length ≤ 999999 := by decide +kernel
theorem Ye : (nJ 3 Df 50)[SI.posL nE (nJ 3 Df 50) 3]? = some ⟨3, ⟨1, 2, 2, 1⟩⟩ := by decide +kernel
theorem Tz : SI.fnd nE (nJ 3 Df 50) 3 = true := by decide +kernel
theorem Ru : cU 3 Df 50 = ⟨9, 4⟩ := by decide +kernel
theorem Wv : ofL nP [⟨kW, 9⟩, ⟨dO, 1⟩] = [⟨dO, 1⟩, ⟨kW, 9⟩] := by decide +kernel
abbrev Wj : D := .agg [.v (.int .i64 1), .v (.int .i64 2), .v (.string ⟨#[112]⟩), .v (.string ⟨#[]⟩), .sl false [], .sl false [], .sl false [bH ⟨dO, 1⟩, bH ⟨kW, 9⟩], .sl false [.agg [.v (.int .i64 2), .v (.int .i64 1), .v (.string ⟨#[]⟩), .v (.string ⟨#[97, 98, 99]⟩), .sl false [], .sl false [], .sl false [], .sl false []], .agg [.v (.int .i64 3), .v (.int .i64 1), .v (.string ⟨#[]⟩), .v (.string ⟨#[100, 101]⟩), .sl false [], .sl false [], .sl false [], .sl false []]]]
theorem awX : fE Df = Wj := by simp [Df, Wk, Yc]
theorem Uy (σ : List (List D)) : Ct Try.prog 9 [Wj, D.int 50] σ (fun r σ' => r = .sl false ((nJ 3 Df 50).map cH) ∧ σ' = σ) := awX ▸ Bu 3 Df 50 σ Uj Un
theorem Zb (σ : List (List D)) : Ct Try.prog 14 [Wj, D.int 50] σ (fun r σ' => r = gH ⟨9, 4⟩ ∧ σ' = σ) := awX ▸ Ru ▸ qP 3 Df Uj 50 σ
theorem Vb (σ : List (List D)) : Ct Try.prog 13 [.sl false ((nJ 3 Df 50).map cH), D.int 3] σ (fun r σ' => r = .tup [.agg [D.int 1, D.int 2, D.int 2, D.int 1], .bool true] ∧ σ' = σ) := Pr (nJ 3 Df 50) 3 _ σ (by decide +kernel) (SI.ofL_sorted nE _) Ye Tz
theorem Vd (σ : List (List D)) : Ct Try.prog 12 [.sl false [bH ⟨kW, 9⟩, bH ⟨dO, 1⟩]] σ (fun r σ' => r = .sl false [bH ⟨dO, 1⟩, bH ⟨kW, 9⟩] ∧ σ' = σ) := (sA [⟨kW, 9⟩, ⟨dO, 1⟩] σ (by decide)).freeze fun r σ' h => by rw [Wv] at h; exact h
theorem Is  (σ : List (List D))  : Ct Try.prog 4 [] σ (fun r σ' => r = .bool true ∧ σ' = σ) := by
 refine zf (rs:=[.tmp 0]) Try.func4 Try.ntmps4 Try.results4 ?_;simp only [aM];refine bQ fun _ _ Z=>?_;simp[show List.range 2 = [0,1] from rfl];and_intros<;>(try omega);apply Z;refine bQ fun _ _ Z=>?_;refine aC 3 fun _ Y=>?_;simp[show List.range 2 = [0,1] from rfl];and_intros<;>(try omega);apply Y;simp only [List.drop];refine aD fun _ Y=>?_;simp[show List.range 2 = [0,1] from rfl];refine cD (Vd _) ?_;apply Y;simp[show List.range 2 = [0,1] from rfl];and_intros<;>(try omega);apply Z;refine bQ fun _ _ Z=>?_;refine aC 1 fun _ Y=>?_;simp[show List.range 2 = [0,1] from rfl];and_intros<;>(try omega);apply Y;simp only [List.drop];refine aD fun _ Y=>?_;simp[show List.range 2 = [0,1] from rfl];refine cD (Uy _) ?_;apply Y;refine aD fun _ Y=>?_;simp[show List.range 2 = [0,1] from rfl];refine cD (Vb _) ?_;apply Y;simp[show List.range 2 = [0,1] from rfl];and_intros<;>(try omega);apply Z;refine zk [0,1,2,3] ?_;refine Ms ⟨[],[],[],[],[]⟩ fun all hall _ Z=>?_;have ga1 : bK all 1 = some 19 := hall 1;have ga6 : bK all 6 = some 24 := hall 6;refine aC 2 fun _ Y=>?_;simp[show List.range 2 = [0,1] from rfl,ga1,ga6];and_intros<;>(try omega);apply Y;simp only [List.drop];refine eC 19 (by simp <;> rfl) ?_;refine ⟨fun g1 => ?_, fun g1 => ?_⟩
 ·try simp at g1
  refine aC 5 fun _ Y=>?_;simp[show List.range 2 = [0,1] from rfl,ga1,ga6];and_intros<;>(try omega);apply Y;simp only [List.drop];refine eC 24 (by simp <;> rfl) ?_;refine ⟨fun g2 => ?_, fun g2 => ?_⟩
  ·try simp at g2
   refine aC 1 fun _ Y=>?_;simp[show List.range 2 = [0,1] from rfl,ga1,ga6];and_intros<;>(try omega);apply Y;simp only [List.drop];refine zg ga6 fun _ Y=>?_;simp[show List.range 2 = [0,1] from rfl,ga1,ga6];refine cD (Zb _) ?_;apply Y;simp[show List.range 2 = [0,1] from rfl,ga1,ga6];and_intros<;>(try omega);apply Z;apply aF;simp [aR]
  ·simp at g2
 ·simp at g1
end Go.Proofs.Ytighdhfgcdjmeaa

