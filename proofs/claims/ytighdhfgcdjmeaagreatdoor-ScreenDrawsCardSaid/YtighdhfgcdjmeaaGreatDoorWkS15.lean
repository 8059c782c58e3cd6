import Derived.Test.YtighdhfgcdjmeaaGreatDoorWkS12
namespace Go.Proofs.YtighdhfgcdjmeaaGreatDoor
open Go Go.Vm
set_option maxRecDepth 20000
set_option linter.all false
set_option maxHeartbeats 8000000
theorem Dr (l : List EN) (hl : l.length ≤ 999999) : ∀ (n : Nat) (t : TN), n ≤ 1000 → TG t → iM t ≤ n → qK l n t
 | 0, t, _, _, h => absurd (fK t) (by omega)
 | n + 1, t, hn, hg, h => fun x y was σ hwas => by
  cases hg with
  | mk _ hf hk =>
   have hc := fK t;have hkl : ∀ ks : List TN, ks.length ≤ (ks.map iM).sum := fun ks => by
    induction ks with
    | nil => exact Nat.le_refl _
    | cons a ks ih => have := fK a; simp only [List.map_cons, List.sum_cons, List.length_cons]; omega
   have hkm : ∀ (ks : List TN) (k : TN), k ∈ ks → iM k ≤ (ks.map iM).sum := fun ks => by
    induction ks with
    | nil => intro k hk; cases hk
    | cons a ks ih =>
     intro k hk;rcases List.mem_cons.1 hk with rfl | hk
     ·simp
     ·have := ih k hk; simp only [List.map_cons, List.sum_cons]; omega
   have hl2 := hkl t.kids;have a1 : SO t := ⟨by have := hf.1.1; omega, hf.1.2⟩;have a2 : t.classes.length ≤ 1000000 := by have := hf.2.2.2; omega
   have a3 : t.text.size ≤ 1000000 := by have := hf.2.2.1; omega
   have a4 : t.kids.length ≤ 1000 := by omega
   have ih : ∀ k ∈ t.kids, qK l n k := fun k hk' => Dr l hl n k (by omega) (hk k hk') (by have := hkm t.kids k hk'; omega);by_cases hq : t.kind = 1
   ·have hid : cU t = false := by unfold cU; simp [hq]
    cases hfd : SI.fnd nE (SI.ofL nE l) t.ID with
    | false => exact Gk n t l x y was σ a1 a2 a3 hl a4 hwas ih hq hfd hid
    | true => exact Ii n t l x y was σ a1 a2 a3 hl a4 hwas ih hq hfd hid
   ·cases hh : rC oN t.classes with
    | true => exact Mz n t l x y was σ a1 a2 a3 hl a4 hwas ih hq hh
    | false =>
     have hid : cU t = false := by unfold cU; rw [hh]; simp
     cases hfd : SI.fnd nE (SI.ofL nE l) t.ID with
     | false => exact Hr n t l x y was σ a1 a2 a3 hl a4 hwas ih hq hh hfd hid
     | true => exact Gb n t l x y was σ a1 a2 a3 hl a4 hwas ih hq hh hfd hid
theorem Sz (L : List EN) (n : Nat) (t : TN) (w j : Nat) : (vU L n t w j).map (fun x => D.v (.int .u8 (x.toNat : Int))) = (List.range w).map fun (i : Nat) => D.v (.int .u8 ((dG L n t i j 32 : Nat) : Int)) := by
 unfold vU;rw [List.map_map];apply List.map_congr_left;intro i _;have := oI L n t i j 32 (by omega);show D.v (.int .u8 ((UInt8.ofNat (dG L n t i j 32)).toNat : Int)) = _
 rw [UInt8.toNat_ofNat_of_lt' (by simp [UInt8.size]; omega)]
def xL (L : List EN) (n : Nat) (t : TN) (j i : Nat) : List D := (List.range i).map fun (i : Nat) => D.v (.int .u8 ((dG L n t i j 32 : Nat) : Int))
theorem Ry (L : List EN) (n : Nat) (t : TN) (j : Nat) : xL L n t j 0 = [] := rfl
theorem Hx (L : List EN) (n : Nat) (t : TN) (j i : Nat) : xL L n t j (i + 1) = xL L n t j i ++ [D.v (.int .u8 ((dG L n t i j 32 : Nat) : Int))] := by unfold xL; rw [List.range_succ, List.map_append]; rfl
@[simp] theorem Ty (L : List EN) (n : Nat) (t : TN) (j i : Nat) : (xL L n t j i).length = i := by simp [xL]
@[simp] theorem Vh (L : List EN) (n : Nat) (t : TN) (j i : Nat) : (∀ d, d ∈ xL L n t j i → d.ncells = 1) ↔ True := ⟨fun _ => trivial, fun _ d hd => by unfold xL at hd; obtain ⟨y, _, rfl⟩ := List.mem_map.1 hd; rfl⟩
theorem Fb : rD Tryz.prog 84 9 := ⟨5, Tryz.underlying84, Tryz.underlying5, Tryz.underlying9⟩
theorem Lt (n : Nat) (t : TN) (l : List EN) (wd hg : Int) (σ : List (List D)) (hl : l.length ≤ 999999) (hce : qK l n t) : Ct Tryz.prog 11 [iT t, .sl false (l.map cH), D.int wd, D.int hg] σ (fun r σ' => r = .sl true ((mJ (SI.ofL nE l) n t wd hg).map D.str) ∧ σ' = σ) := by
 refine zf (rs:=[.tmp 8]) Tryz.func11 Tryz.ntmps11 Tryz.results11 ?_;simp only [aU];have hw1 := vL wd 200 (by omega);have hh1 := vL hg 100 (by omega);have hw2 := (iC wd 200 (by omega)).2;have hh2 := (iC hg 100 (by omega)).2;unfold mJ;generalize lP wd 200 = w at hw1 hw2 ⊢;generalize lP hg 100 = h at hh1 hh2 ⊢;refine zr ⟨[8,11,13,33,41,46],[],[],[],[43]⟩ fun _ _ Z=>?_;simp[hw1,hh1,bX];and_intros<;>(try omega);apply Z;refine zr ⟨[8,11,13,33,41,46],[],[],[],[43]⟩ fun _ _ Z=>?_;simp[hw1,hh1,bX];and_intros<;>(try omega);apply Z;refine zr ⟨[8,11,13,33,41,46],[],[],[],[43]⟩ fun _ _ Z=>?_;simp[hw1,hh1,bX];and_intros<;>(try omega);apply Z;refine zr ⟨[8,11,13,33,41,46],[],[],[],[43]⟩ fun _ _ Z=>?_;simp[hw1,hh1,bX];and_intros<;>(try omega);apply Z;apply aE;refine zk [1,4,8,9,10,11] ?_;refine zr ⟨[8,11,13,33,41,46],[],[],[],[43]⟩ fun _ _ Z=>?_;simp[hw1,hh1,bX];and_intros<;>(try omega);apply Z;apply aH;refine zk [1,4,8,9,10,11,12] ?_;refine dY (fun (j : Nat) => [(12, .d (.v (.int .i64 (j : Int)))), (11, .d (.sl true (((List.range j).map (Jy (SI.ofL nE l) n t w)).map D.str))), (13, .d (.any)), (14, .d (.any))]) (fun (j : Nat) => [[D.int t.ID, D.int t.kind, D.str t.tag, D.str t.text, .sl false (t.classes.map D.str), .sl false (t.attrs.map bW), .sl false (t.styles.map bR), .sl false (t.kids.map iX)]]) [11, 12, 13, 14, 22, 23, 24, 25, 26, 27, 28, 29, 30, 31, 32, 33, 34, 35, 36, 37, 38, 39, 40, 41, 42, 43, 44, 45] (fun (j : Nat) => j ≤ h) (fun (j : Nat) => h - j) (0) (by simp <;> rfl) ?_ (by simp) ?_ ?_
 ·simp
 ·simp
 rintro j hj;simp only [List.cons_append, List.nil_append];apply aE;refine zr ⟨[8,11,13,33,41,46],[],[],[],[43]⟩ fun _ _ Z=>?_;simp[hw1,hh1,bX];and_intros<;>(try omega);apply Z;refine zi ?_;refine ⟨fun c1=>?_,fun c1=>?_⟩
 ·try simp at c1
  apply aF;apply aB;apply aE;apply aH;refine zk [1,4,8,9,10,11,12,13,14] ?_;refine zr ⟨[8,11,13,33,41,46],[],[],[],[43]⟩ fun _ _ Z=>?_;simp[hw1,hh1,bX];and_intros<;>(try omega);apply Z;apply aE;refine zr ⟨[8,11,13,33,41,46],[],[],[],[43]⟩ fun _ _ Z=>?_;simp[hw1,hh1,bX];and_intros<;>(try omega);apply Z;apply aH;refine zk [1,4,8,9,10,11,12,13,14] ?_;refine dY (fun (i : Nat) => [(14, .d (.v (.int .i64 (i : Int)))), (13, .d (.sl true (xL (SI.ofL nE l) n t j i)))]) (fun (i : Nat) => [[D.int t.ID, D.int t.kind, D.str t.tag, D.str t.text, .sl false (t.classes.map D.str), .sl false (t.attrs.map bW), .sl false (t.styles.map bR), .sl false (t.kids.map iX)]]) [13, 14, 28, 29, 30, 31, 32, 33, 34, 35, 36, 37, 38, 39, 40] (fun (i : Nat) => i ≤ w) (fun (i : Nat) => w - i) (0) (by simp <;> rfl) ?_ (by simp) ?_ ?_
  ·simp [Ry]
  ·simp
  rintro i hi;simp only [List.cons_append, List.nil_append];apply aE;refine zr ⟨[8,11,13,33,41,46],[],[],[],[43]⟩ fun _ _ Z=>?_;simp[hw1,hh1,bX];and_intros<;>(try omega);apply Z;refine zi ?_;refine ⟨fun c2=>?_,fun c2=>?_⟩
  ·try simp at c2
   apply aF;apply aB;apply aE;apply aH;refine zk [1,4,8,9,10,11,12,13,14] ?_;refine zt ⟨[8,11,13,33,41,46],[],[],[],[43]⟩ fun _ _ Z=>?_;refine aA 5 fun _ Y=>?_;simp[hw1,hh1,bX];and_intros<;>(try omega);apply Y;simp only [List.drop];refine aI fun _ Y=>?_;simp[hw1,hh1,bX];refine dO (hce i j 32 _ (by omega)) ?_;apply Y;simp[hw1,hh1,bX];and_intros<;>(try omega);apply Z;apply aN;apply aB;refine zk [1,4,8,9,10,11,12,13,14] ?_;refine zt ⟨[8,11,13,33,41,46],[],[],[],[43]⟩ fun _ _ Z=>?_;simp[hw1,hh1,bX];and_intros<;>(try omega);apply Z;refine bL (i + 1) ?_ ?_ (aW rfl ?_ (by simp) (by simp))
   ·omega
   ·try dsimp only
    omega
   ·simp[hw1,hh1,bX,Hx]
  ·try simp at c2
   obtain rfl : w = i := by omega
   apply bB;apply bC;apply bA;apply aS;apply aB;refine zk [1,4,8,9,10,11,12,13,14] ?_;refine zt ⟨[8,11,13,33,41,46],[],[],[],[43]⟩ fun _ _ Z=>?_;refine aA 3 fun _ Y=>?_;simp[hw1,hh1,bX];refine ⟨vU (SI.ofL nE l) n t w j, ⟨Fb, (Sz (SI.ofL nE l) n t w j).symm⟩, ?_⟩;and_intros<;>(try omega);apply Y;simp only [List.drop];simp[hw1,hh1,bX];and_intros<;>(try omega);apply Z;apply aN;apply aB;refine zk [1,4,8,9,10,11,12,13,14] ?_;refine zt ⟨[8,11,13,33,41,46],[],[],[],[43]⟩ fun _ _ Z=>?_;simp[hw1,hh1,bX];and_intros<;>(try omega);apply Z;refine bL (j + 1) ?_ ?_ (aW rfl ?_ (by simp) (by simp))
   ·omega
   ·try dsimp only
    omega
   ·simp[hw1,hh1,bX,List.range_succ,Jy]
 ·try simp at c1
  apply bB;apply bC;apply bA;apply aS;apply aB;refine zk [8,11] ?_;refine zr ⟨[8,11,13,33,41,46],[],[],[],[43]⟩ fun _ _ Z=>?_;simp[hw1,hh1,bX];and_intros<;>(try omega);apply Z;apply aG;simp [aQ];obtain rfl : h = j := by omega
  rfl
end Go.Proofs.YtighdhfgcdjmeaaGreatDoor
namespace Go.Proofs.YtighdhfgcdjmeaaGreatDoor
open Go Go.Vm
set_option maxRecDepth 20000
set_option linter.all false
set_option maxHeartbeats 8000000
def Sk (l : List AT) (k : Nat) : List AT := l.take k
theorem Ql (l : List AT) : Sk l 0 = [] := rfl
theorem zI (l : List AT) (k : Nat) (h : k < l.length) : Sk l (k + 1) = Sk l k ++ [l[k]] := cG l k h
theorem Oa (l : List AT) (k : Nat) : (Sk l k).length ≤ k := by unfold Sk; simp; omega
theorem Nq (l : List AT) : Sk l l.length = l := List.take_length
def Tc (l : List TN) (k : Nat) : List TN := l.take k
theorem Qn (l : List TN) : Tc l 0 = [] := rfl
theorem xU (l : List TN) (k : Nat) (h : k < l.length) : Tc l (k + 1) = Tc l k ++ [l[k]] := cG l k h
theorem Pk (l : List TN) (k : Nat) : (Tc l k).length ≤ k := by unfold Tc; simp; omega
theorem Ov (l : List TN) : Tc l l.length = l := List.take_length
theorem Kh (t : TN) (σ : List (List D)) (hc : t.classes.length ≤ 1000) (ha : t.attrs.length ≤ 1000) (hs : t.styles.length ≤ 1000) (hk1 : t.kids.length ≤ 1000) (ih : ∀ k ∈ t.kids, Qp k) : Ct Tryz.prog 12 [iT t] σ (fun r σ' => r = iT t ∧ ∃ J, σ' = σ ++ J) := by
 refine zf (rs:=[.cell 2 53]) Tryz.func12 Tryz.ntmps12 Tryz.results12 ?_;simp only [aU];refine zr ⟨[31,45,59],[],[3],[],[]⟩ fun _ _ Z=>?_;simp (disch:=omega)[aD,aC];and_intros<;>(try omega);apply Z;refine zd ⟨[31,45,59],[],[3],[],[]⟩ [.op {},.op {rL:=true},.op {},.op {rL:=true},.op {},.op {rL:=true},.op {},.op {rL:=true},.op {},.op {},.op {rL:=true},.op {},.op {},.op {rO:=true,wO:=true},.op {rO:=true,wO:=true}] fun all hall _ Z=>?_;refine bJ 8 (by simp) fun _ Y=>?_;simp (disch:=omega)[aD,aC];and_intros<;>(try omega);apply Y;simp only [List.drop];simp (disch:=omega)[aD,aC];and_intros<;>(try omega);apply Z;apply aE;refine zk [1,2,3] ?_;refine zr ⟨[31,45,59],[],[3],[],[]⟩ fun _ _ Z=>?_;simp (disch:=omega)[aD,aC];and_intros<;>(try omega);apply Z;apply aH;refine zk [1,2,3,24,25,26] ?_;refine iA (fun (k : Nat) => [(26, .d (.v (.int .i64 (k : Int)))), (5, .d (.any))]) (fun (k : Nat) => []) (fun (k : Nat) => [(σ.length, [D.int t.ID, D.int t.kind, D.str t.tag, D.str t.text, .sl false (t.classes.map D.str), .sl true ((Sk t.attrs k).map bW), .sl true (([]).map bR), .sl true (([]).map iX)])]) [5, 26, 27, 28, 29, 30, 31, 32, 33, 34, 35, 36] (fun (k : Nat) => k ≤ t.attrs.length) (fun (k : Nat) => t.attrs.length - k) (0) (by simp <;> rfl) ?_ (by simp) (by simp [aD, Ql]) ?_ ?_
 ·simp [Ql]
 ·simp
 rintro k hk;simp only [List.cons_append, List.nil_append, iJ, gK, List.set_cons_zero, List.set_cons_succ];have htl := Oa t.attrs k;refine zr ⟨[31,45,59],[],[3],[],[]⟩ fun _ _ Z=>?_;simp (disch:=omega)[aD,aC];and_intros<;>(try omega);apply Z;apply aE;refine zi ?_;refine ⟨fun c1=>?_,fun c1=>?_⟩
 ·try simp at c1
  apply aF;apply aB;apply aE;apply aH;refine zr ⟨[31,45,59],[],[3],[],[]⟩ fun _ _ Z=>?_;simp (disch:=omega)[aD,aC];and_intros<;>(try omega);apply Z;refine zt ⟨[31,45,59],[],[3],[],[]⟩ fun _ _ Z=>?_;simp (disch:=omega)[aD,aC];and_intros<;>(try omega);apply Z;apply aN;apply aB;refine zk [1,2,3,5,24,25,26] ?_;refine zt ⟨[31,45,59],[],[3],[],[]⟩ fun _ _ Z=>?_;simp (disch:=omega)[aD,aC];and_intros<;>(try omega);apply Z;refine bL (k + 1) ?_ ?_ (aW rfl ?_ (by simp) (by simp [zI, *]))
  ·omega
  ·try dsimp only
   omega
  ·simp (disch:=omega)[aD,aC,zI]
 ·try simp at c1
  obtain rfl : k = t.attrs.length := by omega
  simp only [Nq];apply bB;apply bC;apply bA;apply aS;apply aB;apply aE;refine zr ⟨[31,45,59],[],[3],[],[]⟩ fun _ _ Z=>?_;simp (disch:=omega)[aD,aC];and_intros<;>(try omega);apply Z;apply aH;refine zk [1,2,3,38,39,40] ?_;refine iA (fun (k : Nat) => [(40, .d (.v (.int .i64 (k : Int)))), (7, .d (.any)), (5, .d (.any))]) (fun (k : Nat) => []) (fun (k : Nat) => [(σ.length, [D.int t.ID, D.int t.kind, D.str t.tag, D.str t.text, .sl false (t.classes.map D.str), .sl true ((t.attrs).map bW), .sl true ((Qi t.styles k).map bR), .sl true (([]).map iX)])]) [5, 7, 40, 41, 42, 43, 44, 45, 46, 47, 48, 49, 50] (fun (k : Nat) => k ≤ t.styles.length) (fun (k : Nat) => t.styles.length - k) (0) (by simp <;> rfl) ?_ (by simp) (by simp [aD, Iu]) ?_ ?_
  ·simp [Iu]
  ·simp
  rintro k hk;simp only [List.cons_append, List.nil_append, iJ, gK, List.set_cons_zero, List.set_cons_succ];have htl := Ef t.styles k;refine zr ⟨[31,45,59],[],[3],[],[]⟩ fun _ _ Z=>?_;simp (disch:=omega)[aD,aC];and_intros<;>(try omega);apply Z;apply aE;refine zi ?_;refine ⟨fun c2=>?_,fun c2=>?_⟩
  ·try simp at c2
   apply aF;apply aB;apply aE;apply aH;refine zr ⟨[31,45,59],[],[3],[],[]⟩ fun _ _ Z=>?_;simp (disch:=omega)[aD,aC];and_intros<;>(try omega);apply Z;refine zk [1,2,3,5,7,38,39,40] ?_;refine zt ⟨[31,45,59],[],[3],[],[]⟩ fun _ _ Z=>?_;simp (disch:=omega)[aD,aC];and_intros<;>(try omega);apply Z;apply aN;apply aB;refine zk [1,2,3,5,7,38,39,40] ?_;refine zt ⟨[31,45,59],[],[3],[],[]⟩ fun _ _ Z=>?_;simp (disch:=omega)[aD,aC];and_intros<;>(try omega);apply Z;refine bL (k + 1) ?_ ?_ (aW rfl ?_ (by simp) (by simp [sF, *]))
   ·omega
   ·try dsimp only
    omega
   ·simp (disch:=omega)[aD,aC,sF]
  ·try simp at c2
   obtain rfl : k = t.styles.length := by omega
   simp only [De];apply bB;apply bC;apply bA;apply aS;apply aB;apply aE;refine zr ⟨[31,45,59],[],[3],[],[]⟩ fun _ _ Z=>?_;simp (disch:=omega)[aD,aC];and_intros<;>(try omega);apply Z;apply aH;refine zk [2,3,52,53,54] ?_;refine iA (fun (k : Nat) => [(54, .d (.v (.int .i64 (k : Int)))), (9, .d (.any)), (5, .d (.any)), (7, .d (.any))]) (fun (k : Nat) => []) (fun (k : Nat) => [(σ.length, [D.int t.ID, D.int t.kind, D.str t.tag, D.str t.text, .sl false (t.classes.map D.str), .sl true ((t.attrs).map bW), .sl true ((t.styles).map bR), .sl true ((Tc t.kids k).map iX)])]) [5, 7, 9, 54, 55, 56, 57, 58, 59, 60, 61, 62, 63, 64, 65] (fun (k : Nat) => k ≤ t.kids.length) (fun (k : Nat) => t.kids.length - k) (0) (by simp <;> rfl) ?_ (by simp) (by simp [aD, Qn]) ?_ ?_
   ·simp [Qn]
   ·simp
   rintro k hk;simp only [List.cons_append, List.nil_append, iJ, gK, List.set_cons_zero, List.set_cons_succ];have htl := Pk t.kids k;refine zr ⟨[31,45,59],[],[3],[],[]⟩ fun _ _ Z=>?_;simp (disch:=omega)[aD,aC];and_intros<;>(try omega);apply Z;apply aE;refine zi ?_;refine ⟨fun c3=>?_,fun c3=>?_⟩
   ·try simp at c3
    apply aF;apply aB;apply aE;apply aH;refine zr ⟨[31,45,59],[],[3],[],[]⟩ fun _ _ Z=>?_;simp (disch:=omega)[aD,aC];and_intros<;>(try omega);apply Z;refine zk [2,3,5,7,9,52,53,54] ?_;refine ze ⟨[31,45,59],[],[3],[],[]⟩ [.op {},.op {rO:=true,wO:=true},.op {rL:=true},.pure,.op {},.op {},.op {},.op {rO:=true,wO:=true}] fun all hall _ Z=>?_;refine bJ 3 (by simp) fun _ Y=>?_;simp (disch:=omega)[aD,aC];and_intros<;>(try omega);apply Y;simp only [List.drop];refine cL fun _ Y=>?_;simp (disch:=omega)[aD,aC];refine An (fun _ => (ih t.kids[k] (List.getElem_mem _) _)) ?_;apply Y;simp (disch:=omega)[aD,aC];and_intros<;>(try omega);apply Z;apply aN;apply aB;refine zk [2,3,5,7,9,52,53,54] ?_;refine zt ⟨[31,45,59],[],[3],[],[]⟩ fun _ _ Z=>?_;simp (disch:=omega)[aD,aC];and_intros<;>(try omega);apply Z;refine bL (k + 1) ?_ ?_ (aW rfl ?_ (by simp) (by simp [xU, *]))
    ·omega
    ·try dsimp only
     omega
    ·simp (disch:=omega)[aD,aC,xU]
   ·try simp at c3
    obtain rfl : k = t.kids.length := by omega
    simp only [Ov];apply bB;apply bC;apply bA;apply aS;apply aB;refine zr ⟨[31,45,59],[],[3],[],[]⟩ fun _ _ Z=>?_;simp (disch:=omega)[aD,aC];and_intros<;>(try omega);apply Z;apply aG;simp [aQ]
end Go.Proofs.YtighdhfgcdjmeaaGreatDoor
namespace Go.Proofs.YtighdhfgcdjmeaaGreatDoor
open Go Go.Vm
set_option maxRecDepth 20000
set_option linter.all false
set_option maxHeartbeats 8000000
theorem Ot {v : VN} (h : VG v) : Qm v := by
 induction h with
 | mk v h hk ih =>
  exact fun i σ hi => (Kn v i σ h hi (fun k hk' => ⟨hk k hk', ih k hk'⟩)).trim fun r σ' ⟨⟨t, hr, hg, hc⟩, J, hs⟩ => ⟨σ, J, hs, rfl, by
   rw [hr];exact Sc.tup fun d hd => by
    simp only [List.mem_cons, List.not_mem_nil, or_false] at hd;rcases hd with rfl | rfl
    ·exact Js _ t
    ·exact Sc.v _, fun n cs h => .inl h, ⟨t, hr, hg, hc⟩, rfl⟩
theorem Dp : ∀ (n : Nat) (t : TN), n ≤ 1000 → TG t → iM t ≤ n → Qp t
 | 0, t, _, _, h => absurd (fK t) (by omega)
 | n + 1, t, hn, hg, h => fun σ => by
  cases hg with
  | mk _ hf hk =>
   have hc := fK t;have hkl : ∀ ks : List TN, ks.length ≤ (ks.map iM).sum := fun ks => by
    induction ks with
    | nil => exact Nat.le_refl _
    | cons a ks ih => have := fK a; simp only [List.map_cons, List.sum_cons, List.length_cons]; omega
   have hkm : ∀ (ks : List TN) (k : TN), k ∈ ks → iM k ≤ (ks.map iM).sum := fun ks => by
    induction ks with
    | nil => intro k hk; cases hk
    | cons a ks ih =>
     intro k hk;rcases List.mem_cons.1 hk with rfl | hk
     ·simp
     ·have := ih k hk; simp only [List.map_cons, List.sum_cons]; omega
   have hl2 := hkl t.kids;exact (Kh t σ (by have := hf.2.2.2; omega) (by have := hf.2.1.1; omega) (by have := hf.1.1; omega) (by omega) fun k hk' => Dp n k (by omega) (hk k hk') (by have := hkm t.kids k hk'; omega)).trim fun r σ' ⟨hr, J, hs⟩ => ⟨σ, J, hs, rfl, by rw [hr]; exact Js _ t, fun n cs h => .inl h, hr, rfl⟩
def Bp (z : Int) (m : Nat) : Nat := (z % 18446744073709551616).toNat &&& m
theorem rI (z : Int) (m : Nat) : Bp z m ≤ m := Nat.and_le_right
theorem dD (z : Int) : IntKind.i64.wrap (((z % 2 ^ IntKind.i64.bits).toNat &&& 31 % 2 ^ IntKind.i64.bits : Nat) : Int) = (Bp z 31 : Int) := by
 have h := rI z 31;show IntKind.i64.wrap ((Bp z 31 : Nat) : Int) = _
 rw [gA (by unfold Go.Vm.inR; simp [IntKind.min, IntKind.max, IntKind.bits, IntKind.signed]; omega)]
theorem dC (z : Int) : IntKind.i64.wrap (((z % 2 ^ IntKind.i64.bits).toNat &&& 15 % 2 ^ IntKind.i64.bits : Nat) : Int) = (Bp z 15 : Int) := by
 have h := rI z 15;show IntKind.i64.wrap ((Bp z 15 : Nat) : Int) = _
 rw [gA (by unfold Go.Vm.inR; simp [IntKind.min, IntKind.max, IntKind.bits, IntKind.signed]; omega)]
theorem Fm (L : List EN) (n : Nat) (t : TN) (wd hg : Int) : (mJ L n t wd hg).length ≤ 100 := by
 have := (iC hg 100 (by omega)).2;unfold mJ; simp; omega
theorem yW (l : List FL) (e : List EN) (z : Int) (σ : List (List D)) (hl : l.length ≤ 9223372036854775807) (hf : ∀ f ∈ l, FO f) (he : e.length ≤ 9223372036854775807) : Ct Tryz.prog 3 [.sl false (l.map wC), .sl false (e.map cH), D.int z] σ (fun r σ' => r = .bool true) := by
 refine zf (rs:=[.tmp 6]) Tryz.func3 Tryz.ntmps3 Tryz.results3 ?_;simp only [aU];have hz1 := rI z 31;have hz2 := rI (z.fdiv (2 ^ min 5 IntKind.i64.bits)) 15;refine bP fun _ _ Z=>?_;simp[dD,dC];and_intros<;>(try omega);apply Z;apply aE;refine bP fun _ _ Z=>?_;refine aI fun _ Y=>?_;simp[dD,dC];refine dO (Iq _) ?_;apply Y;simp[dD,dC];and_intros<;>(try omega);apply Z;refine zi ?_;refine ⟨fun c1=>?_,fun c1=>?_⟩
 ·simp at c1
 ·try simp at c1
  apply aF;apply aB;refine bP fun _ _ Z=>?_;refine aA 1 fun _ Y=>?_;simp[dD,dC];and_intros<;>(try omega);apply Y;simp only [List.drop];refine aI fun _ Y=>?_;simp[dD,dC];refine Tn (Pm l 15 _ (by omega) hl hf) ?_;rintro _ τ1 ⟨⟨v, hr1, hv, hvc⟩, hτ1⟩;subst hr1 hτ1;apply Y;refine aI fun _ Y=>?_;simp[dD,dC];refine Tn (Ot hv 1 _ (by omega)) ?_;rintro _ τ2 ⟨⟨t, hr2, hg2, hcc⟩, hτ2⟩;subst hr2 hτ2;have hc : iM t ≤ 25 := by omega
  apply Y;simp[dD,dC];and_intros<;>(try omega);apply Z;refine bP fun _ _ Z=>?_;refine aA 1 fun _ Y=>?_;simp[dD,dC];and_intros<;>(try omega);apply Y;simp only [List.drop];refine aI fun _ Y=>?_;simp[dD,dC];refine dO (Qt e 15 _ he (by omega)) ?_;have hx : (e.take 15).length ≤ 999999 := by simp; omega
  generalize e.take 15 = x at hx ⊢;apply Y;simp[dD,dC];and_intros<;>(try omega);apply Z;refine zk [2,6,7,9,10] ?_;refine bP fun _ _ Z=>?_;refine aA 8 fun _ Y=>?_;simp[dD,dC];and_intros<;>(try omega);apply Y;simp only [List.drop];simp[dD,dC];and_intros<;>(try omega);apply Z;generalize ((Bp z 31 : Nat) : Int) - 4 = wd;generalize ((Bp (z.fdiv (2 ^ min 5 IntKind.i64.bits)) 15 : Nat) : Int) - 3 = hg;refine zk [6,7,9,10,11,12] ?_;refine zd ⟨[],[],[],[],[]⟩ [.op {rL:=true},.op {},.op {},.op {},.pure,.op {rL:=true},.pure,.op {},.op {},.op {},.pure,.pure,.op {}] fun all hall _ Z=>?_;refine bJ 4 (by simp) fun _ Y=>?_;simp[dD,dC];and_intros<;>(try omega);apply Y;simp only [List.drop];refine cL fun _ Y=>?_;simp[dD,dC];refine An (fun _ => (zU 25 t x wd hg _ (by omega) hg2 hc hx)) ?_;apply Y;refine bJ 1 (by simp) fun _ Y=>?_;simp[dD,dC];and_intros<;>(try omega);apply Y;simp only [List.drop];refine cL fun _ Y=>?_;simp[dD,dC];refine An (fun _ => (Dp 25 t (by omega) hg2 hc _)) ?_;apply Y;refine bJ 3 (by simp) fun _ Y=>?_;simp[dD,dC];and_intros<;>(try omega);apply Y;simp only [List.drop];refine cL fun _ Y=>?_;simp[dD,dC];refine An (fun _ => (Lt 25 t x wd hg _ hx (Dr x hx 25 t (by omega) hg2 hc))) ?_;apply Y;refine cL fun _ Y=>?_;simp[dD,dC];have hdl := Fm (SI.ofL nE x) 25 t wd hg;refine An (fun _ => (Pr (mJ (SI.ofL nE x) 25 t wd hg) (mJ (SI.ofL nE x) 25 t wd hg) _ (by omega) (by omega))) ?_;apply Y;simp[dD,dC];and_intros<;>(try omega);apply Z;apply aG;simp [aQ]
end Go.Proofs.YtighdhfgcdjmeaaGreatDoor

