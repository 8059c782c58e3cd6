import Derived.Test.YtighdhfgcdjmeaaDoorVmTab
import Derived.Test.YtighdhfgcdjmeaaDoorVmZ
import Derived.Test.YtighdhfgcdjmeaaDoorVmX6
namespace Go.Proofs.YtighdhfgcdjmeaaDoor
open Go Go.Vm
set_option maxRecDepth 20000
set_option linter.all false
set_option maxHeartbeats 8000000
abbrev Ls := List ByteArray
@[simp] abbrev dl (l : Ls) : D := .sl false (l.map D.str)
@[simp] abbrev dlo (l : Ls) : D := .sl true (l.map D.str)
def zD (n : Nat) (s : ByteArray) : ByteArray := if n < s.size then s.extract 0 n else s
theorem Gs (n : Nat) (s : ByteArray) : (zD n s).size ≤ n := by
 unfold zD; split
 ·simp; omega
 ·omega
theorem Mw (s : ByteArray) (n : Nat) (σ : List (List D)) (hn : n ≤ 1000000) : Ct Tryd.prog 6 [D.str s, D.int n] σ (fun r σ' => r = .v (.string (zD n s)) ∧ σ' = σ) := by
 refine zf (rs:=[.tmp 4]) Tryd.func6 Tryd.ntmps6 Tryd.results6 ?_;simp only [aX];refine cN fun _ _ Z=>?_;simp;and_intros<;>(try omega);apply Z;apply aG;refine cN fun _ _ Z=>?_;simp;and_intros<;>(try omega);apply Z;refine zi ?_;refine ⟨fun c1=>?_,fun c1=>?_⟩
 ·try simp at c1
  refine cN fun _ _ Z=>?_;simp;and_intros<;>(try omega);apply Z;apply aI;apply bP;simp [bE, zD, c1]
 ·try simp at c1
  apply aM;apply aC;refine cN fun _ _ Z=>?_;simp;and_intros<;>(try omega);apply Z;apply aI;simp [bE, zD];intro h; omega
structure AT where
 name : ByteArray
 value : ByteArray
 deriving DecidableEq
@[simp] abbrev rF (s : AT) : D := .agg [.v (.string s.name), .v (.string s.value)]
structure PI where
 name : ByteArray
 value : Int
 deriving DecidableEq
@[simp] abbrev bT (s : PI) : D := .agg [.v (.string s.name), .v (.int .i64 s.value)]
structure RC where
 x : Int
 y : Int
 w : Int
 h : Int
 deriving DecidableEq
@[simp] abbrev Cs (s : RC) : D := .agg [.v (.int .i64 s.x), .v (.int .i64 s.y), .v (.int .i64 s.w), .v (.int .i64 s.h)]
structure EN where
 ID : Int
 rect : RC
 deriving DecidableEq
@[simp] abbrev bX (s : EN) : D := .agg [.v (.int .i64 s.ID), .v (.int .i64 s.rect.x), .v (.int .i64 s.rect.y), .v (.int .i64 s.rect.w), .v (.int .i64 s.rect.h)]
def cE (x : EN) : List D := [D.int x.ID, D.int x.rect.x, D.int x.rect.y, D.int x.rect.w, D.int x.rect.h]
def cA (x : AT) : List D := [D.str x.name, D.str x.value]
def cP (x : PI) : List D := [D.str x.name, D.int x.value]
def gA {α : Type} (l : List α) (i : Nat) (x : α) : List α := l.take i ++ x :: l.drop i
theorem gB {α : Type} (l : List α) (i : Nat) (x : α) (h : i ≤ l.length) : (gA l i x).length = l.length + 1 := by simp [gA]; omega
def oR (k : Nat) : D := if k = 1 then .any else .agg (List.replicate k .any)
theorem lT {k : Nat} : (oR k).cells = List.replicate k .any := by
 unfold oR;split
 ·rename_i h; subst h; rfl
 ·rfl
theorem Kc {k : Nat} : (oR k).ncells = k ∧ (oR k).arr = true := by
 constructor
 ·rw [← bK, lT, List.length_replicate]
 ·unfold D.arr; rw [lT, List.all_eq_true]; intro x hx; rw [List.eq_of_mem_replicate hx]; rfl
section
variable {α : Type} {f : α → List D} {d : α → D} {k : Nat}
theorem At (hd : ∀ a, (d a).cells = f a) (hf : ∀ a, (f a).length = k) (l : List α) (i r : Nat) (hi : i < l.length) (hr : k ≤ r) : ((l.drop i).map d ++ [oR k]).flatMap D.cells <+: List.drop (i * k) (l.flatMap f ++ List.replicate r .any) := by
 have e : l.flatMap f = (l.take i).flatMap f ++ (l.drop i).flatMap f := by rw [← List.flatMap_append, List.take_append_drop]
 rw [e, List.append_assoc, ← fF hf l i hi, List.drop_left, List.flatMap_append, bD hd];refine ⟨List.replicate (r - k) .any, ?_⟩;simp only [List.flatMap_cons, List.flatMap_nil, List.append_nil, lT, List.append_assoc, List.replicate_append_replicate];rw [show k + (r - k) = r by omega]
theorem vK (hd : ∀ a, (d a).cells = f a) (hf : ∀ a, (f a).length = k) (l : List α) (i r : Nat) (hi : i < l.length) (hr : k ≤ r) : aY (l.flatMap f ++ List.replicate r .any) ((i + 1) * k) ((((l.drop i).map d ++ [oR k]).take (l.length - i)).flatMap D.cells) = (l.take (i + 1)).flatMap f ++ ((l.drop i).flatMap f ++ List.replicate (r - k) .any) := by
 have e : l.flatMap f = (l.take (i + 1)).flatMap f ++ (l.drop (i + 1)).flatMap f := by rw [← List.flatMap_append, List.take_append_drop]
 have e2 : ((l.drop i).map d ++ [oR k]).take (l.length - i) = (l.drop i).map d := by
  rw [List.take_append_of_le_length (by simp), List.take_of_length_le (by simp)]
 have e3 : (l.flatMap f ++ List.replicate r (D.any)) = (l.take (i + 1)).flatMap f ++ (((l.drop (i + 1)).flatMap f ++ List.replicate k .any) ++ List.replicate (r - k) .any) := by
  rw [e, List.append_assoc, List.append_assoc, List.replicate_append_replicate, show k + (r - k) = r by omega]
 have e4 : ((l.take (i + 1)).flatMap f).length = (i + 1) * k := by rw [bG hf, List.length_take, Nat.min_eq_left (by omega)]
 rw [e2, bD hd, e3, ← e4];refine gW _ _ _ _ ?_;rw [List.length_append, bG hf, bG hf, List.length_replicate, List.length_drop, List.length_drop, ← Nat.succ_mul];congr 1; omega
theorem xM (hf : ∀ a, (f a).length = k) (l : List α) (i : Nat) (x : α) (R : List D) (hi : i < l.length) : aY ((l.take (i + 1)).flatMap f ++ ((l.drop i).flatMap f ++ R)) (i * k) (f x) = (gA l i x).flatMap f ++ R := by
 have e : (l.take (i + 1)).flatMap f = (l.take i).flatMap f ++ f l[i] := by rw [fT l i hi, List.flatMap_append]; simp
 rw [e, List.append_assoc, ← fF hf l i hi, gW _ _ _ _ (by rw [hf, hf])];simp [gA]
theorem qY (hd : ∀ a, (d a).cells = f a) (l : List α) (i r : Nat) : ((l.take i).map d).flatMap D.cells <+: l.flatMap f ++ List.replicate r .any := by
 rw [bD hd];have e : l.flatMap f = (l.take i).flatMap f ++ (l.drop i).flatMap f := by rw [← List.flatMap_append, List.take_append_drop]
 rw [e, List.append_assoc];exact List.prefix_append _ _
theorem sH (hd : ∀ a, (d a).cells = f a) (l : List α) (i : Nat) : ((l.take i).map d).flatMap D.cells <+: l.flatMap f := by
 have := qY (f := f) hd l i 0;simpa using this
theorem fV (hd : ∀ a, (d a).ncells = k ∧ (d a).arr = true) (l : List α) : ∀ y ∈ l.map d, y.ncells = k ∧ y.arr = true := fun y hy => by
 obtain ⟨a, _, rfl⟩ := List.mem_map.1 hy;exact hd a
theorem Hp (hd : ∀ a, (d a).ncells = k ∧ (d a).arr = true) (l : List α) : ∀ y ∈ l.map d ++ [oR k], y.ncells = k ∧ y.arr = true := fun y hy => by
 rcases List.mem_append.1 hy with h | h
 ·exact fV hd l y h
 ·simp at h; subst h; exact Kc
theorem vU (hd : ∀ a, (d a).cells = f a) (hf : ∀ a, (f a).length = k) (l : List α) (i r : Nat) (hi : i < l.length) : ((l.drop i).map d).flatMap D.cells <+: List.drop (i * k) (l.flatMap f ++ List.replicate r .any) := by
 have e : l.flatMap f = (l.take i).flatMap f ++ (l.drop i).flatMap f := by rw [← List.flatMap_append, List.take_append_drop]
 rw [e, List.append_assoc, ← fF hf l i hi, List.drop_left, bD hd];exact List.prefix_append _ _
theorem yS {Z : D} (hZ : Z.ncells = k) : ∀ n : Nat, ((List.replicate n Z).flatMap D.cells).length = n * k
 | 0 => by simp
 | n + 1 => by rw [List.replicate_succ, List.flatMap_cons, List.length_append, yS hZ n, bK, hZ, Nat.succ_mul]; omega
theorem wF (hf : ∀ a, (f a).length = k) (l : List α) (i : Nat) (x : α) (R : List D) (hi : i < l.length) (hR : k ≤ R.length) : aY ((l.take i).flatMap f ++ R) (i * k) (f x) = (l.take i).flatMap f ++ (f x ++ R.drop k) := by
 conv => lhs; rw [← List.take_append_drop k R]
 rw [← fF hf l i hi, gW _ _ _ _ (by rw [hf, List.length_take]; omega)]
theorem uZ (hd : ∀ a, (d a).cells = f a) (hf : ∀ a, (f a).length = k) (l : List α) (i : Nat) (x : α) (R : List D) (hi : i < l.length) (hR : (l.length - i) * k ≤ R.length) : aY ((l.take i).flatMap f ++ (f x ++ R)) ((i + 1) * k) (((l.drop i).map d).flatMap D.cells) = (gA l i x).flatMap f ++ R.drop ((l.length - i) * k) := by
 have e : ((l.take i).flatMap f ++ f x).length = (i + 1) * k := by rw [List.length_append, fF hf l i hi, hf, Nat.succ_mul]
 conv => lhs; rw [← List.take_append_drop ((l.length - i) * k) R]
 rw [← List.append_assoc, ← e, gW _ _ _ _ (by rw [bD hd, bG hf, List.length_drop, List.length_take]; omega), bD hd];simp [gA]
end
theorem cZ : xY Tryd.prog 68 := by
 obtain ⟨ti, zv, h1, h2, _⟩ := cX Rw;exact ⟨_, 30, 4, 49, ti, Tryd.func68, by kernel_rfl, by kernel_rfl, by kernel_rfl, by kernel_rfl, h1, h2⟩
theorem Eu (l : List PI) (x : PI) (i : Nat) (σ : List (List D)) (hl : l.length ≤ 1000000) (hi : i ≤ l.length) : Ct Tryd.prog 46 [.xs 2 (l.map bT), D.int i, .sl true [bT x]] σ (fun r σ' => r = .xs 2 ((gA l i x).map bT) ∧ ∃ J, σ' = σ ++ J) := by
 refine zf (rs:=[.tmp 6]) Tryd.func46 Tryd.ntmps46 Tryd.results46 ?_;simp only [aX];refine fW 0 2 rfl (by decide) fun cap rest hcap hcm hrest hk0 hes => ?_;subst hrest;simp only [List.length_map] at hcap ⊢;rw [bD (f := cP) (fun _ => rfl)];refine zr ⟨[0,6,9,17,23,55,61,83,94],[],[],[12,19,25,34,43,50,53,60,66,73,76,80],[30,40,45,54,67,77,82]⟩ fun _ _ Z=>?_;simp (disch:=omega)[cZ,-aH,aW,aP,aD,aB];and_intros<;>(try omega);apply Z;refine zr ⟨[0,6,9,17,23,55,61,83,94],[],[],[12,19,25,34,43,50,53,60,66,73,76,80],[30,40,45,54,67,77,82]⟩ fun _ _ Z=>?_;simp (disch:=omega)[cZ,-aH,aW,aP,aD,aB];and_intros<;>(try omega);apply Z;refine zr ⟨[0,6,9,17,23,55,61,83,94],[],[],[12,19,25,34,43,50,53,60,66,73,76,80],[30,40,45,54,67,77,82]⟩ fun _ _ Z=>?_;simp (disch:=omega)[cZ,-aH,aW,aP,aD,aB];and_intros<;>(try omega);apply Z;apply aG;refine zr ⟨[0,6,9,17,23,55,61,83,94],[],[],[12,19,25,34,43,50,53,60,66,73,76,80],[30,40,45,54,67,77,82]⟩ fun _ _ Z=>?_;simp (disch:=omega)[cZ,-aH,aW,aP,aD,aB];and_intros<;>(try omega);apply Z;refine zi ?_;refine ⟨fun c1=>?_,fun c1=>?_⟩
 ·simp at c1
 ·try simp at c1
  apply aM;apply aC;refine zr ⟨[0,6,9,17,23,55,61,83,94],[],[],[12,19,25,34,43,50,53,60,66,73,76,80],[30,40,45,54,67,77,82]⟩ fun _ _ Z=>?_;simp (disch:=omega)[cZ,-aH,aW,aP,aD,aB];and_intros<;>(try omega);apply Z;apply aG;refine zk [0,1,2,6,7,8] ?_;refine zr ⟨[0,6,9,17,23,55,61,83,94],[],[],[12,19,25,34,43,50,53,60,66,73,76,80],[30,40,45,54,67,77,82]⟩ fun _ _ Z=>?_;simp (disch:=omega)[cZ,-aH,aW,aP,aD,aB];and_intros<;>(try omega);apply Z;refine zi ?_;refine ⟨fun c2=>?_,fun c2=>?_⟩
  ·try simp at c2
   refine zr ⟨[0,6,9,17,23,55,61,83,94],[],[],[12,19,25,34,43,50,53,60,66,73,76,80],[30,40,45,54,67,77,82]⟩ fun _ _ Z=>?_;refine aA 3 fun _ Y=>?_;simp (disch:=omega)[cZ,-aH,aW,aP,aD,aB];refine ⟨by first | rfl | exact ⟨rfl, rfl⟩ | trivial, _, l.map bT, ⟨rfl, by simp only [List.length_append, bG (f := cP) (k := 2) (fun _ => rfl), List.length_replicate]; omega, by simp, hes, by rw [bD (f := cP) (fun _ => rfl)]; exact List.prefix_append _ _, by simp; omega, by simp; omega⟩, ?_⟩;and_intros<;>(try omega);apply Y;simp only [List.drop];simp (disch:=omega)[cZ,-aH,aW,aP,aD,aB];and_intros<;>(try omega);apply Z;apply aI;apply bP;obtain rfl : i = l.length := by omega
   simp [bE, gA]
  ·try simp at c2
   apply aM;apply aC;apply aG;refine zr ⟨[0,6,9,17,23,55,61,83,94],[],[],[12,19,25,34,43,50,53,60,66,73,76,80],[30,40,45,54,67,77,82]⟩ fun _ _ Z=>?_;simp (disch:=omega)[cZ,-aH,aW,aP,aD,aB];and_intros<;>(try omega);apply Z;refine zi ?_;refine ⟨fun c3=>?_,fun c3=>?_⟩
   ·try simp at c3
    refine zk [0,1,2,6,7,8] ?_;refine zr ⟨[0,6,9,17,23,55,61,83,94],[],[],[12,19,25,34,43,50,53,60,66,73,76,80],[30,40,45,54,67,77,82]⟩ fun _ _ Z=>?_;refine aA 8 fun _ Y=>?_;simp (disch:=omega)[cZ,-aH,aW,aP,aD,aB];and_intros<;>(try omega);apply Y;simp only [List.drop];refine aA 1 fun _ Y=>?_;simp (disch:=omega)[cZ,-aH,aW,aP,aD,aB];refine ⟨(l.take i).map bT, ⟨⟨by simp; omega, by first | exact sH (f := cP) (fun _ => rfl) l i | exact qY (f := cP) (fun _ => rfl) l i _⟩, (fV (d := bT) (fun _ => ⟨rfl, rfl⟩) _), by omega, by omega, by omega, by omega, by first | rfl | exact ⟨rfl, rfl⟩ | trivial⟩, ?_⟩;and_intros<;>(try omega);apply Y;simp only [List.drop];simp (disch:=omega)[cZ,-aH,aW,aP,aD,aB];and_intros<;>(try omega);apply Z;refine rX 9 2 rfl (by decide) fun cap2 rest2 hcap2 hcm2 hrest2 hk2 hes2 => ?_;simp only [List.length_append, List.length_map, List.length_take, List.length_replicate, Nat.min_eq_left hi] at hcap2 hrest2 ⊢;rw [List.flatMap_append, show List.flatMap D.cells (List.take i (List.map bT l)) = (l.take i).flatMap cP from by rw [← List.map_take]; exact bD (f := cP) (fun _ => rfl) _];simp only [List.append_assoc];have hR : ((List.replicate (l.length + 1 - i) (jM 2 #[.string ⟨#[]⟩, .int .i64 0])).flatMap D.cells ++ rest2).length = (cap2 - i) * 2 := by rw [List.length_append, yS (k := 2) rfl, hrest2]; omega
    generalize (List.replicate (l.length + 1 - i) (jM 2 #[.string ⟨#[]⟩, .int .i64 0])).flatMap D.cells ++ rest2 = R at hR ⊢;refine zk [0,1,2,6,7,8,9] ?_;refine zr ⟨[0,6,9,17,23,55,61,83,94],[],[],[12,19,25,34,43,50,53,60,66,73,76,80],[30,40,45,54,67,77,82]⟩ fun _ _ Z=>?_;simp (disch:=omega)[cZ,-aH,aW,aP,aD,aB];have hlt : i < l.length := by omega
    refine ⟨by omega, [bT x], _, ⟨rfl, (fun y hy => by simp only [List.mem_singleton] at hy; subst hy; exact ⟨rfl, rfl⟩), rfl, by simp only [List.length_append, bG (f := cP) (k := 2) (fun _ => rfl), show ∀ a, (cP a).length = 2 from fun _ => rfl, List.length_replicate, List.length_map, List.length_drop, List.length_take, List.length_cons, List.length_nil] at *; omega⟩, ?_⟩;rw [show min [bT x].length (l.length + 1 - i) = 1 by first | (simp; done) | (simp; omega), show List.flatMap D.cells (List.take 1 [bT x]) = cP x from rfl];have row := wF (f := cP) (k := 2) (fun _ => rfl) l i x R hlt (by rw [hR]; omega)
    skip
    rw [row];clear row;have hR3 : (R.drop 2).length = (cap2 - i - 1) * 2 := by rw [List.length_drop, hR]; omega
    generalize R.drop 2 = R3 at hR3 ⊢;and_intros<;>(try omega);apply Z;refine zk [0,1,2,6,7,8,9] ?_;refine zd ⟨[0,6,9,17,23,55,61,83,94],[],[],[12,19,25,34,43,50,53,60,66,73,76,80],[30,40,45,54,67,77,82]⟩ [.op {},.op {},.op {},.op {},.op {},.op {},.op {},.op {},.op {rO:=true,wO:=true}] fun all hall _ Z=>?_;refine eQ 8 (by simp) fun _ Y=>?_;simp (disch:=omega)[cZ,-aH,aW,aP,aD,aB];and_intros<;>(try omega);apply Y;simp only [List.drop];simp (disch:=omega)[cZ,-aH,aW,aP,aD,aB];refine ⟨(l.drop i).map bT, _, ⟨⟨by simp, by have := vU (f := cP) (d := bT) (k := 2) (fun _ => rfl) (fun _ => rfl) l i 0 hlt; first | exact this | simpa using this⟩, (fV (d := bT) (fun _ => ⟨rfl, rfl⟩) _), rfl, by simp only [List.length_append, bG (f := cP) (k := 2) (fun _ => rfl), show ∀ a, (cP a).length = 2 from fun _ => rfl, List.length_replicate, List.length_map, List.length_drop, List.length_take, List.length_cons, List.length_nil] at *; omega⟩, ?_⟩;rw [show min ((l.drop i).map bT).length (l.length - i) = l.length - i by simp, List.take_of_length_le (show ((l.drop i).map bT).length ≤ l.length - i by simp)];have row := uZ (f := cP) (d := bT) (k := 2) (fun _ => rfl) (fun _ => rfl) l i x R3 hlt (by rw [hR3]; omega)
    skip
    rw [row];clear row;have hR4 : (R3.drop ((l.length - i) * 2)).length = (cap2 - i - 1 - (l.length - i)) * 2 := by rw [List.length_drop, hR3]; omega
    generalize R3.drop _ = R4 at hR4 ⊢;and_intros<;>(try omega);apply Z;refine zk [0,1,2,6,7,8,9] ?_;refine zr ⟨[0,6,9,17,23,55,61,83,94],[],[],[12,19,25,34,43,50,53,60,66,73,76,80],[30,40,45,54,67,77,82]⟩ fun _ _ Z=>?_;simp (disch:=omega)[cZ,-aH,aW,aP,aD,aB];and_intros<;>(try omega);apply Z;refine eC 6 2 (σ.length + 1) (l.length + 1) cap2 ((gA l i x).map bT) ((gA l i x).flatMap cP ++ R4) (by simp <;> rfl) (by simp [aW, aD]) (by omega) (by have := gB l i x hi; simp only [List.length_append, bG (f := cP) (k := 2) (fun _ => rfl), this] at *; omega) (by simp [gB l i x hi]) (fV (d := bT) (fun _ => ⟨rfl, rfl⟩) _) (by rw [bD (f := cP) (fun _ => rfl)]; exact List.prefix_append _ _) ?_;apply aI;apply bP;simp [bE]
   ·try simp at c3
    apply aM;apply aC;refine zk [0,1,2,6,7,8] ?_;refine zr ⟨[0,6,9,17,23,55,61,83,94],[],[],[12,19,25,34,43,50,53,60,66,73,76,80],[30,40,45,54,67,77,82]⟩ fun _ _ Z=>?_;simp (disch:=omega)[cZ,-aH,aW,aP,aD,aB];and_intros<;>(try omega);apply Z;apply aG;refine zk [0,1,2,6,7,8] ?_;refine zr ⟨[0,6,9,17,23,55,61,83,94],[],[],[12,19,25,34,43,50,53,60,66,73,76,80],[30,40,45,54,67,77,82]⟩ fun _ _ Z=>?_;simp (disch:=omega)[cZ,-aH,aW,aP,aD,aB];and_intros<;>(try omega);apply Z;refine zi ?_;refine ⟨fun c4=>?_,fun c4=>?_⟩
    ·try simp at c4
     refine zk [0,1,2,6,7,8] ?_;refine zd ⟨[0,6,9,17,23,55,61,83,94],[],[],[12,19,25,34,43,50,53,60,66,73,76,80],[30,40,45,54,67,77,82]⟩ [.op {},.op {},.op {},.op {},.op {},.op {},.op {},.op {},.op {rO:=true,wO:=true}] fun all hall _ Z=>?_;refine eQ 8 (by simp) fun _ Y=>?_;simp (disch:=omega)[cZ,-aH,aW,aP,aD,aB];and_intros<;>(try omega);apply Y;simp only [List.drop];simp (disch:=omega)[cZ,-aH,aW,aP,aD,aB];have hlt : i < l.length := by omega
     refine ⟨(l.drop i).map bT ++ [oR 2], _, ⟨⟨by first | (simp; done) | (simp; omega), by have := At (f := cP) (d := bT) (k := 2) (fun _ => rfl) (fun _ => rfl) l i ((cap - l.length) * 2) hlt (show 2 ≤ ((cap - l.length) * 2) by omega); first | exact this | simpa using this⟩, Hp (d := bT) (fun _ => ⟨rfl, rfl⟩) _, rfl, by simp only [List.length_append, bG (f := cP) (k := 2) (fun _ => rfl), show ∀ a, (cP a).length = 2 from fun _ => rfl, List.length_replicate, List.length_map, List.length_drop, List.length_take, List.length_cons, List.length_nil] at *; omega⟩, ?_⟩;rw [show min ((l.drop i).map bT ++ [oR 2]).length (l.length - i) = l.length - i by first | (simp; done) | (simp; omega)];have row := vK (f := cP) (d := bT) (k := 2) (fun _ => rfl) (fun _ => rfl) l i ((cap - l.length) * 2) hlt (show 2 ≤ ((cap - l.length) * 2) by omega)
     skip
     rw [row];clear row;have hR : (List.replicate (((cap - l.length) * 2) - 2) D.any).length = ((cap - l.length) * 2) - 2 := List.length_replicate;generalize List.replicate _ D.any = R at hR ⊢;and_intros<;>(try omega);apply Z;refine zk [0,1,2,6,7,8] ?_;refine zr ⟨[0,6,9,17,23,55,61,83,94],[],[],[12,19,25,34,43,50,53,60,66,73,76,80],[30,40,45,54,67,77,82]⟩ fun _ _ Z=>?_;simp (disch:=omega)[cZ,-aH,aW,aP,aD,aB];refine ⟨by omega, [bT x], _, ⟨rfl, (fun y hy => by simp only [List.mem_singleton] at hy; subst hy; exact ⟨rfl, rfl⟩), rfl, by simp only [List.length_append, bG (f := cP) (k := 2) (fun _ => rfl), show ∀ a, (cP a).length = 2 from fun _ => rfl, List.length_replicate, List.length_map, List.length_drop, List.length_take, List.length_cons, List.length_nil] at *; omega⟩, ?_⟩;rw [show min [bT x].length (l.length + 1 - i) = 1 by first | (simp; done) | (simp; omega), show List.flatMap D.cells (List.take 1 [bT x]) = cP x from rfl];have row := xM (f := cP) (k := 2) (fun _ => rfl) l i x R hlt
     skip
     rw [row];clear row;and_intros<;>(try omega);apply Z;refine zr ⟨[0,6,9,17,23,55,61,83,94],[],[],[12,19,25,34,43,50,53,60,66,73,76,80],[30,40,45,54,67,77,82]⟩ fun _ _ Z=>?_;simp (disch:=omega)[cZ,-aH,aW,aP,aD,aB];and_intros<;>(try omega);apply Z;refine eC 6 2 σ.length (l.length + 1) cap ((gA l i x).map bT) ((gA l i x).flatMap cP ++ R) (by simp <;> rfl) (by simp [aW, aD]) (by omega) (by have := gB l i x hi; simp only [List.length_append, bG (f := cP) (k := 2) (fun _ => rfl), this] at *; omega) (by simp [gB l i x hi]) (fV (d := bT) (fun _ => ⟨rfl, rfl⟩) _) (by rw [bD (f := cP) (fun _ => rfl)]; exact List.prefix_append _ _) ?_;apply aI;apply bP;simp [bE]
    ·simp at c4
theorem Oq (N : Nat) (l : List PI) : Sc N (.xs 2 (l.map bT)) := Sc.xs fun e he y hy => by
 obtain ⟨a, _, rfl⟩ := List.mem_map.1 he;simp only [D.cells, List.mem_cons, List.not_mem_nil, or_false] at hy;rcases hy with rfl | rfl <;> exact Sc.v _
theorem Jo (l : List PI) (x : PI) (i : Nat) (σ : List (List D)) (hl : l.length ≤ 1000000) (hi : i ≤ l.length) : Ct Tryd.prog 46 [.xs 2 (l.map bT), D.int i, .sl true [bT x]] σ (fun r σ' => r = .xs 2 ((gA l i x).map bT) ∧ σ' = σ) :=
 (Eu l x i σ hl hi).trim fun r σ' ⟨hr, J, hs⟩ => ⟨σ, J, hs, rfl, by rw [hr]; exact Oq _ _, fun n cs h => .inl h, hr, rfl⟩
theorem dB : xY Tryd.prog 56 := by
 obtain ⟨ti, zv, h1, h2, _⟩ := cX Qu;exact ⟨_, 54, 4, 53, ti, Tryd.func56, by kernel_rfl, by kernel_rfl, by kernel_rfl, by kernel_rfl, h1, h2⟩
theorem It (l : List EN) (x : EN) (i : Nat) (σ : List (List D)) (hl : l.length ≤ 1000000) (hi : i ≤ l.length) : Ct Tryd.prog 37 [.xs 5 (l.map bX), D.int i, .sl true [bX x]] σ (fun r σ' => r = .xs 5 ((gA l i x).map bX) ∧ ∃ J, σ' = σ ++ J) := by
 refine zf (rs:=[.tmp 6]) Tryd.func37 Tryd.ntmps37 Tryd.results37 ?_;simp only [aX];refine fW 0 5 rfl (by decide) fun cap rest hcap hcm hrest hk0 hes => ?_;subst hrest;simp only [List.length_map] at hcap ⊢;rw [bD (f := cE) (fun _ => rfl)];refine zr ⟨[0,6,9,17,23,55,61,83,94],[],[],[12,19,25,34,43,50,53,60,66,73,76,80],[30,40,45,54,67,77,82]⟩ fun _ _ Z=>?_;simp (disch:=omega)[dB,-aH,aW,aP,aD,aB];and_intros<;>(try omega);apply Z;refine zr ⟨[0,6,9,17,23,55,61,83,94],[],[],[12,19,25,34,43,50,53,60,66,73,76,80],[30,40,45,54,67,77,82]⟩ fun _ _ Z=>?_;simp (disch:=omega)[dB,-aH,aW,aP,aD,aB];and_intros<;>(try omega);apply Z;refine zr ⟨[0,6,9,17,23,55,61,83,94],[],[],[12,19,25,34,43,50,53,60,66,73,76,80],[30,40,45,54,67,77,82]⟩ fun _ _ Z=>?_;simp (disch:=omega)[dB,-aH,aW,aP,aD,aB];and_intros<;>(try omega);apply Z;apply aG;refine zr ⟨[0,6,9,17,23,55,61,83,94],[],[],[12,19,25,34,43,50,53,60,66,73,76,80],[30,40,45,54,67,77,82]⟩ fun _ _ Z=>?_;simp (disch:=omega)[dB,-aH,aW,aP,aD,aB];and_intros<;>(try omega);apply Z;refine zi ?_;refine ⟨fun c1=>?_,fun c1=>?_⟩
 ·simp at c1
 ·try simp at c1
  apply aM;apply aC;refine zr ⟨[0,6,9,17,23,55,61,83,94],[],[],[12,19,25,34,43,50,53,60,66,73,76,80],[30,40,45,54,67,77,82]⟩ fun _ _ Z=>?_;simp (disch:=omega)[dB,-aH,aW,aP,aD,aB];and_intros<;>(try omega);apply Z;apply aG;refine zk [0,1,2,6,7,8] ?_;refine zr ⟨[0,6,9,17,23,55,61,83,94],[],[],[12,19,25,34,43,50,53,60,66,73,76,80],[30,40,45,54,67,77,82]⟩ fun _ _ Z=>?_;simp (disch:=omega)[dB,-aH,aW,aP,aD,aB];and_intros<;>(try omega);apply Z;refine zi ?_;refine ⟨fun c2=>?_,fun c2=>?_⟩
  ·try simp at c2
   refine zr ⟨[0,6,9,17,23,55,61,83,94],[],[],[12,19,25,34,43,50,53,60,66,73,76,80],[30,40,45,54,67,77,82]⟩ fun _ _ Z=>?_;refine aA 3 fun _ Y=>?_;simp (disch:=omega)[dB,-aH,aW,aP,aD,aB];refine ⟨by first | rfl | exact ⟨rfl, rfl⟩ | trivial, _, l.map bX, ⟨rfl, by simp only [List.length_append, bG (f := cE) (k := 5) (fun _ => rfl), List.length_replicate]; omega, by simp, hes, by rw [bD (f := cE) (fun _ => rfl)]; exact List.prefix_append _ _, by simp; omega, by simp; omega⟩, ?_⟩;and_intros<;>(try omega);apply Y;simp only [List.drop];simp (disch:=omega)[dB,-aH,aW,aP,aD,aB];and_intros<;>(try omega);apply Z;apply aI;apply bP;obtain rfl : i = l.length := by omega
   simp [bE, gA]
  ·try simp at c2
   apply aM;apply aC;apply aG;refine zr ⟨[0,6,9,17,23,55,61,83,94],[],[],[12,19,25,34,43,50,53,60,66,73,76,80],[30,40,45,54,67,77,82]⟩ fun _ _ Z=>?_;simp (disch:=omega)[dB,-aH,aW,aP,aD,aB];and_intros<;>(try omega);apply Z;refine zi ?_;refine ⟨fun c3=>?_,fun c3=>?_⟩
   ·try simp at c3
    refine zk [0,1,2,6,7,8] ?_;refine zr ⟨[0,6,9,17,23,55,61,83,94],[],[],[12,19,25,34,43,50,53,60,66,73,76,80],[30,40,45,54,67,77,82]⟩ fun _ _ Z=>?_;refine aA 8 fun _ Y=>?_;simp (disch:=omega)[dB,-aH,aW,aP,aD,aB];and_intros<;>(try omega);apply Y;simp only [List.drop];refine aA 1 fun _ Y=>?_;simp (disch:=omega)[dB,-aH,aW,aP,aD,aB];refine ⟨(l.take i).map bX, ⟨⟨by simp; omega, by first | exact sH (f := cE) (fun _ => rfl) l i | exact qY (f := cE) (fun _ => rfl) l i _⟩, (fV (d := bX) (fun _ => ⟨rfl, rfl⟩) _), by omega, by omega, by omega, by omega, by first | rfl | exact ⟨rfl, rfl⟩ | trivial⟩, ?_⟩;and_intros<;>(try omega);apply Y;simp only [List.drop];simp (disch:=omega)[dB,-aH,aW,aP,aD,aB];and_intros<;>(try omega);apply Z;refine rX 9 5 rfl (by decide) fun cap2 rest2 hcap2 hcm2 hrest2 hk2 hes2 => ?_;simp only [List.length_append, List.length_map, List.length_take, List.length_replicate, Nat.min_eq_left hi] at hcap2 hrest2 ⊢;rw [List.flatMap_append, show List.flatMap D.cells (List.take i (List.map bX l)) = (l.take i).flatMap cE from by rw [← List.map_take]; exact bD (f := cE) (fun _ => rfl) _];simp only [List.append_assoc];have hR : ((List.replicate (l.length + 1 - i) (jM 5 #[.int .i64 0, .int .i64 0, .int .i64 0, .int .i64 0, .int .i64 0])).flatMap D.cells ++ rest2).length = (cap2 - i) * 5 := by rw [List.length_append, yS (k := 5) rfl, hrest2]; omega
    generalize (List.replicate (l.length + 1 - i) (jM 5 #[.int .i64 0, .int .i64 0, .int .i64 0, .int .i64 0, .int .i64 0])).flatMap D.cells ++ rest2 = R at hR ⊢;refine zk [0,1,2,6,7,8,9] ?_;refine zr ⟨[0,6,9,17,23,55,61,83,94],[],[],[12,19,25,34,43,50,53,60,66,73,76,80],[30,40,45,54,67,77,82]⟩ fun _ _ Z=>?_;simp (disch:=omega)[dB,-aH,aW,aP,aD,aB];have hlt : i < l.length := by omega
    refine ⟨by omega, [bX x], _, ⟨rfl, (fun y hy => by simp only [List.mem_singleton] at hy; subst hy; exact ⟨rfl, rfl⟩), rfl, by simp only [List.length_append, bG (f := cE) (k := 5) (fun _ => rfl), show ∀ a, (cE a).length = 5 from fun _ => rfl, List.length_replicate, List.length_map, List.length_drop, List.length_take, List.length_cons, List.length_nil] at *; omega⟩, ?_⟩;rw [show min [bX x].length (l.length + 1 - i) = 1 by first | (simp; done) | (simp; omega), show List.flatMap D.cells (List.take 1 [bX x]) = cE x from rfl];have row := wF (f := cE) (k := 5) (fun _ => rfl) l i x R hlt (by rw [hR]; omega)
    skip
    rw [row];clear row;have hR3 : (R.drop 5).length = (cap2 - i - 1) * 5 := by rw [List.length_drop, hR]; omega
    generalize R.drop 5 = R3 at hR3 ⊢;and_intros<;>(try omega);apply Z;refine zk [0,1,2,6,7,8,9] ?_;refine zd ⟨[0,6,9,17,23,55,61,83,94],[],[],[12,19,25,34,43,50,53,60,66,73,76,80],[30,40,45,54,67,77,82]⟩ [.op {},.op {},.op {},.op {},.op {},.op {},.op {},.op {},.op {rO:=true,wO:=true}] fun all hall _ Z=>?_;refine eQ 8 (by simp) fun _ Y=>?_;simp (disch:=omega)[dB,-aH,aW,aP,aD,aB];and_intros<;>(try omega);apply Y;simp only [List.drop];simp (disch:=omega)[dB,-aH,aW,aP,aD,aB];refine ⟨(l.drop i).map bX, _, ⟨⟨by simp, by have := vU (f := cE) (d := bX) (k := 5) (fun _ => rfl) (fun _ => rfl) l i 0 hlt; first | exact this | simpa using this⟩, (fV (d := bX) (fun _ => ⟨rfl, rfl⟩) _), rfl, by simp only [List.length_append, bG (f := cE) (k := 5) (fun _ => rfl), show ∀ a, (cE a).length = 5 from fun _ => rfl, List.length_replicate, List.length_map, List.length_drop, List.length_take, List.length_cons, List.length_nil] at *; omega⟩, ?_⟩;rw [show min ((l.drop i).map bX).length (l.length - i) = l.length - i by simp, List.take_of_length_le (show ((l.drop i).map bX).length ≤ l.length - i by simp)];have row := uZ (f := cE) (d := bX) (k := 5) (fun _ => rfl) (fun _ => rfl) l i x R3 hlt (by rw [hR3]; omega)
    skip
    rw [row];clear row;have hR4 : (R3.drop ((l.length - i) * 5)).length = (cap2 - i - 1 - (l.length - i)) * 5 := by rw [List.length_drop, hR3]; omega
    generalize R3.drop _ = R4 at hR4 ⊢;and_intros<;>(try omega);apply Z;refine zk [0,1,2,6,7,8,9] ?_;refine zr ⟨[0,6,9,17,23,55,61,83,94],[],[],[12,19,25,34,43,50,53,60,66,73,76,80],[30,40,45,54,67,77,82]⟩ fun _ _ Z=>?_;simp (disch:=omega)[dB,-aH,aW,aP,aD,aB];and_intros<;>(try omega);apply Z;refine eC 6 5 (σ.length + 1) (l.length + 1) cap2 ((gA l i x).map bX) ((gA l i x).flatMap cE ++ R4) (by simp <;> rfl) (by simp [aW, aD]) (by omega) (by have := gB l i x hi; simp only [List.length_append, bG (f := cE) (k := 5) (fun _ => rfl), this] at *; omega) (by simp [gB l i x hi]) (fV (d := bX) (fun _ => ⟨rfl, rfl⟩) _) (by rw [bD (f := cE) (fun _ => rfl)]; exact List.prefix_append _ _) ?_;apply aI;apply bP;simp [bE]
   ·try simp at c3
    apply aM;apply aC;refine zk [0,1,2,6,7,8] ?_;refine zr ⟨[0,6,9,17,23,55,61,83,94],[],[],[12,19,25,34,43,50,53,60,66,73,76,80],[30,40,45,54,67,77,82]⟩ fun _ _ Z=>?_;simp (disch:=omega)[dB,-aH,aW,aP,aD,aB];and_intros<;>(try omega);apply Z;apply aG;refine zk [0,1,2,6,7,8] ?_;refine zr ⟨[0,6,9,17,23,55,61,83,94],[],[],[12,19,25,34,43,50,53,60,66,73,76,80],[30,40,45,54,67,77,82]⟩ fun _ _ Z=>?_;simp (disch:=omega)[dB,-aH,aW,aP,aD,aB];and_intros<;>(try omega);apply Z;refine zi ?_;refine ⟨fun c4=>?_,fun c4=>?_⟩
    ·try simp at c4
     refine zk [0,1,2,6,7,8] ?_;refine zd ⟨[0,6,9,17,23,55,61,83,94],[],[],[12,19,25,34,43,50,53,60,66,73,76,80],[30,40,45,54,67,77,82]⟩ [.op {},.op {},.op {},.op {},.op {},.op {},.op {},.op {},.op {rO:=true,wO:=true}] fun all hall _ Z=>?_;refine eQ 8 (by simp) fun _ Y=>?_;simp (disch:=omega)[dB,-aH,aW,aP,aD,aB];and_intros<;>(try omega);apply Y;simp only [List.drop];simp (disch:=omega)[dB,-aH,aW,aP,aD,aB];have hlt : i < l.length := by omega
     refine ⟨(l.drop i).map bX ++ [oR 5], _, ⟨⟨by first | (simp; done) | (simp; omega), by have := At (f := cE) (d := bX) (k := 5) (fun _ => rfl) (fun _ => rfl) l i ((cap - l.length) * 5) hlt (show 5 ≤ ((cap - l.length) * 5) by omega); first | exact this | simpa using this⟩, Hp (d := bX) (fun _ => ⟨rfl, rfl⟩) _, rfl, by simp only [List.length_append, bG (f := cE) (k := 5) (fun _ => rfl), show ∀ a, (cE a).length = 5 from fun _ => rfl, List.length_replicate, List.length_map, List.length_drop, List.length_take, List.length_cons, List.length_nil] at *; omega⟩, ?_⟩;rw [show min ((l.drop i).map bX ++ [oR 5]).length (l.length - i) = l.length - i by first | (simp; done) | (simp; omega)];have row := vK (f := cE) (d := bX) (k := 5) (fun _ => rfl) (fun _ => rfl) l i ((cap - l.length) * 5) hlt (show 5 ≤ ((cap - l.length) * 5) by omega)
     skip
     rw [row];clear row;have hR : (List.replicate (((cap - l.length) * 5) - 5) D.any).length = ((cap - l.length) * 5) - 5 := List.length_replicate;generalize List.replicate _ D.any = R at hR ⊢;and_intros<;>(try omega);apply Z;refine zk [0,1,2,6,7,8] ?_;refine zr ⟨[0,6,9,17,23,55,61,83,94],[],[],[12,19,25,34,43,50,53,60,66,73,76,80],[30,40,45,54,67,77,82]⟩ fun _ _ Z=>?_;simp (disch:=omega)[dB,-aH,aW,aP,aD,aB];refine ⟨by omega, [bX x], _, ⟨rfl, (fun y hy => by simp only [List.mem_singleton] at hy; subst hy; exact ⟨rfl, rfl⟩), rfl, by simp only [List.length_append, bG (f := cE) (k := 5) (fun _ => rfl), show ∀ a, (cE a).length = 5 from fun _ => rfl, List.length_replicate, List.length_map, List.length_drop, List.length_take, List.length_cons, List.length_nil] at *; omega⟩, ?_⟩;rw [show min [bX x].length (l.length + 1 - i) = 1 by first | (simp; done) | (simp; omega), show List.flatMap D.cells (List.take 1 [bX x]) = cE x from rfl];have row := xM (f := cE) (k := 5) (fun _ => rfl) l i x R hlt
     skip
     rw [row];clear row;and_intros<;>(try omega);apply Z;refine zr ⟨[0,6,9,17,23,55,61,83,94],[],[],[12,19,25,34,43,50,53,60,66,73,76,80],[30,40,45,54,67,77,82]⟩ fun _ _ Z=>?_;simp (disch:=omega)[dB,-aH,aW,aP,aD,aB];and_intros<;>(try omega);apply Z;refine eC 6 5 σ.length (l.length + 1) cap ((gA l i x).map bX) ((gA l i x).flatMap cE ++ R) (by simp <;> rfl) (by simp [aW, aD]) (by omega) (by have := gB l i x hi; simp only [List.length_append, bG (f := cE) (k := 5) (fun _ => rfl), this] at *; omega) (by simp [gB l i x hi]) (fV (d := bX) (fun _ => ⟨rfl, rfl⟩) _) (by rw [bD (f := cE) (fun _ => rfl)]; exact List.prefix_append _ _) ?_;apply aI;apply bP;simp [bE]
    ·simp at c4
theorem Ow (N : Nat) (l : List EN) : Sc N (.xs 5 (l.map bX)) := Sc.xs fun e he y hy => by
 obtain ⟨a, _, rfl⟩ := List.mem_map.1 he;simp only [D.cells, List.mem_cons, List.not_mem_nil, or_false] at hy;rcases hy with rfl | rfl | rfl | rfl | rfl <;> exact Sc.v _
theorem Jw (l : List EN) (x : EN) (i : Nat) (σ : List (List D)) (hl : l.length ≤ 1000000) (hi : i ≤ l.length) : Ct Tryd.prog 37 [.xs 5 (l.map bX), D.int i, .sl true [bX x]] σ (fun r σ' => r = .xs 5 ((gA l i x).map bX) ∧ σ' = σ) :=
 (It l x i σ hl hi).trim fun r σ' ⟨hr, J, hs⟩ => ⟨σ, J, hs, rfl, by rw [hr]; exact Ow _ _, fun n cs h => .inl h, hr, rfl⟩
end Go.Proofs.YtighdhfgcdjmeaaDoor

