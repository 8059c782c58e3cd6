import Derived.Test.YtpfmpeaekgdgnaaGreatWkAr2
namespace Go.Proofs.YtpfmpeaekgdgnaaGreat
open Go Go.Vm
set_option maxRecDepth 20000
set_option linter.all false
set_option maxHeartbeats 8000000
structure AT where
 name : ByteArray
 value : ByteArray
 deriving DecidableEq
@[simp] abbrev d_AT (s : AT) : D := .agg [.v (.string s.name), .v (.string s.value)]
structure PI where
 name : ByteArray
 value : Int
 deriving DecidableEq
@[simp] abbrev d_PI (s : PI) : D := .agg [.v (.string s.name), .v (.int .i64 s.value)]
def cI (n : Int) : List D := [D.int n]
def cA (x : AT) : List D := [D.str x.name, D.str x.value]
def cP (x : PI) : List D := [D.str x.name, D.int x.value]
def insL {α : Type} (l : List α) (i : Nat) (x : α) : List α := l.take i ++ x :: l.drop i
theorem insL_len {α : Type} (l : List α) (i : Nat) (x : α) (h : i ≤ l.length) : (insL l i x).length = l.length + 1 := by simp [insL]; omega
def anyK (k : Nat) : D := if k = 1 then .any else .agg (List.replicate k .any)
theorem anyK_cells {k : Nat} : (anyK k).cells = List.replicate k .any := by
 unfold anyK
 split
 ·rename_i h; subst h; rfl
 ·rfl
theorem anyK_ok {k : Nat} : (anyK k).ncells = k ∧ (anyK k).arr = true := by
 constructor
 ·rw [← ncells_cells, anyK_cells, List.length_replicate]
 ·unfold D.arr; rw [anyK_cells, List.all_eq_true]; intro x hx; rw [List.eq_of_mem_replicate hx]; rfl
section
variable {α : Type} {f : α → List D} {d : α → D} {k : Nat}
theorem ins_src (hd : ∀ a, (d a).cells = f a) (hf : ∀ a, (f a).length = k) (l : List α) (i r : Nat) (hi : i < l.length) (hr : k ≤ r) : ((l.drop i).map d ++ [anyK k]).flatMap D.cells <+: List.drop (i * k) (l.flatMap f ++ List.replicate r .any) := by
 have e : l.flatMap f = (l.take i).flatMap f ++ (l.drop i).flatMap f := by rw [← List.flatMap_append, List.take_append_drop]
 rw [e, List.append_assoc, ← rows_pre hf l i hi, List.drop_left, List.flatMap_append, rows_flat hd]
 refine ⟨List.replicate (r - k) .any, ?_⟩
 simp only [List.flatMap_cons, List.flatMap_nil, List.append_nil, anyK_cells, List.append_assoc, List.replicate_append_replicate]
 rw [show k + (r - k) = r by omega]
theorem ins_row1 (hd : ∀ a, (d a).cells = f a) (hf : ∀ a, (f a).length = k) (l : List α) (i r : Nat) (hi : i < l.length) (hr : k ≤ r) : splice (l.flatMap f ++ List.replicate r .any) ((i + 1) * k) ((((l.drop i).map d ++ [anyK k]).take (l.length - i)).flatMap D.cells) = (l.take (i + 1)).flatMap f ++ ((l.drop i).flatMap f ++ List.replicate (r - k) .any) := by
 have e : l.flatMap f = (l.take (i + 1)).flatMap f ++ (l.drop (i + 1)).flatMap f := by rw [← List.flatMap_append, List.take_append_drop]
 have e2 : ((l.drop i).map d ++ [anyK k]).take (l.length - i) = (l.drop i).map d := by
  rw [List.take_append_of_le_length (by simp), List.take_of_length_le (by simp)]
 have e3 : (l.flatMap f ++ List.replicate r (D.any)) = (l.take (i + 1)).flatMap f ++ (((l.drop (i + 1)).flatMap f ++ List.replicate k .any) ++ List.replicate (r - k) .any) := by
  rw [e, List.append_assoc, List.append_assoc, List.replicate_append_replicate, show k + (r - k) = r by omega]
 have e4 : ((l.take (i + 1)).flatMap f).length = (i + 1) * k := by rw [rows_len hf, List.length_take, Nat.min_eq_left (by omega)]
 rw [e2, rows_flat hd, e3, ← e4]
 refine splice_mid _ _ _ _ ?_
 rw [List.length_append, rows_len hf, rows_len hf, List.length_replicate, List.length_drop, List.length_drop, ← Nat.succ_mul]
 congr 1; omega
theorem ins_row2 (hf : ∀ a, (f a).length = k) (l : List α) (i : Nat) (x : α) (R : List D) (hi : i < l.length) : splice ((l.take (i + 1)).flatMap f ++ ((l.drop i).flatMap f ++ R)) (i * k) (f x) = (insL l i x).flatMap f ++ R := by
 have e : (l.take (i + 1)).flatMap f = (l.take i).flatMap f ++ f l[i] := by rw [take_snoc l i hi, List.flatMap_append]; simp
 rw [e, List.append_assoc, ← rows_pre hf l i hi, splice_mid _ _ _ _ (by rw [hf, hf])]
 simp [insL]
theorem ins_base (hd : ∀ a, (d a).cells = f a) (l : List α) (i r : Nat) : ((l.take i).map d).flatMap D.cells <+: l.flatMap f ++ List.replicate r .any := by
 rw [rows_flat hd]
 have e : l.flatMap f = (l.take i).flatMap f ++ (l.drop i).flatMap f := by rw [← List.flatMap_append, List.take_append_drop]
 rw [e, List.append_assoc]
 exact List.prefix_append _ _
theorem ins_base0 (hd : ∀ a, (d a).cells = f a) (l : List α) (i : Nat) : ((l.take i).map d).flatMap D.cells <+: l.flatMap f := by
 have := ins_base (f := f) hd l i 0
 simpa using this
theorem map_ok (hd : ∀ a, (d a).ncells = k ∧ (d a).arr = true) (l : List α) : ∀ y ∈ l.map d, y.ncells = k ∧ y.arr = true := fun y hy => by
 obtain ⟨a, _, rfl⟩ := List.mem_map.1 hy
 exact hd a
theorem src_ok (hd : ∀ a, (d a).ncells = k ∧ (d a).arr = true) (l : List α) : ∀ y ∈ l.map d ++ [anyK k], y.ncells = k ∧ y.arr = true := fun y hy => by
 rcases List.mem_append.1 hy with h | h
 ·exact map_ok hd l y h
 ·simp at h; subst h; exact anyK_ok
theorem ins_src2 (hd : ∀ a, (d a).cells = f a) (hf : ∀ a, (f a).length = k) (l : List α) (i r : Nat) (hi : i < l.length) : ((l.drop i).map d).flatMap D.cells <+: List.drop (i * k) (l.flatMap f ++ List.replicate r .any) := by
 have e : l.flatMap f = (l.take i).flatMap f ++ (l.drop i).flatMap f := by rw [← List.flatMap_append, List.take_append_drop]
 rw [e, List.append_assoc, ← rows_pre hf l i hi, List.drop_left, rows_flat hd]
 exact List.prefix_append _ _
theorem zs_len {Z : D} (hZ : Z.ncells = k) : ∀ n : Nat, ((List.replicate n Z).flatMap D.cells).length = n * k
 | 0 => by simp
 | n + 1 => by rw [List.replicate_succ, List.flatMap_cons, List.length_append, zs_len hZ n, ncells_cells, hZ, Nat.succ_mul]; omega
theorem ins_rowA (hf : ∀ a, (f a).length = k) (l : List α) (i : Nat) (x : α) (R : List D) (hi : i < l.length) (hR : k ≤ R.length) : splice ((l.take i).flatMap f ++ R) (i * k) (f x) = (l.take i).flatMap f ++ (f x ++ R.drop k) := by
 conv => lhs; rw [← List.take_append_drop k R]
 rw [← rows_pre hf l i hi, splice_mid _ _ _ _ (by rw [hf, List.length_take]; omega)]
theorem ins_rowB (hd : ∀ a, (d a).cells = f a) (hf : ∀ a, (f a).length = k) (l : List α) (i : Nat) (x : α) (R : List D) (hi : i < l.length) (hR : (l.length - i) * k ≤ R.length) : splice ((l.take i).flatMap f ++ (f x ++ R)) ((i + 1) * k) (((l.drop i).map d).flatMap D.cells) = (insL l i x).flatMap f ++ R.drop ((l.length - i) * k) := by
 have e : ((l.take i).flatMap f ++ f x).length = (i + 1) * k := by rw [List.length_append, rows_pre hf l i hi, hf, Nat.succ_mul]
 conv => lhs; rw [← List.take_append_drop ((l.length - i) * k) R]
 rw [← List.append_assoc, ← e, splice_mid _ _ _ _ (by rw [rows_flat hd, rows_len hf, List.length_drop, List.length_take]; omega), rows_flat hd]
 simp [insL]
end
theorem over118 : IsOver Tryz.prog 118 := by
 obtain ⟨ti, zv, h1, h2, _⟩ := elI_spec el47
 exact ⟨_, 47, 4, 3, ti, Tryz.func118, by kernel_rfl, by kernel_rfl, by kernel_rfl, by kernel_rfl, h1, h2⟩
theorem iins0_fn (l : List Int) (x : Int) (i : Nat) (σ : List (List D)) (hl : l.length ≤ 1000000) (hi : i ≤ l.length) : Ct Tryz.prog 82 [.xs 1 (l.map D.int), D.int i, .sl true [D.int x]] σ (fun r σ' => r = .xs 1 ((insL l i x).map D.int) ∧ ∃ J, σ' = σ ++ J) := by
 refine zf (rs:=[.tmp 6]) Tryz.func82 Tryz.ntmps82 Tryz.results82 ?_
 simp only [argEnv]
 refine awp_openX2 0 1 rfl (by decide) fun cap rest hcap hcm hrest hk0 hes => ?_
 subst hrest
 simp only [List.length_map] at hcap ⊢
 rw [rows_flat (f := cI) (fun _ => rfl)]
 refine zr ⟨[0,6,9,17,23,55,61,83,94],[],[],[12,19,25,34,43,50,53,60,66,73,76,80],[30,40,45,54,67,77,82]⟩ fun _ _ Z=>?_
 simp (disch:=omega)[over118,-splice_un,og_at,og_put,og_at0,og_put0]
 and_intros<;>try omega
 apply Z
 refine zr ⟨[0,6,9,17,23,55,61,83,94],[],[],[12,19,25,34,43,50,53,60,66,73,76,80],[30,40,45,54,67,77,82]⟩ fun _ _ Z=>?_
 simp (disch:=omega)[over118,-splice_un,og_at,og_put,og_at0,og_put0]
 and_intros<;>try omega
 apply Z
 refine zr ⟨[0,6,9,17,23,55,61,83,94],[],[],[12,19,25,34,43,50,53,60,66,73,76,80],[30,40,45,54,67,77,82]⟩ fun _ _ Z=>?_
 simp (disch:=omega)[over118,-splice_un,og_at,og_put,og_at0,og_put0]
 and_intros<;>try omega
 apply Z
 apply awp_seq
 refine zr ⟨[0,6,9,17,23,55,61,83,94],[],[],[12,19,25,34,43,50,53,60,66,73,76,80],[30,40,45,54,67,77,82]⟩ fun _ _ Z=>?_
 simp (disch:=omega)[over118,-splice_un,og_at,og_put,og_at0,og_put0]
 and_intros<;>try omega
 apply Z
 refine zi ?_
 refine ⟨fun c1=>?_,fun c1=>?_⟩
 ·simp at c1
 ·try simp at c1
  apply awp_skip
  apply q_then_n
  refine zr ⟨[0,6,9,17,23,55,61,83,94],[],[],[12,19,25,34,43,50,53,60,66,73,76,80],[30,40,45,54,67,77,82]⟩ fun _ _ Z=>?_
  simp (disch:=omega)[over118,-splice_un,og_at,og_put,og_at0,og_put0]
  and_intros<;>try omega
  apply Z
  apply awp_seq
  refine zk [0,1,2,6,7,8] ?_
  refine zr ⟨[0,6,9,17,23,55,61,83,94],[],[],[12,19,25,34,43,50,53,60,66,73,76,80],[30,40,45,54,67,77,82]⟩ fun _ _ Z=>?_
  simp (disch:=omega)[over118,-splice_un,og_at,og_put,og_at0,og_put0]
  and_intros<;>try omega
  apply Z
  refine zi ?_
  refine ⟨fun c2=>?_,fun c2=>?_⟩
  ·try simp at c2
   refine zr ⟨[0,6,9,17,23,55,61,83,94],[],[],[12,19,25,34,43,50,53,60,66,73,76,80],[30,40,45,54,67,77,82]⟩ fun _ _ Z=>?_
   refine vcL_split 3 fun _ Y=>?_
   simp (disch:=omega)[over118,-splice_un,og_at,og_put,og_at0,og_put0]
   refine ⟨by first | rfl | exact ⟨rfl, rfl⟩ | trivial, _, l.map D.int, ⟨rfl, by simp only [List.length_append, rows_len (f := cI) (k := 1) (fun _ => rfl), List.length_replicate]; omega, by simp, hes, by rw [rows_flat (f := cI) (fun _ => rfl)]; exact List.prefix_append _ _, by simp; omega, by simp; omega⟩, ?_⟩
   and_intros<;>try omega
   apply Y
   simp only [List.drop]
   simp (disch:=omega)[over118,-splice_un,og_at,og_put,og_at0,og_put0]
   and_intros<;>try omega
   apply Z
   apply awp_ret
   apply q_then_r
   obtain rfl : i = l.length := by omega
   simp [endQ, insL]
  ·try simp at c2
   apply awp_skip
   apply q_then_n
   apply awp_seq
   refine zr ⟨[0,6,9,17,23,55,61,83,94],[],[],[12,19,25,34,43,50,53,60,66,73,76,80],[30,40,45,54,67,77,82]⟩ fun _ _ Z=>?_
   simp (disch:=omega)[over118,-splice_un,og_at,og_put,og_at0,og_put0]
   and_intros<;>try omega
   apply Z
   refine zi ?_
   refine ⟨fun c3=>?_,fun c3=>?_⟩
   ·try simp at c3
    refine zk [0,1,2,6,7,8] ?_
    refine zr ⟨[0,6,9,17,23,55,61,83,94],[],[],[12,19,25,34,43,50,53,60,66,73,76,80],[30,40,45,54,67,77,82]⟩ fun _ _ Z=>?_
    refine vcL_split 8 fun _ Y=>?_
    simp (disch:=omega)[over118,-splice_un,og_at,og_put,og_at0,og_put0]
    and_intros<;>try omega
    apply Y
    simp only [List.drop]
    refine vcL_split 1 fun _ Y=>?_
    simp (disch:=omega)[over118,-splice_un,og_at,og_put,og_at0,og_put0]
    refine ⟨(l.take i).map D.int, ⟨⟨by simp; omega, by first | exact ins_base0 (f := cI) (fun _ => rfl) l i | exact ins_base (f := cI) (fun _ => rfl) l i _⟩, (map_ok (d := D.int) (fun _ => ⟨rfl, rfl⟩) _), by omega, by omega, by omega, by omega, by first | rfl | exact ⟨rfl, rfl⟩ | trivial⟩, ?_⟩
    and_intros<;>try omega
    apply Y
    simp only [List.drop]
    simp (disch:=omega)[over118,-splice_un,og_at,og_put,og_at0,og_put0]
    and_intros<;>try omega
    apply Z
    refine awp_openX 9 1 rfl (by decide) fun cap2 rest2 hcap2 hcm2 hrest2 hk2 hes2 => ?_
    simp only [List.length_append, List.length_map, List.length_take, List.length_replicate, Nat.min_eq_left hi] at hcap2 hrest2 ⊢
    rw [List.flatMap_append, show List.flatMap D.cells (List.take i (List.map D.int l)) = (l.take i).flatMap cI from by rw [← List.map_take]; exact rows_flat (f := cI) (fun _ => rfl) _]
    simp only [List.append_assoc]
    have hR : ((List.replicate (l.length + 1 - i) (zelD 1 #[.int .i64 0])).flatMap D.cells ++ rest2).length = (cap2 - i) * 1 := by rw [List.length_append, zs_len (k := 1) rfl, hrest2]; omega
    generalize (List.replicate (l.length + 1 - i) (zelD 1 #[.int .i64 0])).flatMap D.cells ++ rest2 = R at hR ⊢
    refine zk [0,1,2,6,7,8,9] ?_
    refine zr ⟨[0,6,9,17,23,55,61,83,94],[],[],[12,19,25,34,43,50,53,60,66,73,76,80],[30,40,45,54,67,77,82]⟩ fun _ _ Z=>?_
    simp (disch:=omega)[over118,-splice_un,og_at,og_put,og_at0,og_put0]
    have hlt : i < l.length := by omega
    refine ⟨by omega, [D.int x], _, ⟨rfl, (fun y hy => by simp only [List.mem_singleton] at hy; subst hy; exact ⟨rfl, rfl⟩), rfl, by simp only [List.length_append, rows_len (f := cI) (k := 1) (fun _ => rfl), show ∀ a, (cI a).length = 1 from fun _ => rfl, List.length_replicate, List.length_map, List.length_drop, List.length_take, List.length_cons, List.length_nil] at *; omega⟩, ?_⟩
    rw [show min [D.int x].length (l.length + 1 - i) = 1 by first | (simp; done) | (simp; omega), show List.flatMap D.cells (List.take 1 [D.int x]) = cI x from rfl]
    have row := ins_rowA (f := cI) (k := 1) (fun _ => rfl) l i x R hlt (by rw [hR]; omega)
    simp only [Nat.mul_one] at row
    rw [row]
    clear row
    have hR3 : (R.drop 1).length = (cap2 - i - 1) * 1 := by rw [List.length_drop, hR]; omega
    generalize R.drop 1 = R3 at hR3 ⊢
    and_intros<;>try omega
    apply Z
    refine zk [0,1,2,6,7,8,9] ?_
    refine zd ⟨[0,6,9,17,23,55,61,83,94],[],[],[12,19,25,34,43,50,53,60,66,73,76,80],[30,40,45,54,67,77,82]⟩ [.op {},.op {},.op {},.op {},.op {},.op {},.op {},.op {},.op {rO:=true,wO:=true}] fun all hall _ Z=>?_
    refine vcDL_split 8 (by simp) fun _ Y=>?_
    simp (disch:=omega)[over118,-splice_un,og_at,og_put,og_at0,og_put0]
    and_intros<;>try omega
    apply Y
    simp only [List.drop]
    simp (disch:=omega)[over118,-splice_un,og_at,og_put,og_at0,og_put0]
    refine ⟨(l.drop i).map D.int, _, ⟨⟨by simp, by have := ins_src2 (f := cI) (d := D.int) (k := 1) (fun _ => rfl) (fun _ => rfl) l i 0 hlt; first | exact this | simpa using this⟩, (map_ok (d := D.int) (fun _ => ⟨rfl, rfl⟩) _), rfl, by simp only [List.length_append, rows_len (f := cI) (k := 1) (fun _ => rfl), show ∀ a, (cI a).length = 1 from fun _ => rfl, List.length_replicate, List.length_map, List.length_drop, List.length_take, List.length_cons, List.length_nil] at *; omega⟩, ?_⟩
    rw [show min ((l.drop i).map D.int).length (l.length - i) = l.length - i by simp, List.take_of_length_le (show ((l.drop i).map D.int).length ≤ l.length - i by simp)]
    have row := ins_rowB (f := cI) (d := D.int) (k := 1) (fun _ => rfl) (fun _ => rfl) l i x R3 hlt (by rw [hR3]; omega)
    simp only [Nat.mul_one] at row
    rw [row]
    clear row
    have hR4 : (R3.drop ((l.length - i) * 1)).length = (cap2 - i - 1 - (l.length - i)) * 1 := by rw [List.length_drop, hR3]; omega
    simp only [Nat.mul_one] at hR4
    generalize R3.drop _ = R4 at hR4 ⊢
    and_intros<;>try omega
    apply Z
    refine zk [0,1,2,6,7,8,9] ?_
    refine zr ⟨[0,6,9,17,23,55,61,83,94],[],[],[12,19,25,34,43,50,53,60,66,73,76,80],[30,40,45,54,67,77,82]⟩ fun _ _ Z=>?_
    simp (disch:=omega)[over118,-splice_un,og_at,og_put,og_at0,og_put0]
    and_intros<;>try omega
    apply Z
    refine awp_closeX 6 1 (σ.length + 1) (l.length + 1) cap2 ((insL l i x).map D.int) ((insL l i x).flatMap cI ++ R4) (by simp <;> rfl) (by simp [og_at, og_at0]) (by omega) (by have := insL_len l i x hi; simp only [List.length_append, rows_len (f := cI) (k := 1) (fun _ => rfl), this] at *; omega) (by simp [insL_len l i x hi]) (map_ok (d := D.int) (fun _ => ⟨rfl, rfl⟩) _) (by rw [rows_flat (f := cI) (fun _ => rfl)]; exact List.prefix_append _ _) ?_
    apply awp_ret
    apply q_then_r
    simp [endQ]
   ·try simp at c3
    apply awp_skip
    apply q_then_n
    refine zk [0,1,2,6,7,8] ?_
    refine zr ⟨[0,6,9,17,23,55,61,83,94],[],[],[12,19,25,34,43,50,53,60,66,73,76,80],[30,40,45,54,67,77,82]⟩ fun _ _ Z=>?_
    simp (disch:=omega)[over118,-splice_un,og_at,og_put,og_at0,og_put0]
    and_intros<;>try omega
    apply Z
    apply awp_seq
    refine zk [0,1,2,6,7,8] ?_
    refine zr ⟨[0,6,9,17,23,55,61,83,94],[],[],[12,19,25,34,43,50,53,60,66,73,76,80],[30,40,45,54,67,77,82]⟩ fun _ _ Z=>?_
    simp (disch:=omega)[over118,-splice_un,og_at,og_put,og_at0,og_put0]
    and_intros<;>try omega
    apply Z
    refine zi ?_
    refine ⟨fun c4=>?_,fun c4=>?_⟩
    ·try simp at c4
     refine zk [0,1,2,6,7,8] ?_
     refine zd ⟨[0,6,9,17,23,55,61,83,94],[],[],[12,19,25,34,43,50,53,60,66,73,76,80],[30,40,45,54,67,77,82]⟩ [.op {},.op {},.op {},.op {},.op {},.op {},.op {},.op {},.op {rO:=true,wO:=true}] fun all hall _ Z=>?_
     refine vcDL_split 8 (by simp) fun _ Y=>?_
     simp (disch:=omega)[over118,-splice_un,og_at,og_put,og_at0,og_put0]
     and_intros<;>try omega
     apply Y
     simp only [List.drop]
     simp (disch:=omega)[over118,-splice_un,og_at,og_put,og_at0,og_put0]
     have hlt : i < l.length := by omega
     refine ⟨(l.drop i).map D.int ++ [anyK 1], _, ⟨⟨by first | (simp; done) | (simp; omega), by have := ins_src (f := cI) (d := D.int) (k := 1) (fun _ => rfl) (fun _ => rfl) l i ((cap - l.length) * 1) hlt (show 1 ≤ ((cap - l.length) * 1) by omega); first | exact this | simpa using this⟩, src_ok (d := D.int) (fun _ => ⟨rfl, rfl⟩) _, rfl, by simp only [List.length_append, rows_len (f := cI) (k := 1) (fun _ => rfl), show ∀ a, (cI a).length = 1 from fun _ => rfl, List.length_replicate, List.length_map, List.length_drop, List.length_take, List.length_cons, List.length_nil] at *; omega⟩, ?_⟩
     rw [show min ((l.drop i).map D.int ++ [anyK 1]).length (l.length - i) = l.length - i by first | (simp; done) | (simp; omega)]
     have row := ins_row1 (f := cI) (d := D.int) (k := 1) (fun _ => rfl) (fun _ => rfl) l i ((cap - l.length) * 1) hlt (show 1 ≤ ((cap - l.length) * 1) by omega)
     simp only [Nat.mul_one] at row
     rw [row]
     clear row
     have hR : (List.replicate (((cap - l.length) * 1) - 1) D.any).length = ((cap - l.length) * 1) - 1 := List.length_replicate
     simp only [Nat.mul_one] at hR
     generalize List.replicate _ D.any = R at hR ⊢
     and_intros<;>try omega
     apply Z
     refine zk [0,1,2,6,7,8] ?_
     refine zr ⟨[0,6,9,17,23,55,61,83,94],[],[],[12,19,25,34,43,50,53,60,66,73,76,80],[30,40,45,54,67,77,82]⟩ fun _ _ Z=>?_
     simp (disch:=omega)[over118,-splice_un,og_at,og_put,og_at0,og_put0]
     refine ⟨by omega, [D.int x], _, ⟨rfl, (fun y hy => by simp only [List.mem_singleton] at hy; subst hy; exact ⟨rfl, rfl⟩), rfl, by simp only [List.length_append, rows_len (f := cI) (k := 1) (fun _ => rfl), show ∀ a, (cI a).length = 1 from fun _ => rfl, List.length_replicate, List.length_map, List.length_drop, List.length_take, List.length_cons, List.length_nil] at *; omega⟩, ?_⟩
     rw [show min [D.int x].length (l.length + 1 - i) = 1 by first | (simp; done) | (simp; omega), show List.flatMap D.cells (List.take 1 [D.int x]) = cI x from rfl]
     have row := ins_row2 (f := cI) (k := 1) (fun _ => rfl) l i x R hlt
     simp only [Nat.mul_one] at row
     rw [row]
     clear row
     and_intros<;>try omega
     apply Z
     refine zr ⟨[0,6,9,17,23,55,61,83,94],[],[],[12,19,25,34,43,50,53,60,66,73,76,80],[30,40,45,54,67,77,82]⟩ fun _ _ Z=>?_
     simp (disch:=omega)[over118,-splice_un,og_at,og_put,og_at0,og_put0]
     and_intros<;>try omega
     apply Z
     refine awp_closeX 6 1 σ.length (l.length + 1) cap ((insL l i x).map D.int) ((insL l i x).flatMap cI ++ R) (by simp <;> rfl) (by simp [og_at, og_at0]) (by omega) (by have := insL_len l i x hi; simp only [List.length_append, rows_len (f := cI) (k := 1) (fun _ => rfl), this] at *; omega) (by simp [insL_len l i x hi]) (map_ok (d := D.int) (fun _ => ⟨rfl, rfl⟩) _) (by rw [rows_flat (f := cI) (fun _ => rfl)]; exact List.prefix_append _ _) ?_
     apply awp_ret
     apply q_then_r
     simp [endQ]
    ·simp at c4
theorem i_sc (N : Nat) (l : List Int) : Sc N (.xs 1 (l.map D.int)) := Sc.xs fun e he y hy => by
 obtain ⟨a, _, rfl⟩ := List.mem_map.1 he
 simp only [D.cells, List.mem_cons, List.not_mem_nil, or_false] at hy
 subst hy <;> exact Sc.v _
theorem iins_fn (l : List Int) (x : Int) (i : Nat) (σ : List (List D)) (hl : l.length ≤ 1000000) (hi : i ≤ l.length) : Ct Tryz.prog 82 [.xs 1 (l.map D.int), D.int i, .sl true [D.int x]] σ (fun r σ' => r = .xs 1 ((insL l i x).map D.int) ∧ σ' = σ) :=
 (iins0_fn l x i σ hl hi).trim fun r σ' ⟨hr, J, hs⟩ => ⟨σ, J, hs, rfl, by rw [hr]; exact i_sc _ _, fun n cs h => .inl h, hr, rfl⟩
theorem over153 : IsOver Tryz.prog 153 := by
 obtain ⟨ti, zv, h1, h2, _⟩ := elI_spec el43
 exact ⟨_, 43, 4, 55, ti, Tryz.func153, by kernel_rfl, by kernel_rfl, by kernel_rfl, by kernel_rfl, h1, h2⟩
theorem ains0_fn (l : List AT) (x : AT) (i : Nat) (σ : List (List D)) (hl : l.length ≤ 1000000) (hi : i ≤ l.length) : Ct Tryz.prog 135 [.xs 2 (l.map d_AT), D.int i, .sl true [d_AT x]] σ (fun r σ' => r = .xs 2 ((insL l i x).map d_AT) ∧ ∃ J, σ' = σ ++ J) := by
 refine zf (rs:=[.tmp 6]) Tryz.func135 Tryz.ntmps135 Tryz.results135 ?_
 simp only [argEnv]
 refine awp_openX2 0 2 rfl (by decide) fun cap rest hcap hcm hrest hk0 hes => ?_
 subst hrest
 simp only [List.length_map] at hcap ⊢
 rw [rows_flat (f := cA) (fun _ => rfl)]
 refine zr ⟨[0,6,9,17,23,55,61,83,94],[],[],[12,19,25,34,43,50,53,60,66,73,76,80],[30,40,45,54,67,77,82]⟩ fun _ _ Z=>?_
 simp (disch:=omega)[over153,-splice_un,og_at,og_put,og_at0,og_put0]
 and_intros<;>try omega
 apply Z
 refine zr ⟨[0,6,9,17,23,55,61,83,94],[],[],[12,19,25,34,43,50,53,60,66,73,76,80],[30,40,45,54,67,77,82]⟩ fun _ _ Z=>?_
 simp (disch:=omega)[over153,-splice_un,og_at,og_put,og_at0,og_put0]
 and_intros<;>try omega
 apply Z
 refine zr ⟨[0,6,9,17,23,55,61,83,94],[],[],[12,19,25,34,43,50,53,60,66,73,76,80],[30,40,45,54,67,77,82]⟩ fun _ _ Z=>?_
 simp (disch:=omega)[over153,-splice_un,og_at,og_put,og_at0,og_put0]
 and_intros<;>try omega
 apply Z
 apply awp_seq
 refine zr ⟨[0,6,9,17,23,55,61,83,94],[],[],[12,19,25,34,43,50,53,60,66,73,76,80],[30,40,45,54,67,77,82]⟩ fun _ _ Z=>?_
 simp (disch:=omega)[over153,-splice_un,og_at,og_put,og_at0,og_put0]
 and_intros<;>try omega
 apply Z
 refine zi ?_
 refine ⟨fun c1=>?_,fun c1=>?_⟩
 ·simp at c1
 ·try simp at c1
  apply awp_skip
  apply q_then_n
  refine zr ⟨[0,6,9,17,23,55,61,83,94],[],[],[12,19,25,34,43,50,53,60,66,73,76,80],[30,40,45,54,67,77,82]⟩ fun _ _ Z=>?_
  simp (disch:=omega)[over153,-splice_un,og_at,og_put,og_at0,og_put0]
  and_intros<;>try omega
  apply Z
  apply awp_seq
  refine zk [0,1,2,6,7,8] ?_
  refine zr ⟨[0,6,9,17,23,55,61,83,94],[],[],[12,19,25,34,43,50,53,60,66,73,76,80],[30,40,45,54,67,77,82]⟩ fun _ _ Z=>?_
  simp (disch:=omega)[over153,-splice_un,og_at,og_put,og_at0,og_put0]
  and_intros<;>try omega
  apply Z
  refine zi ?_
  refine ⟨fun c2=>?_,fun c2=>?_⟩
  ·try simp at c2
   refine zr ⟨[0,6,9,17,23,55,61,83,94],[],[],[12,19,25,34,43,50,53,60,66,73,76,80],[30,40,45,54,67,77,82]⟩ fun _ _ Z=>?_
   refine vcL_split 3 fun _ Y=>?_
   simp (disch:=omega)[over153,-splice_un,og_at,og_put,og_at0,og_put0]
   refine ⟨by first | rfl | exact ⟨rfl, rfl⟩ | trivial, _, l.map d_AT, ⟨rfl, by simp only [List.length_append, rows_len (f := cA) (k := 2) (fun _ => rfl), List.length_replicate]; omega, by simp, hes, by rw [rows_flat (f := cA) (fun _ => rfl)]; exact List.prefix_append _ _, by simp; omega, by simp; omega⟩, ?_⟩
   and_intros<;>try omega
   apply Y
   simp only [List.drop]
   simp (disch:=omega)[over153,-splice_un,og_at,og_put,og_at0,og_put0]
   and_intros<;>try omega
   apply Z
   apply awp_ret
   apply q_then_r
   obtain rfl : i = l.length := by omega
   simp [endQ, insL]
  ·try simp at c2
   apply awp_skip
   apply q_then_n
   apply awp_seq
   refine zr ⟨[0,6,9,17,23,55,61,83,94],[],[],[12,19,25,34,43,50,53,60,66,73,76,80],[30,40,45,54,67,77,82]⟩ fun _ _ Z=>?_
   simp (disch:=omega)[over153,-splice_un,og_at,og_put,og_at0,og_put0]
   and_intros<;>try omega
   apply Z
   refine zi ?_
   refine ⟨fun c3=>?_,fun c3=>?_⟩
   ·try simp at c3
    refine zk [0,1,2,6,7,8] ?_
    refine zr ⟨[0,6,9,17,23,55,61,83,94],[],[],[12,19,25,34,43,50,53,60,66,73,76,80],[30,40,45,54,67,77,82]⟩ fun _ _ Z=>?_
    refine vcL_split 8 fun _ Y=>?_
    simp (disch:=omega)[over153,-splice_un,og_at,og_put,og_at0,og_put0]
    and_intros<;>try omega
    apply Y
    simp only [List.drop]
    refine vcL_split 1 fun _ Y=>?_
    simp (disch:=omega)[over153,-splice_un,og_at,og_put,og_at0,og_put0]
    refine ⟨(l.take i).map d_AT, ⟨⟨by simp; omega, by first | exact ins_base0 (f := cA) (fun _ => rfl) l i | exact ins_base (f := cA) (fun _ => rfl) l i _⟩, (map_ok (d := d_AT) (fun _ => ⟨rfl, rfl⟩) _), by omega, by omega, by omega, by omega, by first | rfl | exact ⟨rfl, rfl⟩ | trivial⟩, ?_⟩
    and_intros<;>try omega
    apply Y
    simp only [List.drop]
    simp (disch:=omega)[over153,-splice_un,og_at,og_put,og_at0,og_put0]
    and_intros<;>try omega
    apply Z
    refine awp_openX 9 2 rfl (by decide) fun cap2 rest2 hcap2 hcm2 hrest2 hk2 hes2 => ?_
    simp only [List.length_append, List.length_map, List.length_take, List.length_replicate, Nat.min_eq_left hi] at hcap2 hrest2 ⊢
    rw [List.flatMap_append, show List.flatMap D.cells (List.take i (List.map d_AT l)) = (l.take i).flatMap cA from by rw [← List.map_take]; exact rows_flat (f := cA) (fun _ => rfl) _]
    simp only [List.append_assoc]
    have hR : ((List.replicate (l.length + 1 - i) (zelD 2 #[.string ⟨#[]⟩, .string ⟨#[]⟩])).flatMap D.cells ++ rest2).length = (cap2 - i) * 2 := by rw [List.length_append, zs_len (k := 2) rfl, hrest2]; omega
    generalize (List.replicate (l.length + 1 - i) (zelD 2 #[.string ⟨#[]⟩, .string ⟨#[]⟩])).flatMap D.cells ++ rest2 = R at hR ⊢
    refine zk [0,1,2,6,7,8,9] ?_
    refine zr ⟨[0,6,9,17,23,55,61,83,94],[],[],[12,19,25,34,43,50,53,60,66,73,76,80],[30,40,45,54,67,77,82]⟩ fun _ _ Z=>?_
    simp (disch:=omega)[over153,-splice_un,og_at,og_put,og_at0,og_put0]
    have hlt : i < l.length := by omega
    refine ⟨by omega, [d_AT x], _, ⟨rfl, (fun y hy => by simp only [List.mem_singleton] at hy; subst hy; exact ⟨rfl, rfl⟩), rfl, by simp only [List.length_append, rows_len (f := cA) (k := 2) (fun _ => rfl), show ∀ a, (cA a).length = 2 from fun _ => rfl, List.length_replicate, List.length_map, List.length_drop, List.length_take, List.length_cons, List.length_nil] at *; omega⟩, ?_⟩
    rw [show min [d_AT x].length (l.length + 1 - i) = 1 by first | (simp; done) | (simp; omega), show List.flatMap D.cells (List.take 1 [d_AT x]) = cA x from rfl]
    have row := ins_rowA (f := cA) (k := 2) (fun _ => rfl) l i x R hlt (by rw [hR]; omega)
    skip
    rw [row]
    clear row
    have hR3 : (R.drop 2).length = (cap2 - i - 1) * 2 := by rw [List.length_drop, hR]; omega
    generalize R.drop 2 = R3 at hR3 ⊢
    and_intros<;>try omega
    apply Z
    refine zk [0,1,2,6,7,8,9] ?_
    refine zd ⟨[0,6,9,17,23,55,61,83,94],[],[],[12,19,25,34,43,50,53,60,66,73,76,80],[30,40,45,54,67,77,82]⟩ [.op {},.op {},.op {},.op {},.op {},.op {},.op {},.op {},.op {rO:=true,wO:=true}] fun all hall _ Z=>?_
    refine vcDL_split 8 (by simp) fun _ Y=>?_
    simp (disch:=omega)[over153,-splice_un,og_at,og_put,og_at0,og_put0]
    and_intros<;>try omega
    apply Y
    simp only [List.drop]
    simp (disch:=omega)[over153,-splice_un,og_at,og_put,og_at0,og_put0]
    refine ⟨(l.drop i).map d_AT, _, ⟨⟨by simp, by have := ins_src2 (f := cA) (d := d_AT) (k := 2) (fun _ => rfl) (fun _ => rfl) l i 0 hlt; first | exact this | simpa using this⟩, (map_ok (d := d_AT) (fun _ => ⟨rfl, rfl⟩) _), rfl, by simp only [List.length_append, rows_len (f := cA) (k := 2) (fun _ => rfl), show ∀ a, (cA a).length = 2 from fun _ => rfl, List.length_replicate, List.length_map, List.length_drop, List.length_take, List.length_cons, List.length_nil] at *; omega⟩, ?_⟩
    rw [show min ((l.drop i).map d_AT).length (l.length - i) = l.length - i by simp, List.take_of_length_le (show ((l.drop i).map d_AT).length ≤ l.length - i by simp)]
    have row := ins_rowB (f := cA) (d := d_AT) (k := 2) (fun _ => rfl) (fun _ => rfl) l i x R3 hlt (by rw [hR3]; omega)
    skip
    rw [row]
    clear row
    have hR4 : (R3.drop ((l.length - i) * 2)).length = (cap2 - i - 1 - (l.length - i)) * 2 := by rw [List.length_drop, hR3]; omega
    generalize R3.drop _ = R4 at hR4 ⊢
    and_intros<;>try omega
    apply Z
    refine zk [0,1,2,6,7,8,9] ?_
    refine zr ⟨[0,6,9,17,23,55,61,83,94],[],[],[12,19,25,34,43,50,53,60,66,73,76,80],[30,40,45,54,67,77,82]⟩ fun _ _ Z=>?_
    simp (disch:=omega)[over153,-splice_un,og_at,og_put,og_at0,og_put0]
    and_intros<;>try omega
    apply Z
    refine awp_closeX 6 2 (σ.length + 1) (l.length + 1) cap2 ((insL l i x).map d_AT) ((insL l i x).flatMap cA ++ R4) (by simp <;> rfl) (by simp [og_at, og_at0]) (by omega) (by have := insL_len l i x hi; simp only [List.length_append, rows_len (f := cA) (k := 2) (fun _ => rfl), this] at *; omega) (by simp [insL_len l i x hi]) (map_ok (d := d_AT) (fun _ => ⟨rfl, rfl⟩) _) (by rw [rows_flat (f := cA) (fun _ => rfl)]; exact List.prefix_append _ _) ?_
    apply awp_ret
    apply q_then_r
    simp [endQ]
   ·try simp at c3
    apply awp_skip
    apply q_then_n
    refine zk [0,1,2,6,7,8] ?_
    refine zr ⟨[0,6,9,17,23,55,61,83,94],[],[],[12,19,25,34,43,50,53,60,66,73,76,80],[30,40,45,54,67,77,82]⟩ fun _ _ Z=>?_
    simp (disch:=omega)[over153,-splice_un,og_at,og_put,og_at0,og_put0]
    and_intros<;>try omega
    apply Z
    apply awp_seq
    refine zk [0,1,2,6,7,8] ?_
    refine zr ⟨[0,6,9,17,23,55,61,83,94],[],[],[12,19,25,34,43,50,53,60,66,73,76,80],[30,40,45,54,67,77,82]⟩ fun _ _ Z=>?_
    simp (disch:=omega)[over153,-splice_un,og_at,og_put,og_at0,og_put0]
    and_intros<;>try omega
    apply Z
    refine zi ?_
    refine ⟨fun c4=>?_,fun c4=>?_⟩
    ·try simp at c4
     refine zk [0,1,2,6,7,8] ?_
     refine zd ⟨[0,6,9,17,23,55,61,83,94],[],[],[12,19,25,34,43,50,53,60,66,73,76,80],[30,40,45,54,67,77,82]⟩ [.op {},.op {},.op {},.op {},.op {},.op {},.op {},.op {},.op {rO:=true,wO:=true}] fun all hall _ Z=>?_
     refine vcDL_split 8 (by simp) fun _ Y=>?_
     simp (disch:=omega)[over153,-splice_un,og_at,og_put,og_at0,og_put0]
     and_intros<;>try omega
     apply Y
     simp only [List.drop]
     simp (disch:=omega)[over153,-splice_un,og_at,og_put,og_at0,og_put0]
     have hlt : i < l.length := by omega
     refine ⟨(l.drop i).map d_AT ++ [anyK 2], _, ⟨⟨by first | (simp; done) | (simp; omega), by have := ins_src (f := cA) (d := d_AT) (k := 2) (fun _ => rfl) (fun _ => rfl) l i ((cap - l.length) * 2) hlt (show 2 ≤ ((cap - l.length) * 2) by omega); first | exact this | simpa using this⟩, src_ok (d := d_AT) (fun _ => ⟨rfl, rfl⟩) _, rfl, by simp only [List.length_append, rows_len (f := cA) (k := 2) (fun _ => rfl), show ∀ a, (cA a).length = 2 from fun _ => rfl, List.length_replicate, List.length_map, List.length_drop, List.length_take, List.length_cons, List.length_nil] at *; omega⟩, ?_⟩
     rw [show min ((l.drop i).map d_AT ++ [anyK 2]).length (l.length - i) = l.length - i by first | (simp; done) | (simp; omega)]
     have row := ins_row1 (f := cA) (d := d_AT) (k := 2) (fun _ => rfl) (fun _ => rfl) l i ((cap - l.length) * 2) hlt (show 2 ≤ ((cap - l.length) * 2) by omega)
     skip
     rw [row]
     clear row
     have hR : (List.replicate (((cap - l.length) * 2) - 2) D.any).length = ((cap - l.length) * 2) - 2 := List.length_replicate
     generalize List.replicate _ D.any = R at hR ⊢
     and_intros<;>try omega
     apply Z
     refine zk [0,1,2,6,7,8] ?_
     refine zr ⟨[0,6,9,17,23,55,61,83,94],[],[],[12,19,25,34,43,50,53,60,66,73,76,80],[30,40,45,54,67,77,82]⟩ fun _ _ Z=>?_
     simp (disch:=omega)[over153,-splice_un,og_at,og_put,og_at0,og_put0]
     refine ⟨by omega, [d_AT x], _, ⟨rfl, (fun y hy => by simp only [List.mem_singleton] at hy; subst hy; exact ⟨rfl, rfl⟩), rfl, by simp only [List.length_append, rows_len (f := cA) (k := 2) (fun _ => rfl), show ∀ a, (cA a).length = 2 from fun _ => rfl, List.length_replicate, List.length_map, List.length_drop, List.length_take, List.length_cons, List.length_nil] at *; omega⟩, ?_⟩
     rw [show min [d_AT x].length (l.length + 1 - i) = 1 by first | (simp; done) | (simp; omega), show List.flatMap D.cells (List.take 1 [d_AT x]) = cA x from rfl]
     have row := ins_row2 (f := cA) (k := 2) (fun _ => rfl) l i x R hlt
     skip
     rw [row]
     clear row
     and_intros<;>try omega
     apply Z
     refine zr ⟨[0,6,9,17,23,55,61,83,94],[],[],[12,19,25,34,43,50,53,60,66,73,76,80],[30,40,45,54,67,77,82]⟩ fun _ _ Z=>?_
     simp (disch:=omega)[over153,-splice_un,og_at,og_put,og_at0,og_put0]
     and_intros<;>try omega
     apply Z
     refine awp_closeX 6 2 σ.length (l.length + 1) cap ((insL l i x).map d_AT) ((insL l i x).flatMap cA ++ R) (by simp <;> rfl) (by simp [og_at, og_at0]) (by omega) (by have := insL_len l i x hi; simp only [List.length_append, rows_len (f := cA) (k := 2) (fun _ => rfl), this] at *; omega) (by simp [insL_len l i x hi]) (map_ok (d := d_AT) (fun _ => ⟨rfl, rfl⟩) _) (by rw [rows_flat (f := cA) (fun _ => rfl)]; exact List.prefix_append _ _) ?_
     apply awp_ret
     apply q_then_r
     simp [endQ]
    ·simp at c4
theorem a_sc (N : Nat) (l : List AT) : Sc N (.xs 2 (l.map d_AT)) := Sc.xs fun e he y hy => by
 obtain ⟨a, _, rfl⟩ := List.mem_map.1 he
 simp only [D.cells, List.mem_cons, List.not_mem_nil, or_false] at hy
 rcases hy with rfl | rfl <;> exact Sc.v _
theorem ains_fn (l : List AT) (x : AT) (i : Nat) (σ : List (List D)) (hl : l.length ≤ 1000000) (hi : i ≤ l.length) : Ct Tryz.prog 135 [.xs 2 (l.map d_AT), D.int i, .sl true [d_AT x]] σ (fun r σ' => r = .xs 2 ((insL l i x).map d_AT) ∧ σ' = σ) :=
 (ains0_fn l x i σ hl hi).trim fun r σ' ⟨hr, J, hs⟩ => ⟨σ, J, hs, rfl, by rw [hr]; exact a_sc _ _, fun n cs h => .inl h, hr, rfl⟩
theorem over157 : IsOver Tryz.prog 157 := by
 obtain ⟨ti, zv, h1, h2, _⟩ := elI_spec el45
 exact ⟨_, 45, 4, 53, ti, Tryz.func157, by kernel_rfl, by kernel_rfl, by kernel_rfl, by kernel_rfl, h1, h2⟩
theorem pins0_fn (l : List PI) (x : PI) (i : Nat) (σ : List (List D)) (hl : l.length ≤ 1000000) (hi : i ≤ l.length) : Ct Tryz.prog 137 [.xs 2 (l.map d_PI), D.int i, .sl true [d_PI x]] σ (fun r σ' => r = .xs 2 ((insL l i x).map d_PI) ∧ ∃ J, σ' = σ ++ J) := by
 refine zf (rs:=[.tmp 6]) Tryz.func137 Tryz.ntmps137 Tryz.results137 ?_
 simp only [argEnv]
 refine awp_openX2 0 2 rfl (by decide) fun cap rest hcap hcm hrest hk0 hes => ?_
 subst hrest
 simp only [List.length_map] at hcap ⊢
 rw [rows_flat (f := cP) (fun _ => rfl)]
 refine zr ⟨[0,6,9,17,23,55,61,83,94],[],[],[12,19,25,34,43,50,53,60,66,73,76,80],[30,40,45,54,67,77,82]⟩ fun _ _ Z=>?_
 simp (disch:=omega)[over157,-splice_un,og_at,og_put,og_at0,og_put0]
 and_intros<;>try omega
 apply Z
 refine zr ⟨[0,6,9,17,23,55,61,83,94],[],[],[12,19,25,34,43,50,53,60,66,73,76,80],[30,40,45,54,67,77,82]⟩ fun _ _ Z=>?_
 simp (disch:=omega)[over157,-splice_un,og_at,og_put,og_at0,og_put0]
 and_intros<;>try omega
 apply Z
 refine zr ⟨[0,6,9,17,23,55,61,83,94],[],[],[12,19,25,34,43,50,53,60,66,73,76,80],[30,40,45,54,67,77,82]⟩ fun _ _ Z=>?_
 simp (disch:=omega)[over157,-splice_un,og_at,og_put,og_at0,og_put0]
 and_intros<;>try omega
 apply Z
 apply awp_seq
 refine zr ⟨[0,6,9,17,23,55,61,83,94],[],[],[12,19,25,34,43,50,53,60,66,73,76,80],[30,40,45,54,67,77,82]⟩ fun _ _ Z=>?_
 simp (disch:=omega)[over157,-splice_un,og_at,og_put,og_at0,og_put0]
 and_intros<;>try omega
 apply Z
 refine zi ?_
 refine ⟨fun c1=>?_,fun c1=>?_⟩
 ·simp at c1
 ·try simp at c1
  apply awp_skip
  apply q_then_n
  refine zr ⟨[0,6,9,17,23,55,61,83,94],[],[],[12,19,25,34,43,50,53,60,66,73,76,80],[30,40,45,54,67,77,82]⟩ fun _ _ Z=>?_
  simp (disch:=omega)[over157,-splice_un,og_at,og_put,og_at0,og_put0]
  and_intros<;>try omega
  apply Z
  apply awp_seq
  refine zk [0,1,2,6,7,8] ?_
  refine zr ⟨[0,6,9,17,23,55,61,83,94],[],[],[12,19,25,34,43,50,53,60,66,73,76,80],[30,40,45,54,67,77,82]⟩ fun _ _ Z=>?_
  simp (disch:=omega)[over157,-splice_un,og_at,og_put,og_at0,og_put0]
  and_intros<;>try omega
  apply Z
  refine zi ?_
  refine ⟨fun c2=>?_,fun c2=>?_⟩
  ·try simp at c2
   refine zr ⟨[0,6,9,17,23,55,61,83,94],[],[],[12,19,25,34,43,50,53,60,66,73,76,80],[30,40,45,54,67,77,82]⟩ fun _ _ Z=>?_
   refine vcL_split 3 fun _ Y=>?_
   simp (disch:=omega)[over157,-splice_un,og_at,og_put,og_at0,og_put0]
   refine ⟨by first | rfl | exact ⟨rfl, rfl⟩ | trivial, _, l.map d_PI, ⟨rfl, by simp only [List.length_append, rows_len (f := cP) (k := 2) (fun _ => rfl), List.length_replicate]; omega, by simp, hes, by rw [rows_flat (f := cP) (fun _ => rfl)]; exact List.prefix_append _ _, by simp; omega, by simp; omega⟩, ?_⟩
   and_intros<;>try omega
   apply Y
   simp only [List.drop]
   simp (disch:=omega)[over157,-splice_un,og_at,og_put,og_at0,og_put0]
   and_intros<;>try omega
   apply Z
   apply awp_ret
   apply q_then_r
   obtain rfl : i = l.length := by omega
   simp [endQ, insL]
  ·try simp at c2
   apply awp_skip
   apply q_then_n
   apply awp_seq
   refine zr ⟨[0,6,9,17,23,55,61,83,94],[],[],[12,19,25,34,43,50,53,60,66,73,76,80],[30,40,45,54,67,77,82]⟩ fun _ _ Z=>?_
   simp (disch:=omega)[over157,-splice_un,og_at,og_put,og_at0,og_put0]
   and_intros<;>try omega
   apply Z
   refine zi ?_
   refine ⟨fun c3=>?_,fun c3=>?_⟩
   ·try simp at c3
    refine zk [0,1,2,6,7,8] ?_
    refine zr ⟨[0,6,9,17,23,55,61,83,94],[],[],[12,19,25,34,43,50,53,60,66,73,76,80],[30,40,45,54,67,77,82]⟩ fun _ _ Z=>?_
    refine vcL_split 8 fun _ Y=>?_
    simp (disch:=omega)[over157,-splice_un,og_at,og_put,og_at0,og_put0]
    and_intros<;>try omega
    apply Y
    simp only [List.drop]
    refine vcL_split 1 fun _ Y=>?_
    simp (disch:=omega)[over157,-splice_un,og_at,og_put,og_at0,og_put0]
    refine ⟨(l.take i).map d_PI, ⟨⟨by simp; omega, by first | exact ins_base0 (f := cP) (fun _ => rfl) l i | exact ins_base (f := cP) (fun _ => rfl) l i _⟩, (map_ok (d := d_PI) (fun _ => ⟨rfl, rfl⟩) _), by omega, by omega, by omega, by omega, by first | rfl | exact ⟨rfl, rfl⟩ | trivial⟩, ?_⟩
    and_intros<;>try omega
    apply Y
    simp only [List.drop]
    simp (disch:=omega)[over157,-splice_un,og_at,og_put,og_at0,og_put0]
    and_intros<;>try omega
    apply Z
    refine awp_openX 9 2 rfl (by decide) fun cap2 rest2 hcap2 hcm2 hrest2 hk2 hes2 => ?_
    simp only [List.length_append, List.length_map, List.length_take, List.length_replicate, Nat.min_eq_left hi] at hcap2 hrest2 ⊢
    rw [List.flatMap_append, show List.flatMap D.cells (List.take i (List.map d_PI l)) = (l.take i).flatMap cP from by rw [← List.map_take]; exact rows_flat (f := cP) (fun _ => rfl) _]
    simp only [List.append_assoc]
    have hR : ((List.replicate (l.length + 1 - i) (zelD 2 #[.string ⟨#[]⟩, .int .i64 0])).flatMap D.cells ++ rest2).length = (cap2 - i) * 2 := by rw [List.length_append, zs_len (k := 2) rfl, hrest2]; omega
    generalize (List.replicate (l.length + 1 - i) (zelD 2 #[.string ⟨#[]⟩, .int .i64 0])).flatMap D.cells ++ rest2 = R at hR ⊢
    refine zk [0,1,2,6,7,8,9] ?_
    refine zr ⟨[0,6,9,17,23,55,61,83,94],[],[],[12,19,25,34,43,50,53,60,66,73,76,80],[30,40,45,54,67,77,82]⟩ fun _ _ Z=>?_
    simp (disch:=omega)[over157,-splice_un,og_at,og_put,og_at0,og_put0]
    have hlt : i < l.length := by omega
    refine ⟨by omega, [d_PI x], _, ⟨rfl, (fun y hy => by simp only [List.mem_singleton] at hy; subst hy; exact ⟨rfl, rfl⟩), rfl, by simp only [List.length_append, rows_len (f := cP) (k := 2) (fun _ => rfl), show ∀ a, (cP a).length = 2 from fun _ => rfl, List.length_replicate, List.length_map, List.length_drop, List.length_take, List.length_cons, List.length_nil] at *; omega⟩, ?_⟩
    rw [show min [d_PI x].length (l.length + 1 - i) = 1 by first | (simp; done) | (simp; omega), show List.flatMap D.cells (List.take 1 [d_PI x]) = cP x from rfl]
    have row := ins_rowA (f := cP) (k := 2) (fun _ => rfl) l i x R hlt (by rw [hR]; omega)
    skip
    rw [row]
    clear row
    have hR3 : (R.drop 2).length = (cap2 - i - 1) * 2 := by rw [List.length_drop, hR]; omega
    generalize R.drop 2 = R3 at hR3 ⊢
    and_intros<;>try omega
    apply Z
    refine zk [0,1,2,6,7,8,9] ?_
    refine zd ⟨[0,6,9,17,23,55,61,83,94],[],[],[12,19,25,34,43,50,53,60,66,73,76,80],[30,40,45,54,67,77,82]⟩ [.op {},.op {},.op {},.op {},.op {},.op {},.op {},.op {},.op {rO:=true,wO:=true}] fun all hall _ Z=>?_
    refine vcDL_split 8 (by simp) fun _ Y=>?_
    simp (disch:=omega)[over157,-splice_un,og_at,og_put,og_at0,og_put0]
    and_intros<;>try omega
    apply Y
    simp only [List.drop]
    simp (disch:=omega)[over157,-splice_un,og_at,og_put,og_at0,og_put0]
    refine ⟨(l.drop i).map d_PI, _, ⟨⟨by simp, by have := ins_src2 (f := cP) (d := d_PI) (k := 2) (fun _ => rfl) (fun _ => rfl) l i 0 hlt; first | exact this | simpa using this⟩, (map_ok (d := d_PI) (fun _ => ⟨rfl, rfl⟩) _), rfl, by simp only [List.length_append, rows_len (f := cP) (k := 2) (fun _ => rfl), show ∀ a, (cP a).length = 2 from fun _ => rfl, List.length_replicate, List.length_map, List.length_drop, List.length_take, List.length_cons, List.length_nil] at *; omega⟩, ?_⟩
    rw [show min ((l.drop i).map d_PI).length (l.length - i) = l.length - i by simp, List.take_of_length_le (show ((l.drop i).map d_PI).length ≤ l.length - i by simp)]
    have row := ins_rowB (f := cP) (d := d_PI) (k := 2) (fun _ => rfl) (fun _ => rfl) l i x R3 hlt (by rw [hR3]; omega)
    skip
    rw [row]
    clear row
    have hR4 : (R3.drop ((l.length - i) * 2)).length = (cap2 - i - 1 - (l.length - i)) * 2 := by rw [List.length_drop, hR3]; omega
    generalize R3.drop _ = R4 at hR4 ⊢
    and_intros<;>try omega
    apply Z
    refine zk [0,1,2,6,7,8,9] ?_
    refine zr ⟨[0,6,9,17,23,55,61,83,94],[],[],[12,19,25,34,43,50,53,60,66,73,76,80],[30,40,45,54,67,77,82]⟩ fun _ _ Z=>?_
    simp (disch:=omega)[over157,-splice_un,og_at,og_put,og_at0,og_put0]
    and_intros<;>try omega
    apply Z
    refine awp_closeX 6 2 (σ.length + 1) (l.length + 1) cap2 ((insL l i x).map d_PI) ((insL l i x).flatMap cP ++ R4) (by simp <;> rfl) (by simp [og_at, og_at0]) (by omega) (by have := insL_len l i x hi; simp only [List.length_append, rows_len (f := cP) (k := 2) (fun _ => rfl), this] at *; omega) (by simp [insL_len l i x hi]) (map_ok (d := d_PI) (fun _ => ⟨rfl, rfl⟩) _) (by rw [rows_flat (f := cP) (fun _ => rfl)]; exact List.prefix_append _ _) ?_
    apply awp_ret
    apply q_then_r
    simp [endQ]
   ·try simp at c3
    apply awp_skip
    apply q_then_n
    refine zk [0,1,2,6,7,8] ?_
    refine zr ⟨[0,6,9,17,23,55,61,83,94],[],[],[12,19,25,34,43,50,53,60,66,73,76,80],[30,40,45,54,67,77,82]⟩ fun _ _ Z=>?_
    simp (disch:=omega)[over157,-splice_un,og_at,og_put,og_at0,og_put0]
    and_intros<;>try omega
    apply Z
    apply awp_seq
    refine zk [0,1,2,6,7,8] ?_
    refine zr ⟨[0,6,9,17,23,55,61,83,94],[],[],[12,19,25,34,43,50,53,60,66,73,76,80],[30,40,45,54,67,77,82]⟩ fun _ _ Z=>?_
    simp (disch:=omega)[over157,-splice_un,og_at,og_put,og_at0,og_put0]
    and_intros<;>try omega
    apply Z
    refine zi ?_
    refine ⟨fun c4=>?_,fun c4=>?_⟩
    ·try simp at c4
     refine zk [0,1,2,6,7,8] ?_
     refine zd ⟨[0,6,9,17,23,55,61,83,94],[],[],[12,19,25,34,43,50,53,60,66,73,76,80],[30,40,45,54,67,77,82]⟩ [.op {},.op {},.op {},.op {},.op {},.op {},.op {},.op {},.op {rO:=true,wO:=true}] fun all hall _ Z=>?_
     refine vcDL_split 8 (by simp) fun _ Y=>?_
     simp (disch:=omega)[over157,-splice_un,og_at,og_put,og_at0,og_put0]
     and_intros<;>try omega
     apply Y
     simp only [List.drop]
     simp (disch:=omega)[over157,-splice_un,og_at,og_put,og_at0,og_put0]
     have hlt : i < l.length := by omega
     refine ⟨(l.drop i).map d_PI ++ [anyK 2], _, ⟨⟨by first | (simp; done) | (simp; omega), by have := ins_src (f := cP) (d := d_PI) (k := 2) (fun _ => rfl) (fun _ => rfl) l i ((cap - l.length) * 2) hlt (show 2 ≤ ((cap - l.length) * 2) by omega); first | exact this | simpa using this⟩, src_ok (d := d_PI) (fun _ => ⟨rfl, rfl⟩) _, rfl, by simp only [List.length_append, rows_len (f := cP) (k := 2) (fun _ => rfl), show ∀ a, (cP a).length = 2 from fun _ => rfl, List.length_replicate, List.length_map, List.length_drop, List.length_take, List.length_cons, List.length_nil] at *; omega⟩, ?_⟩
     rw [show min ((l.drop i).map d_PI ++ [anyK 2]).length (l.length - i) = l.length - i by first | (simp; done) | (simp; omega)]
     have row := ins_row1 (f := cP) (d := d_PI) (k := 2) (fun _ => rfl) (fun _ => rfl) l i ((cap - l.length) * 2) hlt (show 2 ≤ ((cap - l.length) * 2) by omega)
     skip
     rw [row]
     clear row
     have hR : (List.replicate (((cap - l.length) * 2) - 2) D.any).length = ((cap - l.length) * 2) - 2 := List.length_replicate
     generalize List.replicate _ D.any = R at hR ⊢
     and_intros<;>try omega
     apply Z
     refine zk [0,1,2,6,7,8] ?_
     refine zr ⟨[0,6,9,17,23,55,61,83,94],[],[],[12,19,25,34,43,50,53,60,66,73,76,80],[30,40,45,54,67,77,82]⟩ fun _ _ Z=>?_
     simp (disch:=omega)[over157,-splice_un,og_at,og_put,og_at0,og_put0]
     refine ⟨by omega, [d_PI x], _, ⟨rfl, (fun y hy => by simp only [List.mem_singleton] at hy; subst hy; exact ⟨rfl, rfl⟩), rfl, by simp only [List.length_append, rows_len (f := cP) (k := 2) (fun _ => rfl), show ∀ a, (cP a).length = 2 from fun _ => rfl, List.length_replicate, List.length_map, List.length_drop, List.length_take, List.length_cons, List.length_nil] at *; omega⟩, ?_⟩
     rw [show min [d_PI x].length (l.length + 1 - i) = 1 by first | (simp; done) | (simp; omega), show List.flatMap D.cells (List.take 1 [d_PI x]) = cP x from rfl]
     have row := ins_row2 (f := cP) (k := 2) (fun _ => rfl) l i x R hlt
     skip
     rw [row]
     clear row
     and_intros<;>try omega
     apply Z
     refine zr ⟨[0,6,9,17,23,55,61,83,94],[],[],[12,19,25,34,43,50,53,60,66,73,76,80],[30,40,45,54,67,77,82]⟩ fun _ _ Z=>?_
     simp (disch:=omega)[over157,-splice_un,og_at,og_put,og_at0,og_put0]
     and_intros<;>try omega
     apply Z
     refine awp_closeX 6 2 σ.length (l.length + 1) cap ((insL l i x).map d_PI) ((insL l i x).flatMap cP ++ R) (by simp <;> rfl) (by simp [og_at, og_at0]) (by omega) (by have := insL_len l i x hi; simp only [List.length_append, rows_len (f := cP) (k := 2) (fun _ => rfl), this] at *; omega) (by simp [insL_len l i x hi]) (map_ok (d := d_PI) (fun _ => ⟨rfl, rfl⟩) _) (by rw [rows_flat (f := cP) (fun _ => rfl)]; exact List.prefix_append _ _) ?_
     apply awp_ret
     apply q_then_r
     simp [endQ]
    ·simp at c4
theorem p_sc (N : Nat) (l : List PI) : Sc N (.xs 2 (l.map d_PI)) := Sc.xs fun e he y hy => by
 obtain ⟨a, _, rfl⟩ := List.mem_map.1 he
 simp only [D.cells, List.mem_cons, List.not_mem_nil, or_false] at hy
 rcases hy with rfl | rfl <;> exact Sc.v _
theorem pins_fn (l : List PI) (x : PI) (i : Nat) (σ : List (List D)) (hl : l.length ≤ 1000000) (hi : i ≤ l.length) : Ct Tryz.prog 137 [.xs 2 (l.map d_PI), D.int i, .sl true [d_PI x]] σ (fun r σ' => r = .xs 2 ((insL l i x).map d_PI) ∧ σ' = σ) :=
 (pins0_fn l x i σ hl hi).trim fun r σ' ⟨hr, J, hs⟩ => ⟨σ, J, hs, rfl, by rw [hr]; exact p_sc _ _, fun n cs h => .inl h, hr, rfl⟩
end Go.Proofs.YtpfmpeaekgdgnaaGreat

