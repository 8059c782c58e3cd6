import Derived.Test.YtighdhfgcdjmeaaWkL20
namespace Go.Proofs.Ytighdhfgcdjmeaa
open Go Go.Vm
set_option maxRecDepth 20000
set_option linter.all false
set_option maxHeartbeats 8000000
theorem Iq (v : VN) (i : Nat) (σ : List (List D)) (hv : VF v) (hi : i + hD v ≤ 1000000) (ih : ∀ k ∈ v.kids, VG k ∧ Qw k) : Ct Try.prog 5 [yO v, D.int i] σ (fun r σ' => (∃ t : TN, r = .tup [fE t, D.int ((i + hD v : Nat) : Int)] ∧ TG t ∧ jS t = hD v) ∧ ∃ J, σ' = σ ++ J) := by
 refine zf (rs:=[.cell 4 31,.tmp 5]) Try.func5 Try.ntmps5 Try.results5 ?_;simp only [aM];have hce := yS v;have hck := Mw v v.kids.length (Nat.le_refl _);have hv1 := hv.1;have hv2 := hv.2.1;have hv3 := hv.2.2.1;refine zr ⟨[62],[],[6],[],[]⟩ fun _ _ Z=>?_;simp (disch:=omega)[aB,aA];and_intros<;>(try omega);apply Z;refine zd ⟨[62],[],[6],[],[]⟩ [.op {},.op {},.op {rL:=true},.op {},.op {},.op {rL:=true},.op {},.op {rL:=true},.op {},.op {},.op {rL:=true},.op {},.op {},.op {rL:=true},.pure,.pure,.op {},.op {rO:=true,wO:=true},.op {rO:=true,wO:=true}] fun all hall _ Z=>?_;refine aL 8 (by simp) fun _ Y=>?_;simp (disch:=omega)[aB,aA];and_intros<;>(try omega);apply Y;simp only [List.drop];refine aL 6 (by simp) fun _ Y=>?_;simp (disch:=omega)[aB,aA];and_intros<;>(try omega);apply Y;simp only [List.drop];refine aV fun _ Y=>?_;simp (disch:=omega)[aB,aA];refine kM (fun _ => (Fk v.styles _ (by omega))) ?_;apply Y;refine aV fun _ Y=>?_;simp (disch:=omega)[aB,aA];refine kM (fun _ => (Pq v.styles _ (by omega))) ?_;apply Y;simp (disch:=omega)[aB,aA];and_intros<;>(try omega);apply Z;apply aH;refine Gm σ.length ([D.int i, D.int (min v.kind 2), D.str v.tag, D.str v.text, .sl false (v.classes.map D.str), .sl false (([]).map bR), .sl false ((ofL nP v.styles).map bH), .sl true ([])]) (by simp [aB]; rfl) (by simp [Vc, D.s1]) ?_;simp only [aA, List.set_cons_zero];refine zk [1,2,4,5,6] ?_;refine zr ⟨[62],[],[6],[],[]⟩ fun _ _ Z=>?_;simp (disch:=omega)[aB,aA];and_intros<;>(try omega);apply Z;apply aN;refine zk [1,2,4,5,6,31,32,33] ?_;refine fY (fun (k : Nat) => [(33, .d (.v (.int .i64 (k : Int)))), (8, .d (.any))]) (fun (k : Nat) => []) (fun (k : Nat) => [(σ.length, [D.int i, D.int (min v.kind 2), D.str v.tag, D.str v.text, .sl false (v.classes.map D.str), .sl false ((ofL nA (v.attrs.take k)).map bR), .sl false ((ofL nP v.styles).map bH), .sl true ([])])]) [8, 33, 34, 35, 36, 37, 38, 39, 40, 41, 42, 43, 44, 45] (fun (k : Nat) => k ≤ v.attrs.length) (fun (k : Nat) => v.attrs.length - k) (0) (by simp <;> rfl) ?_ (by simp) (by simp [aB, ofL]) ?_ ?_
 ·simp
 ·simp
 rintro k hk;simp only [List.cons_append, List.nil_append, gN, fI, List.set_cons_zero, List.set_cons_succ];have hol := ofL_len nA (v.attrs.take k);simp only [List.length_take] at hol;refine zr ⟨[62],[],[6],[],[]⟩ fun _ _ Z=>?_;simp (disch:=omega)[aB,aA];and_intros<;>(try omega);apply Z;apply aH;refine zi ?_;refine ⟨fun c1=>?_,fun c1=>?_⟩
 ·try simp at c1
  apply aK;apply aE;apply aH;apply aN;refine zr ⟨[62],[],[6],[],[]⟩ fun _ _ Z=>?_;simp (disch:=omega)[aB,aA];and_intros<;>(try omega);apply Z;refine zk [1,2,4,5,6,8,31,32,33] ?_;refine zt ⟨[62],[],[6],[],[]⟩ fun _ _ Z=>?_;refine aC 6 fun _ Y=>?_;simp (disch:=omega)[aB,aA];and_intros<;>(try omega);apply Y;simp only [List.drop];refine aD fun _ Y=>?_;simp (disch:=omega)[aB,aA];refine cD (Cm (ofL nA (v.attrs.take k)) v.attrs[k].name v.attrs[k].value _ (by omega) (ofL_sorted nA _)) ?_;apply Y;simp (disch:=omega)[aB,aA];and_intros<;>(try omega);apply Z;apply aZ;apply aE;refine zk [1,2,4,5,6,8,31,32,33] ?_;refine zt ⟨[62],[],[6],[],[]⟩ fun _ _ Z=>?_;simp (disch:=omega)[aB,aA];and_intros<;>(try omega);apply Z;refine bT (k + 1) ?_ ?_ (bI rfl ?_ (by simp) (by simp [ofL_take, *]))
  ·omega
  ·try dsimp only
   omega
  ·simp (disch:=omega)[aB,aA]
 ·try simp at c1
  obtain rfl : k = v.attrs.length := by omega
  rw [List.take_length];apply bP;apply bN;apply bO;apply bG;apply aE;refine zr ⟨[62],[],[6],[],[]⟩ fun _ _ Z=>?_;simp (disch:=omega)[aB,aA];and_intros<;>(try omega);apply Z;apply aH;refine zk [1,2,4,5,6] ?_;refine zr ⟨[62],[],[6],[],[]⟩ fun _ _ Z=>?_;simp (disch:=omega)[aB,aA];and_intros<;>(try omega);apply Z;apply aN;refine zk [1,4,5,6,49,50,51] ?_;refine fY (fun (p : List TN × Nat) => [(51, .d (.v (.int .i64 (p.2 : Int)))), (1, .d (.v (.int .i64 ((i + 1 + mT v p.2) : Int)))), (10, .d (.any)), (11, .d (.any)), (12, .d (.any))]) (fun (p : List TN × Nat) => []) (fun (p : List TN × Nat) => [(σ.length, [D.int i, D.int (min v.kind 2), D.str v.tag, D.str v.text, .sl false (v.classes.map D.str), .sl false ((ofL nA v.attrs).map bR), .sl false ((ofL nP v.styles).map bH), .sl true (p.1.map zS)])]) [1, 10, 11, 12, 51, 52, 53, 54, 55, 56, 57, 58, 59, 60, 61, 62, 63, 64, 65, 66, 67, 68] (fun (p : List TN × Nat) => p.2 ≤ v.kids.length ∧ (∀ t ∈ p.1, TG t) ∧ (p.1.map jS).sum = mT v p.2 ∧ p.1.length ≤ p.2) (fun (p : List TN × Nat) => v.kids.length - p.2) (([], 0)) (by simp <;> rfl) ?_ (by simp) (by simp [aB]) ?_ ?_
  ·simp [Ii]
  ·simp [Ii]
  rintro ⟨ts, j⟩ ⟨h1, h2, h3, h4⟩;simp only [List.cons_append, List.nil_append, gN, fI, List.set_cons_zero, List.set_cons_succ];dsimp only at h1 h2 h3 h4;have hlt := Pd v j;refine zr ⟨[62],[],[6],[],[]⟩ fun _ _ Z=>?_;simp (disch:=omega)[aB,aA];and_intros<;>(try omega);apply Z;apply aH;refine zi ?_;refine ⟨fun c2=>?_,fun c2=>?_⟩
  ·try simp at c2
   apply aK;apply aE;apply aH;apply aN;refine zr ⟨[62],[],[6],[],[]⟩ fun _ _ Z=>?_;simp (disch:=omega)[aB,aA];and_intros<;>(try omega);apply Z;refine zk [1,4,5,6,10,11,12,49,50,51] ?_;refine zr ⟨[62],[],[6],[],[]⟩ fun _ _ Z=>?_;refine aC 2 fun _ Y=>?_;simp (disch:=omega)[aB,aA];and_intros<;>(try omega);apply Y;simp only [List.drop];refine aD fun _ Y=>?_;simp (disch:=omega)[aB,aA];refine Tu ((ih v.kids[j] (List.getElem_mem _)).2 (i + 1 + mT v j) _ (by have := hlt (by assumption); omega)) ?_;rintro _ τ1 ⟨⟨u, hr, hu, hcu⟩, hτ⟩;subst hr hτ;apply Y;simp (disch:=omega)[aB,aA];and_intros<;>(try omega);apply Z;refine zk [1,4,5,6,10,11,12,49,50,51] ?_;refine zr ⟨[62],[],[6],[],[]⟩ fun _ _ Z=>?_;simp (disch:=omega)[aB,aA];and_intros<;>(try omega);apply Z;refine zk [1,4,5,6,10,11,12,49,50,51] ?_;refine zt ⟨[62],[],[6],[],[]⟩ fun _ _ Z=>?_;simp (disch:=omega)[aB,aA];and_intros<;>(try omega);apply Z;apply aZ;apply aE;refine zk [1,4,5,6,10,11,12,49,50,51] ?_;refine zt ⟨[62],[],[6],[],[]⟩ fun _ _ Z=>?_;simp (disch:=omega)[aB,aA];and_intros<;>(try omega);apply Z;refine bT ((ts ++ [u], j + 1)) ?_ ?_ (bI rfl ?_ (by simp) (by simp))
   ·refine ⟨by omega, fun t ht => ?_, ?_, ?_⟩
    ·rcases List.mem_append.1 ht with ht | ht
     ·exact h2 t ht
     ·rw [List.mem_singleton.1 ht]; exact hu
    ·simp only [List.map_append, List.sum_append, List.map_cons, List.map_nil, List.sum_cons, List.sum_nil, jE v j (by assumption)]; omega
    ·simp; omega
   ·try dsimp only
    omega
   ·simp (disch:=omega)[aB,aA,jE v j (by omega),Int.add_assoc]
  ·try simp at c2
   obtain rfl : j = v.kids.length := by omega
   apply bP;apply bN;apply bO;apply bG;apply aE;refine zr ⟨[62],[],[6],[],[]⟩ fun _ _ Z=>?_;simp (disch:=omega)[aB,aA];and_intros<;>(try omega);apply Z;apply aF;simp [aR];refine ⟨⟨i, min v.kind 2, v.tag, v.text, v.classes, ofL nA v.attrs, ofL nP v.styles, ts⟩, ?_, ?_, ?_⟩
   ·simp; omega
   ·exact .mk _ ⟨⟨Nat.le_trans (ofL_len nP v.styles) hv3, ofL_sorted nP _⟩, ⟨Nat.le_trans (ofL_len nA v.attrs) hv2, ofL_sorted nA _⟩, hv.2.2.2⟩ h2
   ·rw [nN]; simp only []; omega
end Go.Proofs.Ytighdhfgcdjmeaa

