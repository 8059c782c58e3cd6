import Derived.Test.YtpfmpeaekgdgnaaGreatWkTr2
namespace Go.Proofs.YtpfmpeaekgdgnaaGreat
open Go Go.Vm
set_option maxRecDepth 20000
set_option linter.all false
set_option maxHeartbeats 8000000
theorem Xe (m : Nat) (o : TOp) (n c : Int) (σ2 : List (List D)) (σ : List (List D)) (hc : Ct Tryz.prog 40 [.ref m 0, D.str o.name] σ (fun r τ => r = .tup [D.int n, D.int c] ∧ τ = σ2)) : Ct Tryz.prog 112 [.adr [.ref m 0], .adr [D.int o.kind, D.int o.a, D.int o.b, D.int o.c, D.str o.name, D.str o.value]] σ (fun r σ' => r = .tup [D.int n, D.int c] ∧ σ' = σ2) := by
 refine zf (rs:=[.tmp 2,.tmp 3]) Tryz.func112 Tryz.ntmps112 Tryz.results112 ?_;simp only [aN];refine aY fun _ _ Z=>?_;simp;and_intros<;>(try omega);apply Z;refine aY fun _ _ Z=>?_;refine aA 3 fun _ Y=>?_;simp;and_intros<;>(try omega);apply Y;simp only [List.drop];refine aD fun _ Y=>?_;simp;refine bY (hc) ?_;apply Y;simp;and_intros<;>(try omega);apply Z;apply aC;simp [aK]
theorem Xn (m : Nat) (o : TOp) (n c : Int) (σ2 : List (List D)) (σ : List (List D)) (hc : Ct Tryz.prog 44 [.ref m 0, D.str o.value] σ (fun r τ => r = .tup [D.int n, D.int c] ∧ τ = σ2)) : Ct Tryz.prog 113 [.adr [.ref m 0], .adr [D.int o.kind, D.int o.a, D.int o.b, D.int o.c, D.str o.name, D.str o.value]] σ (fun r σ' => r = .tup [D.int n, D.int c] ∧ σ' = σ2) := by
 refine zf (rs:=[.tmp 2,.tmp 3]) Tryz.func113 Tryz.ntmps113 Tryz.results113 ?_;simp only [aN];refine aY fun _ _ Z=>?_;simp;and_intros<;>(try omega);apply Z;refine aY fun _ _ Z=>?_;refine aA 3 fun _ Y=>?_;simp;and_intros<;>(try omega);apply Y;simp only [List.drop];refine aD fun _ Y=>?_;simp;refine bY (hc) ?_;apply Y;simp;and_intros<;>(try omega);apply Z;apply aC;simp [aK]
theorem Lc (m : Nat) (o : TOp) (nx n c : Int) (f : FuncId) (σ2 : List (List D)) (σ : List (List D)) (hnx : Ct Tryz.prog 20 [.ref m 0] σ (fun r τ => r = D.int nx ∧ τ = σ)) (hf : nx = o.a → Ct Tryz.prog f [.adr [.ref m 0], .adr [D.int o.kind, D.int o.a, D.int o.b, D.int o.c, D.str o.name, D.str o.value]] σ (fun r τ => r = .tup [D.int n, D.int c] ∧ τ = σ2)) (hne : ¬ nx = o.a → c = 1 ∧ σ2 = σ) : Ct Tryz.prog 111 [.ref m 0, D.int o.a, .clo (.func f) [] [.adr [.ref m 0], .adr [D.int o.kind, D.int o.a, D.int o.b, D.int o.c, D.str o.name, D.str o.value]]] σ (fun r σ' => r = D.int c ∧ σ' = σ2) := by
 refine zf (rs:=[.tmp 6]) Tryz.func111 Tryz.ntmps111 Tryz.results111 ?_;simp only [aN];refine aY fun _ _ Z=>?_;simp;and_intros<;>(try omega);apply Z;apply aE;refine aY fun _ _ Z=>?_;refine aA 1 fun _ Y=>?_;simp;and_intros<;>(try omega);apply Y;simp only [List.drop];refine aD fun _ Y=>?_;simp;refine bY (hnx) ?_;apply Y;simp;and_intros<;>(try omega);apply Z;refine zi ?_;refine ⟨fun c1=>?_,fun c1=>?_⟩
 ·try simp at c1
  refine aY fun _ _ Z=>?_;simp;and_intros<;>(try omega);apply Z;apply aC;apply aH;obtain ⟨r1, r2⟩ := hne (by omega);subst r1; subst r2;simp [aK]
 ·try simp at c1
  apply aG;apply aB;refine aY fun _ _ Z=>?_;refine aA 1 fun _ Y=>?_;simp;and_intros<;>(try omega);apply Y;simp only [List.drop];refine aD fun _ Y=>?_;simp;refine bY (hf (by omega)) ?_;apply Y;simp;and_intros<;>(try omega);apply Z;refine zk [6,8] ?_;refine aY fun _ _ Z=>?_;simp;and_intros<;>(try omega);apply Z;apply aC;simp [aK]
theorem gX (m : Nat) (o : TOp) (nx n c : Int) (σ2 : List (List D)) (σ : List (List D)) (hnx : (o.kind = 1 ∨ o.kind = 2) → Ct Tryz.prog 20 [.ref m 0] σ (fun r τ => r = D.int nx ∧ τ = σ)) (hne : (o.kind = 1 ∨ o.kind = 2) → ¬ nx = o.a → c = 1 ∧ σ2 = σ) (e1 : o.kind = 1 → nx = o.a → Ct Tryz.prog 40 [.ref m 0, D.str o.name] σ (fun r τ => r = .tup [D.int n, D.int c] ∧ τ = σ2)) (e2 : o.kind = 2 → nx = o.a → Ct Tryz.prog 44 [.ref m 0, D.str o.value] σ (fun r τ => r = .tup [D.int n, D.int c] ∧ τ = σ2)) (e3 : o.kind = 3 → Ct Tryz.prog 41 [.ref m 0, D.int o.a, D.int o.b, D.int o.c] σ (fun r τ => r = D.int c ∧ τ = σ2)) (e4 : o.kind = 4 → Ct Tryz.prog 46 [.ref m 0, D.int o.a, D.int o.b] σ (fun r τ => r = D.int c ∧ τ = σ2)) (e5 : o.kind = 5 → Ct Tryz.prog 48 [.ref m 0, D.int o.a] σ (fun r τ => r = D.int c ∧ τ = σ2)) (e6 : o.kind = 6 → Ct Tryz.prog 89 [.ref m 0, D.int o.a, D.str o.name] σ (fun r τ => r = D.int c ∧ τ = σ2)) (e7 : o.kind = 7 → Ct Tryz.prog 90 [.ref m 0, D.int o.a, D.str o.value] σ (fun r τ => r = D.int c ∧ τ = σ2)) (e8 : o.kind = 8 → Ct Tryz.prog 91 [.ref m 0, D.int o.a, D.str o.name, D.str o.value] σ (fun r τ => r = D.int c ∧ τ = σ2)) (e9 : o.kind = 9 → Ct Tryz.prog 92 [.ref m 0, D.int o.a, D.str o.name] σ (fun r τ => r = D.int c ∧ τ = σ2)) (e10 : o.kind = 10 → Ct Tryz.prog 93 [.ref m 0, D.int o.a, D.str o.name, D.int o.c] σ (fun r τ => r = D.int c ∧ τ = σ2)) (e11 : o.kind = 11 → Ct Tryz.prog 94 [.ref m 0, D.int o.a, D.str o.name] σ (fun r τ => r = D.int c ∧ τ = σ2)) (e12 : o.kind = 12 → Ct Tryz.prog 95 [.ref m 0, D.int o.a, D.str o.name] σ (fun r τ => r = D.int c ∧ τ = σ2)) (e13 : o.kind = 13 → Ct Tryz.prog 96 [.ref m 0, D.int o.a, D.str o.name] σ (fun r τ => r = D.int c ∧ τ = σ2)) (e14 : (¬ o.kind = 1 ∧ ¬ o.kind = 2 ∧ ¬ o.kind = 3 ∧ ¬ o.kind = 4 ∧ ¬ o.kind = 5 ∧ ¬ o.kind = 6 ∧ ¬ o.kind = 7 ∧ ¬ o.kind = 8 ∧ ¬ o.kind = 9 ∧ ¬ o.kind = 10 ∧ ¬ o.kind = 11 ∧ ¬ o.kind = 12 ∧ ¬ o.kind = 13) → c = 14 ∧ σ2 = σ) : Ct Tryz.prog 75 [hD o, .ref m 0] σ (fun r σ' => r = D.int c ∧ σ' = σ2) := by
 refine zf (rs:=[.tmp 4]) Tryz.func75 Tryz.ntmps75 Tryz.results75 ?_;simp only [aN];refine zr ⟨[],[2,3],[],[],[]⟩ fun _ _ Z=>?_;simp;apply Z;apply aE;refine zr ⟨[],[2,3],[],[],[]⟩ fun _ _ Z=>?_;simp;apply Z;apply aM;refine zr ⟨[],[2,3],[],[],[]⟩ fun _ _ Z=>?_;simp;apply Z;refine zi ?_;refine ⟨fun c1=>?_,fun c1=>?_⟩
 ·try simp at c1
  refine zr ⟨[],[2,3],[],[],[]⟩ fun _ _ Z=>?_;refine aA 4 fun _ Y=>?_;simp;apply Y;simp only [List.drop];refine aD fun _ Y=>?_;simp;refine bY (Lc m o nx n c 112 σ2 _ (hnx (.inl c1)) (fun q => Xe m o n c σ2 _ (e1 c1 q)) (hne (.inl c1))) ?_;apply Y;simp;apply Z;apply aC;apply aR;apply aH;simp [aK]
 ·try simp at c1
  refine zr ⟨[],[2,3],[],[],[]⟩ fun _ _ Z=>?_;simp;apply Z;refine zi ?_;refine ⟨fun c2=>?_,fun c2=>?_⟩
  ·try simp at c2
   refine zr ⟨[],[2,3],[],[],[]⟩ fun _ _ Z=>?_;refine aA 4 fun _ Y=>?_;simp;apply Y;simp only [List.drop];refine aD fun _ Y=>?_;simp;refine bY (Lc m o nx n c 113 σ2 _ (hnx (.inr c2)) (fun q => Xn m o n c σ2 _ (e2 c2 q)) (hne (.inr c2))) ?_;apply Y;simp;apply Z;apply aC;apply aR;apply aH;simp [aK]
  ·try simp at c2
   refine zr ⟨[],[2,3],[],[],[]⟩ fun _ _ Z=>?_;simp;apply Z;refine zi ?_;refine ⟨fun c3=>?_,fun c3=>?_⟩
   ·try simp at c3
    refine zr ⟨[],[2,3],[],[],[]⟩ fun _ _ Z=>?_;refine aA 7 fun _ Y=>?_;simp;apply Y;simp only [List.drop];refine aD fun _ Y=>?_;simp;refine bY (e3 c3) ?_;apply Y;simp;apply Z;apply aC;apply aR;apply aH;simp [aK]
   ·try simp at c3
    refine zr ⟨[],[2,3],[],[],[]⟩ fun _ _ Z=>?_;simp;apply Z;refine zi ?_;refine ⟨fun c4=>?_,fun c4=>?_⟩
    ·try simp at c4
     refine zk [2,3,4] ?_;refine zr ⟨[],[2,3],[],[],[]⟩ fun _ _ Z=>?_;refine aA 5 fun _ Y=>?_;simp;apply Y;simp only [List.drop];refine aD fun _ Y=>?_;simp;refine bY (e4 c4) ?_;apply Y;simp;apply Z;apply aC;apply aR;apply aH;simp [aK]
    ·try simp at c4
     refine zk [2,3,4,6] ?_;refine zr ⟨[],[2,3],[],[],[]⟩ fun _ _ Z=>?_;simp;apply Z;refine zi ?_;refine ⟨fun c5=>?_,fun c5=>?_⟩
     ·try simp at c5
      refine zr ⟨[],[2,3],[],[],[]⟩ fun _ _ Z=>?_;refine aA 3 fun _ Y=>?_;simp;apply Y;simp only [List.drop];refine aD fun _ Y=>?_;simp;refine bY (e5 c5) ?_;apply Y;simp;apply Z;apply aC;apply aR;apply aH;simp [aK]
     ·try simp at c5
      refine zr ⟨[],[2,3],[],[],[]⟩ fun _ _ Z=>?_;simp;apply Z;refine zi ?_;refine ⟨fun c6=>?_,fun c6=>?_⟩
      ·try simp at c6
       refine zr ⟨[],[2,3],[],[],[]⟩ fun _ _ Z=>?_;refine aA 5 fun _ Y=>?_;simp;apply Y;simp only [List.drop];refine aD fun _ Y=>?_;simp;refine bY (e6 c6) ?_;apply Y;simp;apply Z;apply aC;apply aR;apply aH;simp [aK]
      ·try simp at c6
       refine zr ⟨[],[2,3],[],[],[]⟩ fun _ _ Z=>?_;simp;apply Z;refine zi ?_;refine ⟨fun c7=>?_,fun c7=>?_⟩
       ·try simp at c7
        refine zr ⟨[],[2,3],[],[],[]⟩ fun _ _ Z=>?_;refine aA 5 fun _ Y=>?_;simp;apply Y;simp only [List.drop];refine aD fun _ Y=>?_;simp;refine bY (e7 c7) ?_;apply Y;simp;apply Z;apply aC;apply aR;apply aH;simp [aK]
       ·try simp at c7
        refine zr ⟨[],[2,3],[],[],[]⟩ fun _ _ Z=>?_;simp;apply Z;refine zi ?_;refine ⟨fun c8=>?_,fun c8=>?_⟩
        ·try simp at c8
         refine zk [2,3,4] ?_;refine zr ⟨[],[2,3],[],[],[]⟩ fun _ _ Z=>?_;refine aA 7 fun _ Y=>?_;simp;apply Y;simp only [List.drop];refine aD fun _ Y=>?_;simp;refine bY (e8 c8) ?_;apply Y;simp;apply Z;apply aC;apply aR;apply aH;simp [aK]
        ·try simp at c8
         refine zk [2,3,4,6] ?_;refine zr ⟨[],[2,3],[],[],[]⟩ fun _ _ Z=>?_;simp;apply Z;refine zi ?_;refine ⟨fun c9=>?_,fun c9=>?_⟩
         ·try simp at c9
          refine zr ⟨[],[2,3],[],[],[]⟩ fun _ _ Z=>?_;refine aA 5 fun _ Y=>?_;simp;apply Y;simp only [List.drop];refine aD fun _ Y=>?_;simp;refine bY (e9 c9) ?_;apply Y;simp;apply Z;apply aC;apply aR;apply aH;simp [aK]
         ·try simp at c9
          refine zr ⟨[],[2,3],[],[],[]⟩ fun _ _ Z=>?_;simp;apply Z;refine zi ?_;refine ⟨fun c10=>?_,fun c10=>?_⟩
          ·try simp at c10
           refine zr ⟨[],[2,3],[],[],[]⟩ fun _ _ Z=>?_;refine aA 7 fun _ Y=>?_;simp;apply Y;simp only [List.drop];refine aD fun _ Y=>?_;simp;refine bY (e10 c10) ?_;apply Y;simp;apply Z;apply aC;apply aR;apply aH;simp [aK]
          ·try simp at c10
           refine zr ⟨[],[2,3],[],[],[]⟩ fun _ _ Z=>?_;simp;apply Z;refine zi ?_;refine ⟨fun c11=>?_,fun c11=>?_⟩
           ·try simp at c11
            refine zr ⟨[],[2,3],[],[],[]⟩ fun _ _ Z=>?_;refine aA 5 fun _ Y=>?_;simp;apply Y;simp only [List.drop];refine aD fun _ Y=>?_;simp;refine bY (e11 c11) ?_;apply Y;simp;apply Z;apply aC;apply aR;apply aH;simp [aK]
           ·try simp at c11
            refine zr ⟨[],[2,3],[],[],[]⟩ fun _ _ Z=>?_;simp;apply Z;refine zi ?_;refine ⟨fun c12=>?_,fun c12=>?_⟩
            ·try simp at c12
             refine zk [2,3,4] ?_;refine zr ⟨[],[2,3],[],[],[]⟩ fun _ _ Z=>?_;refine aA 5 fun _ Y=>?_;simp;apply Y;simp only [List.drop];refine aD fun _ Y=>?_;simp;refine bY (e12 c12) ?_;apply Y;simp;apply Z;apply aC;apply aR;apply aH;simp [aK]
            ·try simp at c12
             refine zk [2,3,4,6] ?_;refine zr ⟨[],[2,3],[],[],[]⟩ fun _ _ Z=>?_;simp;apply Z;refine zi ?_;refine ⟨fun c13=>?_,fun c13=>?_⟩
             ·try simp at c13
              refine zr ⟨[],[2,3],[],[],[]⟩ fun _ _ Z=>?_;refine aA 5 fun _ Y=>?_;simp;apply Y;simp only [List.drop];refine aD fun _ Y=>?_;simp;refine bY (e13 c13) ?_;apply Y;simp;apply Z;apply aC;apply aR;apply aH;simp [aK]
             ·try simp at c13
              apply aG;apply aQ;apply aB;refine zr ⟨[],[2,3],[],[],[]⟩ fun _ _ Z=>?_;simp;apply Z;apply aC;obtain ⟨r1, r2⟩ := e14 ⟨c1, c2, c3, c4, c5, c6, c7, c8, c9, c10, c11, c12, c13⟩;subst r1; subst r2;simp [aK]
theorem Oj (m J : Nat) (ops : List TOp) (cs : Nat → Int) (ss : Nat → List (List D)) (hl : ops.length ≤ 100000) (hJ : J ≤ ops.length) (h0 : ∀ i, i < J → cs i = 0) (h1 : J < ops.length → ¬ cs J = 0) (hc : ∀ i (h : i < ops.length), i ≤ J → Ct Tryz.prog 75 [hD ops[i], .ref m 0] (ss i) (fun r τ => r = D.int (cs i) ∧ τ = ss (i + 1))) : Ct Tryz.prog 35 [.ref m 0, .sl false (ops.map hD)] (ss 0) (fun r σ' => r = .tup [D.int J, D.int (if J < ops.length then cs J else 0)] ∧ σ' = ss (if J < ops.length then J + 1 else J)) := by
 refine zf (rs:=[.tmp 4,.tmp 5]) Tryz.func35 Tryz.ntmps35 Tryz.results35 ?_;simp only [aN];refine aY fun _ _ Z=>?_;simp (disch:=omega);and_intros<;>(try omega);apply Z;apply aE;refine aY fun _ _ Z=>?_;simp (disch:=omega);and_intros<;>(try omega);apply Z;apply aM;refine zk [0,1,4,5,9,10,11] ?_;refine jK (fun (k : Nat) => [(11, .d (.v (.int .i64 (k : Int)))), (6, .d (.any)), (8, .d (.any))]) (fun (k : Nat) => []) (fun (k : Nat) => ss k) [4, 5, 6, 7, 8, 11, 12, 13, 14, 15, 16, 17, 18, 19, 20, 21, 22, 23] (fun (k : Nat) => k ≤ J) (fun (k : Nat) => J + 1 - k) (0) (by simp <;> rfl) ?_ (by simp) (by simp) ?_ ?_
 ·simp
 ·omega
 rintro k hk;simp only [List.cons_append, List.nil_append];refine aY fun _ _ Z=>?_;simp (disch:=omega);and_intros<;>(try omega);apply Z;apply aE;refine zi ?_;refine ⟨fun c1=>?_,fun c1=>?_⟩
 ·try simp at c1
  apply aG;apply aB;apply aE;apply aM;refine aY fun _ _ Z=>?_;simp (disch:=omega);and_intros<;>(try omega);apply Z;refine zk [0,1,6,7,8,9,10,11] ?_;refine aY fun _ _ Z=>?_;refine aA 2 fun _ Y=>?_;simp (disch:=omega);and_intros<;>(try omega);apply Y;simp only [List.drop];refine aD fun _ Y=>?_;simp (disch:=omega);refine bY (hc k (by omega) hk) ?_;apply Y;simp (disch:=omega);and_intros<;>(try omega);apply Z;refine zk [0,1,6,8,9,10,11] ?_;refine aY fun _ _ Z=>?_;simp (disch:=omega);and_intros<;>(try omega);apply Z;refine zi ?_;refine ⟨fun c2=>?_,fun c2=>?_⟩
  ·try simp at c2
   refine aY fun _ _ Z=>?_;simp (disch:=omega);and_intros<;>(try omega);apply Z;apply aC;apply aR;apply aH;apply eM;apply aR;apply aH;obtain rfl : k = J := by
    by_cases e : k = J
    ·exact e
    ·exact absurd (h0 k (by omega)) c2
   simp [aK, c1]
  ·try simp at c2
   apply aG;apply aQ;apply aB;refine uP fun _ _ Z=>?_;simp (disch:=omega);and_intros<;>(try omega);apply Z;refine bB (k + 1) ?_ ?_ (aV rfl ?_ (by simp) (by simp))
   ·have := h1; by_cases e : k = J
    ·subst e; exact absurd c2 (h1 (by omega))
    ·omega
   ·try dsimp only
    omega
   ·simp (disch:=omega)
 ·try simp at c1
  apply bO;apply bM;apply bN;apply bG;apply aB;refine aY fun _ _ Z=>?_;simp (disch:=omega);and_intros<;>(try omega);apply Z;apply aC;obtain rfl : k = J := by omega
  have e : k = ops.length := by omega
  simp [aK, e]
theorem It (J : Nat) (ops : List TOp) (cs : Nat → Int) (xs : Nat → RD) (σ : List (List D)) (hl : ops.length ≤ 100000) (hJ : J ≤ ops.length) (h0 : ∀ i, i < J → cs i = 0) (h1 : J < ops.length → ¬ cs J = 0) (hc : ∀ i (h : i < ops.length), i ≤ J → ∀ τ, Ct Tryz.prog 30 [fQ (xs i), hD ops[i]] τ (fun r τ' => r = .tup [fQ (xs (i + 1)), D.int (cs i)] ∧ τ' = τ)) : Ct Tryz.prog 36 [fQ (xs 0), .sl false (ops.map hD)] σ (fun r σ' => r = .tup [fQ (xs J), D.int J, D.int (if J < ops.length then cs J else 0)] ∧ σ' = σ) := by
 refine zf (rs:=[.cell 4 28,.tmp 5,.tmp 6]) Tryz.func36 Tryz.ntmps36 Tryz.results36 ?_;simp only [aN];refine aY fun _ _ Z=>?_;simp (disch:=omega);and_intros<;>(try omega);apply Z;apply aE;refine aY fun _ _ Z=>?_;simp (disch:=omega);and_intros<;>(try omega);apply Z;apply aM;refine zk [1,2,4,5,6,11,12,13] ?_;refine sT (fun (k : Nat) => [(13, .d (.v (.int .i64 (k : Int)))), (7, .d (.any)), (10, .d (.any))]) (fun (k : Nat) => [[.v (.int .i64 ((xs k).most)), .v (.int .i64 ((xs k).next)), .sl false (((xs k).l).map oF)], [D.int 0, D.int 0, .sl true []]]) [5, 6, 7, 8, 9, 10, 13, 14, 15, 16, 17, 18, 19, 20, 21, 22, 23, 24, 25, 26, 27, 28, 29, 30] (fun (k : Nat) => k ≤ J) (fun (k : Nat) => J + 1 - k) (0) (by simp <;> rfl) ?_ (by simp) ?_ ?_
 ·simp
 ·omega
 rintro k hk;simp only [List.cons_append, List.nil_append];refine aY fun _ _ Z=>?_;simp (disch:=omega);and_intros<;>(try omega);apply Z;apply aE;refine zi ?_;refine ⟨fun c1=>?_,fun c1=>?_⟩
 ·try simp at c1
  apply aG;apply aB;apply aE;apply aM;refine aY fun _ _ Z=>?_;simp (disch:=omega);and_intros<;>(try omega);apply Z;refine zk [1,2,4,7,8,10,11,12,13] ?_;refine aY fun _ _ Z=>?_;refine aA 2 fun _ Y=>?_;simp (disch:=omega);and_intros<;>(try omega);apply Y;simp only [List.drop];refine aD fun _ Y=>?_;simp (disch:=omega);refine bY (hc k (by omega) hk _) ?_;apply Y;simp (disch:=omega);and_intros<;>(try omega);apply Z;apply aE;refine zk [1,2,4,7,9,10,11,12,13] ?_;refine aY fun _ _ Z=>?_;simp (disch:=omega);and_intros<;>(try omega);apply Z;refine zi ?_;refine ⟨fun c2=>?_,fun c2=>?_⟩
  ·try simp at c2
   refine aY fun _ _ Z=>?_;simp (disch:=omega);and_intros<;>(try omega);apply Z;apply aC;apply aH;apply aR;apply aH;apply eM;apply aR;apply aH;obtain rfl : k = J := by
    by_cases e : k = J
    ·exact e
    ·exact absurd (h0 k (by omega)) c2
   simp [aK, c1]
  ·try simp at c2
   apply aG;apply aB;refine uP fun _ _ Z=>?_;simp (disch:=omega);and_intros<;>(try omega);apply Z;apply aQ;apply aB;refine zk [1,2,4,7,10,11,12,13] ?_;refine uP fun _ _ Z=>?_;simp (disch:=omega);and_intros<;>(try omega);apply Z;refine bB (k + 1) ?_ ?_ (aV rfl ?_ (by simp) (by simp))
   ·have := h1; by_cases e : k = J
    ·subst e; exact absurd c2 (h1 (by omega))
    ·omega
   ·try dsimp only
    omega
   ·simp (disch:=omega)
 ·try simp at c1
  apply bO;apply bM;apply bN;apply bG;apply aB;refine aY fun _ _ Z=>?_;simp (disch:=omega);and_intros<;>(try omega);apply Z;apply aC;obtain rfl : k = J := by omega
  have e : k = ops.length := by omega
  simp [aK, e]
end Go.Proofs.YtpfmpeaekgdgnaaGreat

