import Derived.Test.YtpfmpeaekgdgnaaGreatArPerm
namespace Go.Proofs.YtpfmpeaekgdgnaaGreat
open Go Go.Vm
set_option maxRecDepth 20000
set_option linter.all false
set_option maxHeartbeats 8000000
structure Act where
 kind : Int
 a : Int
 b : Int
 c : Int
 name : ByteArray
 value : ByteArray
 deriving DecidableEq
@[simp] abbrev nE (s : Act) : D := .agg [.v (.int .i64 s.kind), .v (.int .i64 s.a), .v (.int .i64 s.b), .v (.int .i64 s.c), .v (.string s.name), .v (.string s.value)]
def cT (a : Act) : Act := { a with name := Ig 20 a.name, value := Ig 40 a.value }
def d0 (most : Int) (o : Nat) : DS := ⟨max 1 (min most 65536), 1, 1, [⟨kQ, o, 0⟩]⟩
theorem oX (x : Int) : yE x 1 65536 = max 1 (min x 65536) := by
 unfold yE; (repeat' split) <;> omega
theorem aEi (most : Int) (σ : List (List D)) : IV 0 (σ.length + 1) σ.length (d0 most (σ.length + 2)) (fun _ => 0) (σ ++ [[], jI σ.length (d0 most (σ.length + 2)), dC kQ]) := by
 have hl : (d0 most (σ.length + 2)).l = [kQ] := rfl;have hm : ∀ n ∈ (d0 most (σ.length + 2)).l, n = kQ := fun n hn => by rw [hl] at hn; simpa using hn
 have hwt : WT (d0 most (σ.length + 2)).l (fun _ => 0) := by
  refine ⟨by rw [hl]; simp, fun n hn k hk => ?_, fun n hn => ?_, fun n hn => ?_, fun n hn => ?_, fun n hn k hk => ?_⟩ <;> have := hm n hn <;> subst this
  ·cases hk
  ·exact .inl rfl
  ·exact Int.le_refl _
  ·exact List.nodup_nil
  ·cases hk
 refine ⟨⟨by simp, fun e he => ?_, fun e he => ?_, by simp [d0], by simp⟩, ⟨hwt.nd, by simp [d0], ?_, by simp [d0], fun n hn => ?_, fun n hn => ?_, fun n hn => ?_, ⟨kQ, by rw [hl]; simp, rfl, rfl, rfl⟩, fun n hn => ?_, ?_⟩, hwt⟩
 ·simp only [d0, List.mem_singleton] at he; subst he; simp
 ·simp only [d0, List.mem_singleton] at he; subst he; show σ.length + 2 ≠ σ.length + 1; omega
 ·show 1 ≤ max 1 (min most 65536) ∧ max 1 (min most 65536) ≤ 65536; omega
 ·have := hm n hn; subst this; show (0 : Int) < 1; omega
 ·have := hm n hn; subst this; simp [kQ]
 ·have := hm n hn; subst this; exact ⟨List.Pairwise.nil, List.Pairwise.nil⟩
 ·have := hm n hn; subst this; exact .inr rfl
 ·show (([_] : List EN).length : Int) - 1 ≤ max 1 (min most 65536); simp; omega
theorem Kk (most : Int) (σ : List (List D))  : Ct Tryz.prog 12 [D.int most] σ (fun r σ' => r = .ref (σ.length + 1) 0 ∧ σ' = σ ++ [[], jI σ.length (d0 most (σ.length + 2)), dC kQ]) := by
 refine zf (rs:=[.tmp 2]) Tryz.func12 Tryz.ntmps12 Tryz.results12 ?_;simp only [aQ];refine zr ⟨[],[],[8,14],[],[]⟩ fun _ _ Z=>?_;simp[aS,aN,aH,aE,oX];and_intros<;>(try omega);apply Z;refine zr ⟨[],[],[8,14],[],[]⟩ fun _ _ Z=>?_;refine aA 1 fun _ Y=>?_;simp[aS,aN,aH,aE,oX];and_intros<;>(try omega);apply Y;simp only [List.drop];refine aF fun _ Y=>?_;simp[aS,aN,aH,aE,oX];refine cO (Yh ..) ?_;apply Y;simp[aS,aN,aH,aE,oX];and_intros<;>(try omega);apply Z;refine pN 6 (σ.length + 1) 2 (N := σ.length) (kd := .int .i64) (clock := 0) (kvs := []) (by simp) (by simp [aS, aN, aH, aE] <;> rfl) (by simp <;> rfl) ?_;simp only [aN, List.set_cons_zero, List.set_cons_succ];refine zr ⟨[],[],[8,14],[],[]⟩ fun _ _ Z=>?_;simp[aS,aN,aH,aE,oX];refine ⟨σ.length + 1, 2, 0, [], 1, _, ⟨⟨_, by simp [aS, aN, aH, aE] <;> rfl, rfl⟩, gA _, rfl, .inr ⟨by simp, rfl, rfl⟩⟩, ?_⟩;rw [uY (by simp [aS, aN, aH, aE] <;> rfl)];and_intros<;>(try omega);apply Z;refine qQ (σ.length + 2) 8 1 (by simp [aS, aN, aH, aE]; rfl) rfl ?_;simp only [aN, List.set_cons_zero, List.set_cons_succ];refine tL (σ.length + 2) (dC kQ) (by simp [aS, aN, aH, aE]; rfl) (by simp [leC, kQ, D.s1]) ?_;simp only [aN, List.set_cons_zero, List.set_cons_succ];refine zk [2,3] ?_;refine zr ⟨[],[],[8,14],[],[]⟩ fun _ _ Z=>?_;simp[aS,aN,aH,aE,oX];and_intros<;>(try omega);apply Z;apply aC;simp [aM, d0, sA, kQ, jI]
theorem Yo (a : Act) (σ : List (List D)) (h1 : a.name.size ≤ 9223372036854775807) (h2 : a.value.size ≤ 9223372036854775807) : Ct Tryz.prog 27 [nE a] σ (fun r σ' => r = nE (cT a) ∧ σ' = σ) := by
 refine zf (rs:=[.cell 2 33]) Tryz.func27 Tryz.ntmps27 Tryz.results27 ?_;simp only [aQ];refine aZ fun _ _ Z=>?_;simp;and_intros<;>(try omega);apply Z;refine zd ⟨[],[],[],[],[]⟩ [.op {},.op {rL:=true},.pure,.op {},.op {rL:=true},.pure,.op {},.op {rL:=true,wL:=true},.op {},.op {rL:=true,wL:=true}] fun all hall _ Z=>?_;refine aO 2 (by simp) fun _ Y=>?_;simp;and_intros<;>(try omega);apply Y;simp only [List.drop];refine dD fun _ Y=>?_;simp;refine Eu (fun _ => (Vb a.name 20 _ (by omega))) ?_;apply Y;refine aO 2 (by simp) fun _ Y=>?_;simp;and_intros<;>(try omega);apply Y;simp only [List.drop];refine dD fun _ Y=>?_;simp;refine Eu (fun _ => (Vb a.value 40 _ (by omega))) ?_;apply Y;simp;and_intros<;>(try omega);apply Z;refine aZ fun _ _ Z=>?_;simp;and_intros<;>(try omega);apply Z;apply aC;simp [aM, cT]
theorem gV (m : Nat) (a : Act) (c : Int) (σ2 : List (List D)) (σ : List (List D)) (hb : 10 ≤ a.kind ∧ a.kind ≤ 17) (e0 : a.kind = 10 → Ct Tryz.prog 89 [.ref m 0, D.int a.a, D.str a.name] σ (fun r τ => r = D.int c ∧ τ = σ2)) (e1 : a.kind = 11 → Ct Tryz.prog 90 [.ref m 0, D.int a.a, D.str a.value] σ (fun r τ => r = D.int c ∧ τ = σ2)) (e2 : a.kind = 12 → Ct Tryz.prog 91 [.ref m 0, D.int a.a, D.str a.name, D.str a.value] σ (fun r τ => r = D.int c ∧ τ = σ2)) (e3 : a.kind = 13 → Ct Tryz.prog 92 [.ref m 0, D.int a.a, D.str a.name] σ (fun r τ => r = D.int c ∧ τ = σ2)) (e4 : a.kind = 14 → Ct Tryz.prog 93 [.ref m 0, D.int a.a, D.str a.name, D.int a.c] σ (fun r τ => r = D.int c ∧ τ = σ2)) (e5 : a.kind = 15 → Ct Tryz.prog 94 [.ref m 0, D.int a.a, D.str a.name] σ (fun r τ => r = D.int c ∧ τ = σ2)) (e6 : a.kind = 16 → Ct Tryz.prog 95 [.ref m 0, D.int a.a, D.str a.name] σ (fun r τ => r = D.int c ∧ τ = σ2)) (e7 : a.kind = 17 → Ct Tryz.prog 96 [.ref m 0, D.int a.a, D.str a.name] σ (fun r τ => r = D.int c ∧ τ = σ2)) : Ct Tryz.prog 50 [.ref m 0, nE a] σ (fun r σ' => r = D.int c ∧ σ' = σ2) := by
 refine zf (rs:=[.tmp 4]) Tryz.func50 Tryz.ntmps50 Tryz.results50 ?_;simp only [aQ];refine aZ fun _ _ Z=>?_;simp;and_intros<;>(try omega);apply Z;apply aD;refine aZ fun _ _ Z=>?_;simp;and_intros<;>(try omega);apply Z;apply aK;refine aZ fun _ _ Z=>?_;simp;and_intros<;>(try omega);apply Z;refine zi ?_;refine ⟨fun c1=>?_,fun c1=>?_⟩
 ·try simp at c1
  refine aZ fun _ _ Z=>?_;refine aA 5 fun _ Y=>?_;simp;and_intros<;>(try omega);apply Y;simp only [List.drop];refine aF fun _ Y=>?_;simp;refine cO (e0 (by omega)) ?_;apply Y;simp;and_intros<;>(try omega);apply Z;apply aC;apply aU;apply aJ;simp [aM]
 ·try simp at c1
  refine aZ fun _ _ Z=>?_;simp;and_intros<;>(try omega);apply Z;refine zi ?_;refine ⟨fun c2=>?_,fun c2=>?_⟩
  ·try simp at c2
   refine aZ fun _ _ Z=>?_;refine aA 5 fun _ Y=>?_;simp;and_intros<;>(try omega);apply Y;simp only [List.drop];refine aF fun _ Y=>?_;simp;refine cO (e1 (by omega)) ?_;apply Y;simp;and_intros<;>(try omega);apply Z;apply aC;apply aU;apply aJ;simp [aM]
  ·try simp at c2
   refine aZ fun _ _ Z=>?_;simp;and_intros<;>(try omega);apply Z;refine zi ?_;refine ⟨fun c3=>?_,fun c3=>?_⟩
   ·try simp at c3
    refine aZ fun _ _ Z=>?_;refine aA 7 fun _ Y=>?_;simp;and_intros<;>(try omega);apply Y;simp only [List.drop];refine aF fun _ Y=>?_;simp;refine cO (e2 (by omega)) ?_;apply Y;simp;and_intros<;>(try omega);apply Z;apply aC;apply aU;apply aJ;simp [aM]
   ·try simp at c3
    refine aZ fun _ _ Z=>?_;simp;and_intros<;>(try omega);apply Z;refine zi ?_;refine ⟨fun c4=>?_,fun c4=>?_⟩
    ·try simp at c4
     refine zk [0,3,4] ?_;refine aZ fun _ _ Z=>?_;refine aA 5 fun _ Y=>?_;simp;and_intros<;>(try omega);apply Y;simp only [List.drop];refine aF fun _ Y=>?_;simp;refine cO (e3 (by omega)) ?_;apply Y;simp;and_intros<;>(try omega);apply Z;apply aC;apply aU;apply aJ;simp [aM]
    ·try simp at c4
     refine zk [0,3,4,7] ?_;refine aZ fun _ _ Z=>?_;simp;and_intros<;>(try omega);apply Z;refine zi ?_;refine ⟨fun c5=>?_,fun c5=>?_⟩
     ·try simp at c5
      refine aZ fun _ _ Z=>?_;refine aA 7 fun _ Y=>?_;simp;and_intros<;>(try omega);apply Y;simp only [List.drop];refine aF fun _ Y=>?_;simp;refine cO (e4 (by omega)) ?_;apply Y;simp;and_intros<;>(try omega);apply Z;apply aC;apply aU;apply aJ;simp [aM]
     ·try simp at c5
      refine aZ fun _ _ Z=>?_;simp;and_intros<;>(try omega);apply Z;refine zi ?_;refine ⟨fun c6=>?_,fun c6=>?_⟩
      ·try simp at c6
       refine aZ fun _ _ Z=>?_;refine aA 5 fun _ Y=>?_;simp;and_intros<;>(try omega);apply Y;simp only [List.drop];refine aF fun _ Y=>?_;simp;refine cO (e5 (by omega)) ?_;apply Y;simp;and_intros<;>(try omega);apply Z;apply aC;apply aU;apply aJ;simp [aM]
      ·try simp at c6
       refine aZ fun _ _ Z=>?_;simp;and_intros<;>(try omega);apply Z;refine zi ?_;refine ⟨fun c7=>?_,fun c7=>?_⟩
       ·try simp at c7
        refine aZ fun _ _ Z=>?_;refine aA 5 fun _ Y=>?_;simp;and_intros<;>(try omega);apply Y;simp only [List.drop];refine aF fun _ Y=>?_;simp;refine cO (e6 (by omega)) ?_;apply Y;simp;and_intros<;>(try omega);apply Z;apply aC;apply aU;apply aJ;simp [aM]
       ·try simp at c7
        apply aG;apply aP;apply aB;refine aZ fun _ _ Z=>?_;refine aA 5 fun _ Y=>?_;simp;and_intros<;>(try omega);apply Y;simp only [List.drop];refine aF fun _ Y=>?_;simp;refine cO (e7 (by omega)) ?_;apply Y;simp;and_intros<;>(try omega);apply Z;apply aC;simp [aM]
theorem aC3 {k m M : Nat} {d : DS} {rk : Int → Nat} {σ : List (List D)} (h : IV k m M d rk σ) (hk : k ≤ 800) (i : Int) : (aL d.x.l i).kids.length ≤ 900 := by
 cases hl : dU d.x.l i with
 | false => rw [eT hl]; simp [Cq]
 | true =>
  obtain ⟨n, n1, _, n3⟩ := eI hl;rw [n3]; have := (h.ip.sz n n1).1; omega
theorem aB5 {k m M : Nat} {d : DS} {rk : Int → Nat} {σ : List (List D)} (h : IV k m M d rk σ) (i : Int) : (aL d.x.l i).kids.Nodup := by
 cases hl : dU d.x.l i with
 | false => rw [eT hl]; exact List.nodup_nil
 | true =>
  obtain ⟨n, n1, _, n3⟩ := eI hl;rw [n3]; exact h.wt.kn n n1
theorem aDi {k m M : Nat} {d : DS} {rk : Int → Nat} {σ : List (List D)} (h : IV k m M d rk σ) (i : Int) : cG nA (aL d.x.l i).attrs := by
 cases hl : dU d.x.l i with
 | false => rw [eT hl]; exact List.Pairwise.nil
 | true =>
  obtain ⟨n, n1, _, n3⟩ := eI hl;rw [n3]; exact (h.ip.st n n1).1
theorem aDw {k m M : Nat} {d : DS} {rk : Int → Nat} {σ : List (List D)} (h : IV k m M d rk σ) (i : Int) : cG nP (aL d.x.l i).styles := by
 cases hl : dU d.x.l i with
 | false => rw [eT hl]; exact List.Pairwise.nil
 | true =>
  obtain ⟨n, n1, _, n3⟩ := eI hl;rw [n3]; exact (h.ip.st n n1).2
theorem Eb (a : Act) : (cT a).name.size ≤ 20 ∧ (cT a).value.size ≤ 40 := ⟨Do 20 a.name, Do 40 a.value⟩
theorem aBt (m : Nat) (x y : RD) (n c : Int) (a : Act) (bel bel2 : Int → List Int) (rk : Int → Nat) (σ2 : List (List D)) (σ : List (List D)) (hx : NB x.l) (hnx : 0 ≤ x.next ∧ x.next ≤ 1000000) (htr : Tr x.l bel rk) (htr2 : Tr (remP x.l (cT a).a) bel2 rk) (hkl : ∀ i, (aL x.l i).kids.length ≤ 900) (hkn : ∀ i, (aL x.l i).kids.Nodup) (hsa : ∀ i, cG nA (aL x.l i).attrs) (hss : ∀ i, cG nP (aL x.l i).styles) (e0 : (cT a).kind = 0 → Ct Tryz.prog 40 [.ref m 0, D.str (cT a).name] σ (fun r τ => r = .tup [D.int n, D.int c] ∧ τ = σ2) ∧ addX x 2 (cT a).name = (y, n, c)) (e1 : (cT a).kind = 1 → Ct Tryz.prog 44 [.ref m 0, D.str (cT a).value] σ (fun r τ => r = .tup [D.int n, D.int c] ∧ τ = σ2) ∧ addX x 1 (cT a).value = (y, n, c)) (e2 : (cT a).kind = 2 → Ct Tryz.prog 41 [.ref m 0, D.int (cT a).a, D.int (cT a).b, D.int (cT a).c] σ (fun r τ => r = D.int c ∧ τ = σ2) ∧ insX x bel (cT a).a (cT a).b (cT a).c = (y, c)) (e3 : (cT a).kind = 3 → Ct Tryz.prog 46 [.ref m 0, D.int (cT a).a, D.int (cT a).b] σ (fun r τ => r = D.int c ∧ τ = σ2) ∧ movX x (cT a).a (cT a).b = (y, c)) (e4 : (cT a).kind = 4 → Ct Tryz.prog 48 [.ref m 0, D.int (cT a).a] σ (fun r τ => r = D.int c ∧ τ = σ2) ∧ remX x bel2 (cT a).a = (y, c)) (e5 : 10 ≤ (cT a).kind ∧ (cT a).kind ≤ 17 → Ct Tryz.prog 50 [.ref m 0, nE (cT a)] σ (fun r τ => r = D.int c ∧ τ = σ2) ∧ setX x ((cT a).kind - 10) (cT a).a (cT a).name (cT a).value (cT a).c = (y, c)) (e6 : ¬ (0 ≤ (cT a).kind ∧ (cT a).kind ≤ 4) ∧ ¬ (10 ≤ (cT a).kind ∧ (cT a).kind ≤ 17) → y = x ∧ σ2 = σ) (h1 : a.name.size ≤ 9223372036854775807) (h2 : a.value.size ≤ 9223372036854775807) : Ct Tryz.prog 14 [.ref m 0, hC x, nE a] σ (fun r σ' => r = .tup [hC y, .bool true] ∧ σ' = σ2) := by
 refine zf (rs:=[.cell 6 28,.tmp 7]) Tryz.func14 Tryz.ntmps14 Tryz.results14 ?_;simp only [aQ];obtain ⟨t1, t2⟩ := Eb a;refine aZ fun _ _ Z=>?_;simp;and_intros<;>(try omega);apply Z;refine aZ fun _ _ Z=>?_;refine aA 1 fun _ Y=>?_;simp;and_intros<;>(try omega);apply Y;simp only [List.drop];refine aF fun _ Y=>?_;simp;refine cO (Yo a _ h1 h2) ?_;apply Y;simp;and_intros<;>(try omega);apply Z;refine aZ fun _ _ Z=>?_;simp;and_intros<;>(try omega);apply Z;refine aZ fun _ _ Z=>?_;simp;and_intros<;>(try omega);apply Z;apply aD;apply aK;refine zk [0,4,5,6,7,8,9,10,11,12] ?_;refine aZ fun _ _ Z=>?_;simp;and_intros<;>(try omega);apply Z;refine zi ?_;refine ⟨fun c1=>?_,fun c1=>?_⟩
 ·try simp at c1
  refine zk [0,4,5,6,7,8,9,10,11,12] ?_;refine aZ fun _ _ Z=>?_;refine aA 3 fun _ Y=>?_;simp;and_intros<;>(try omega);apply Y;simp only [List.drop];refine aF fun _ Y=>?_;simp;refine cO (e0 (by omega)).1 ?_;apply Y;simp;and_intros<;>(try omega);apply Z;refine zk [4,5,6,7,8,9,10,11,12,13,14] ?_;refine aZ fun _ _ Z=>?_;simp;and_intros<;>(try omega);apply Z;refine zk [4,5,6,7,8,9,10,11,12] ?_;refine uM fun _ _ Z=>?_;refine aA 3 fun _ Y=>?_;simp;and_intros<;>(try omega);apply Y;simp only [List.drop];refine aF fun _ Y=>?_;simp;refine cO (Jj x 2 (cT a).name _ hx hnx (by omega)) ?_;rw [(e0 (by omega)).2];apply Y;simp;and_intros<;>(try omega);apply Z;apply aP;apply aB;refine zk [6,7,8,9,10,11,12] ?_;refine lA ⟨[],[],[],[],[]⟩ fun all hall _ Z=>?_;have ga4 : aR all 4 = some 151 := hall 4;refine aA 5 fun _ Y=>?_;simp[ga4];and_intros<;>(try omega);apply Y;simp only [List.drop];refine aX 151 (by simp <;> rfl) ?_;refine ⟨fun g2 => ?_, fun g2 => ?_⟩
  ·try simp at g2
   simp[ga4];and_intros<;>(try omega);apply Z;apply aC;simp [aM]
  ·simp at g2
 ·try simp at c1
  refine zk [0,4,5,6,7,8,9,10,11,12] ?_;refine aZ fun _ _ Z=>?_;simp;and_intros<;>(try omega);apply Z;refine zi ?_;refine ⟨fun c3=>?_,fun c3=>?_⟩
  ·try simp at c3
   refine zk [0,4,5,6,7,8,9,10,11,12] ?_;refine aZ fun _ _ Z=>?_;refine aA 3 fun _ Y=>?_;simp;and_intros<;>(try omega);apply Y;simp only [List.drop];refine aF fun _ Y=>?_;simp;refine cO (e1 (by omega)).1 ?_;apply Y;simp;and_intros<;>(try omega);apply Z;refine zk [4,5,6,7,8,9,10,11,12,15,16] ?_;refine aZ fun _ _ Z=>?_;simp;and_intros<;>(try omega);apply Z;refine zk [4,5,6,7,8,9,10,11,12] ?_;refine uM fun _ _ Z=>?_;refine aA 3 fun _ Y=>?_;simp;and_intros<;>(try omega);apply Y;simp only [List.drop];refine aF fun _ Y=>?_;simp;refine cO (Jj x 1 (cT a).value _ hx hnx (by omega)) ?_;rw [(e1 (by omega)).2];apply Y;simp;and_intros<;>(try omega);apply Z;apply aP;apply aB;refine zk [6,7,8,9,10,11,12] ?_;refine lA ⟨[],[],[],[],[]⟩ fun all hall _ Z=>?_;have ga4 : aR all 4 = some 151 := hall 4;refine aA 5 fun _ Y=>?_;simp[ga4];and_intros<;>(try omega);apply Y;simp only [List.drop];refine aX 151 (by simp <;> rfl) ?_;refine ⟨fun g4 => ?_, fun g4 => ?_⟩
   ·try simp at g4
    simp[ga4];and_intros<;>(try omega);apply Z;apply aC;simp [aM]
   ·simp at g4
  ·try simp at c3
   refine zk [0,4,5,6,7,8,9,10,11,12] ?_;refine aZ fun _ _ Z=>?_;simp;and_intros<;>(try omega);apply Z;refine zi ?_;refine ⟨fun c5=>?_,fun c5=>?_⟩
   ·try simp at c5
    refine zk [0,4,5,6,7,8,9,10,11,12] ?_;refine aZ fun _ _ Z=>?_;refine aA 7 fun _ Y=>?_;simp;and_intros<;>(try omega);apply Y;simp only [List.drop];refine aF fun _ Y=>?_;simp;refine cO (e2 (by omega)).1 ?_;apply Y;simp;and_intros<;>(try omega);apply Z;refine zk [4,5,6,7,8,9,10,11,12] ?_;refine uM fun _ _ Z=>?_;refine aA 7 fun _ Y=>?_;simp;and_intros<;>(try omega);apply Y;simp only [List.drop];refine aF fun _ Y=>?_;simp;refine cO (aAc x (cT a).a (cT a).b (cT a).c bel rk _ hx htr (hkl _)) ?_;rw [(e2 (by omega)).2];apply Y;simp;and_intros<;>(try omega);apply Z;apply aP;apply aB;refine zk [6,7,8,9,10,11,12] ?_;refine lA ⟨[],[],[],[],[]⟩ fun all hall _ Z=>?_;have ga4 : aR all 4 = some 151 := hall 4;refine aA 5 fun _ Y=>?_;simp[ga4];and_intros<;>(try omega);apply Y;simp only [List.drop];refine aX 151 (by simp <;> rfl) ?_;refine ⟨fun g6 => ?_, fun g6 => ?_⟩
    ·try simp at g6
     simp[ga4];and_intros<;>(try omega);apply Z;apply aC;simp [aM]
    ·simp at g6
   ·try simp at c5
    refine zk [0,4,5,6,7,8,9,10,11,12] ?_;refine aZ fun _ _ Z=>?_;simp;and_intros<;>(try omega);apply Z;refine zi ?_;refine ⟨fun c7=>?_,fun c7=>?_⟩
    ·try simp at c7
     refine zk [0,4,5,6,7,8,9,10,11,12] ?_;refine aZ fun _ _ Z=>?_;refine aA 5 fun _ Y=>?_;simp;and_intros<;>(try omega);apply Y;simp only [List.drop];refine aF fun _ Y=>?_;simp;refine cO (e3 (by omega)).1 ?_;apply Y;simp;and_intros<;>(try omega);apply Z;refine zk [4,5,6,7,8,9,10,11,12] ?_;refine uM fun _ _ Z=>?_;refine aA 5 fun _ Y=>?_;simp;and_intros<;>(try omega);apply Y;simp only [List.drop];refine aF fun _ Y=>?_;simp;refine cO (Xq x (cT a).a (cT a).b _ hx (hkn _)) ?_;rw [(e3 (by omega)).2];apply Y;simp;and_intros<;>(try omega);apply Z;apply aP;apply aB;refine zk [6,7,8,9,10,11,12] ?_;refine lA ⟨[],[],[],[],[]⟩ fun all hall _ Z=>?_;have ga4 : aR all 4 = some 151 := hall 4;refine aA 5 fun _ Y=>?_;simp[ga4];and_intros<;>(try omega);apply Y;simp only [List.drop];refine aX 151 (by simp <;> rfl) ?_;refine ⟨fun g8 => ?_, fun g8 => ?_⟩
     ·try simp at g8
      simp[ga4];and_intros<;>(try omega);apply Z;apply aC;simp [aM]
     ·simp at g8
    ·try simp at c7
     refine zk [0,4,5,6,7,8,9,10,11,12] ?_;refine aZ fun _ _ Z=>?_;simp;and_intros<;>(try omega);apply Z;refine zi ?_;refine ⟨fun c9=>?_,fun c9=>?_⟩
     ·try simp at c9
      refine zk [0,4,5,6,7,8,9,10,11,12] ?_;refine aZ fun _ _ Z=>?_;refine aA 3 fun _ Y=>?_;simp;and_intros<;>(try omega);apply Y;simp only [List.drop];refine aF fun _ Y=>?_;simp;refine cO (e4 (by omega)).1 ?_;apply Y;simp;and_intros<;>(try omega);apply Z;refine zk [4,5,6,7,8,9,10,11,12] ?_;refine uM fun _ _ Z=>?_;refine aA 3 fun _ Y=>?_;simp;and_intros<;>(try omega);apply Y;simp only [List.drop];refine aF fun _ Y=>?_;simp;refine cO (Wz x (cT a).a bel2 rk _ hx htr2) ?_;rw [(e4 (by omega)).2];apply Y;simp;and_intros<;>(try omega);apply Z;apply aP;apply aB;refine zk [6,7,8,9,10,11,12] ?_;refine lA ⟨[],[],[],[],[]⟩ fun all hall _ Z=>?_;have ga4 : aR all 4 = some 151 := hall 4;refine aA 5 fun _ Y=>?_;simp[ga4];and_intros<;>(try omega);apply Y;simp only [List.drop];refine aX 151 (by simp <;> rfl) ?_;refine ⟨fun g10 => ?_, fun g10 => ?_⟩
      ·try simp at g10
       simp[ga4];and_intros<;>(try omega);apply Z;apply aC;simp [aM]
      ·simp at g10
     ·try simp at c9
      refine zk [0,4,5,6,7,8,9,10,11,12] ?_;refine lA ⟨[],[],[],[],[]⟩ fun all hall _ Z=>?_;have ga3 : aR all 3 = some 123 := hall 3;refine aA 4 fun _ Y=>?_;simp[ga3];and_intros<;>(try omega);apply Y;simp only [List.drop];refine aX 123 (by simp <;> rfl) ?_;refine ⟨fun g11 => ?_, fun g11 => ?_⟩
      ·try simp at g11
       simp[ga3];and_intros<;>(try omega);apply Z;refine zi ?_;refine ⟨fun c12=>?_,fun c12=>?_⟩
       ·try simp at c12
        refine zk [0,4,5,6,7,8,9,10,11,12] ?_;refine aZ fun _ _ Z=>?_;refine aA 2 fun _ Y=>?_;simp;and_intros<;>(try omega);apply Y;simp only [List.drop];refine aF fun _ Y=>?_;simp;refine cO (e5 (by omega)).1 ?_;apply Y;simp;and_intros<;>(try omega);apply Z;refine zk [4,5,6,7,8,9,10,11,12] ?_;refine uM fun _ _ Z=>?_;refine aA 8 fun _ Y=>?_;simp;and_intros<;>(try omega);apply Y;simp only [List.drop];refine aA 4 fun _ Y=>?_;simp;and_intros<;>(try omega);apply Y;simp only [List.drop];refine aF fun _ Y=>?_;simp;refine cO (Wx x ((cT a).kind - 10) (cT a).a (cT a).name (cT a).value (cT a).c _ hx (by omega) (hsa _) (hss _)) ?_;rw [(e5 (by omega)).2];apply Y;simp;and_intros<;>(try omega);apply Z;apply aP;apply aB;refine zk [6,7,8,9,10,11,12] ?_;refine lA ⟨[],[],[],[],[]⟩ fun all hall _ Z=>?_;have ga4 : aR all 4 = some 151 := hall 4;refine aA 5 fun _ Y=>?_;simp[ga4];and_intros<;>(try omega);apply Y;simp only [List.drop];refine aX 151 (by simp <;> rfl) ?_;refine ⟨fun g13 => ?_, fun g13 => ?_⟩
        ·try simp at g13
         simp[ga4];and_intros<;>(try omega);apply Z;apply aC;simp [aM]
        ·simp at g13
       ·try simp at c12
        apply aG;apply aP;apply aB;refine zk [6,7,8,9,10,11,12] ?_;refine lA ⟨[],[],[],[],[]⟩ fun all hall _ Z=>?_;have ga4 : aR all 4 = some 151 := hall 4;refine aA 5 fun _ Y=>?_;simp[ga4];and_intros<;>(try omega);apply Y;simp only [List.drop];refine aX 151 (by simp <;> rfl) ?_;refine ⟨fun g14 => ?_, fun g14 => ?_⟩
        ·try simp at g14
         simp[ga4];and_intros<;>(try omega);apply Z;apply aC;obtain ⟨q1, q2⟩ := e6 (by omega);subst q1; subst q2;simp [aM]
        ·simp at g14
      ·try simp at g11
       simp[ga3];and_intros<;>(try omega);apply Z;refine bT (t := false) (by simp) (fun h => by cases h) (fun _ => ?_);apply aG;apply aP;apply aB;refine zk [6,7,8,9,10,11,12] ?_;refine lA ⟨[],[],[],[],[]⟩ fun all hall _ Z=>?_;have ga4 : aR all 4 = some 151 := hall 4;refine aA 5 fun _ Y=>?_;simp[ga4];and_intros<;>(try omega);apply Y;simp only [List.drop];refine aX 151 (by simp <;> rfl) ?_;refine ⟨fun g15 => ?_, fun g15 => ?_⟩
       ·try simp at g15
        simp[ga4];and_intros<;>(try omega);apply Z;apply aC;obtain ⟨q1, q2⟩ := e6 (by omega);subst q1; subst q2;simp [aM]
       ·simp at g15
end Go.Proofs.YtpfmpeaekgdgnaaGreat

