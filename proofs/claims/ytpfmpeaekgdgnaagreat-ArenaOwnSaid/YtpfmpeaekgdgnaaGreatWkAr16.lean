import Derived.Test.YtpfmpeaekgdgnaaGreatArPerm
namespace Go.Proofs.YtpfmpeaekgdgnaaGreat
open Go Go.Vm
set_option maxRecDepth 20000
set_option linter.all false
set_option maxHeartbeats 8000000
structure Act where
 kind : Int
 a : Int
 b : Int
 c : Int
 name : ByteArray
 value : ByteArray
 deriving DecidableEq
@[simp] abbrev oY (s : Act) : D := .agg [.v (.int .i64 s.kind), .v (.int .i64 s.a), .v (.int .i64 s.b), .v (.int .i64 s.c), .v (.string s.name), .v (.string s.value)]
def cS (a : Act) : Act := { a with name := Gi 20 a.name, value := Gi 40 a.value }
def d0 (most : Int) (o : Nat) : DS := ⟨max 1 (min most 65536), 1, 1, [⟨kW, o, 0⟩]⟩
theorem oT (x : Int) : wV x 1 65536 = max 1 (min x 65536) := by
 unfold wV; (repeat' split) <;> omega
theorem aC8 (most : Int) (σ : List (List D)) : IV 0 (σ.length + 1) σ.length (d0 most (σ.length + 2)) (fun _ => 0) (σ ++ [[], kM σ.length (d0 most (σ.length + 2)), dD kW]) := by
 have hl : (d0 most (σ.length + 2)).l = [kW] := rfl;have hm : ∀ n ∈ (d0 most (σ.length + 2)).l, n = kW := fun n hn => by rw [hl] at hn; simpa using hn
 have hwt : WT (d0 most (σ.length + 2)).l (fun _ => 0) := by
  refine ⟨by rw [hl]; simp, fun n hn k hk => ?_, fun n hn => ?_, fun n hn => ?_, fun n hn => ?_, fun n hn k hk => ?_⟩ <;> have := hm n hn <;> subst this
  ·cases hk
  ·exact .inl rfl
  ·exact Int.le_refl _
  ·exact List.nodup_nil
  ·cases hk
 refine ⟨⟨by simp, fun e he => ?_, fun e he => ?_, by simp [d0], by simp⟩, ⟨hwt.nd, by simp [d0], ?_, by simp [d0], fun n hn => ?_, fun n hn => ?_, fun n hn => ?_, ⟨kW, by rw [hl]; simp, rfl, rfl, rfl⟩, fun n hn => ?_, ?_⟩, hwt⟩
 ·simp only [d0, List.mem_singleton] at he; subst he; simp
 ·simp only [d0, List.mem_singleton] at he; subst he; show σ.length + 2 ≠ σ.length + 1; omega
 ·show 1 ≤ max 1 (min most 65536) ∧ max 1 (min most 65536) ≤ 65536; omega
 ·have := hm n hn; subst this; show (0 : Int) < 1; omega
 ·have := hm n hn; subst this; simp [kW]
 ·have := hm n hn; subst this; exact ⟨List.Pairwise.nil, List.Pairwise.nil⟩
 ·have := hm n hn; subst this; exact .inr rfl
 ·show (([_] : List EN).length : Int) - 1 ≤ max 1 (min most 65536); simp; omega
theorem Jl (most : Int) (σ : List (List D))  : Ct Tryz.prog 12 [D.int most] σ (fun r σ' => r = .ref (σ.length + 1) 0 ∧ σ' = σ ++ [[], kM σ.length (d0 most (σ.length + 2)), dD kW]) := by
 refine zf (rs:=[.tmp 2]) Tryz.func12 Tryz.ntmps12 Tryz.results12 ?_;simp only [aQ];refine zr ⟨[],[],[8,14],[],[]⟩ fun _ _ Z=>?_;simp[aO,aI,aF,aC,oT];and_intros<;>(try omega);apply Z;refine zr ⟨[],[],[8,14],[],[]⟩ fun _ _ Z=>?_;refine aA 1 fun _ Y=>?_;simp[aO,aI,aF,aC,oT];and_intros<;>(try omega);apply Y;simp only [List.drop];refine aG fun _ Y=>?_;simp[aO,aI,aF,aC,oT];refine cO (Xg ..) ?_;apply Y;simp[aO,aI,aF,aC,oT];and_intros<;>(try omega);apply Z;refine xG 6 (σ.length + 1) 2 (N := σ.length) (kd := .int .i64) (clock := 0) (kvs := []) (by simp) (by simp [aO, aI, aF, aC] <;> rfl) (by simp <;> rfl) ?_;simp only [aI, List.set_cons_zero, List.set_cons_succ];refine zr ⟨[],[],[8,14],[],[]⟩ fun _ _ Z=>?_;simp[aO,aI,aF,aC,oT];refine ⟨σ.length + 1, 2, 0, [], 1, _, ⟨⟨_, by simp [aO, aI, aF, aC] <;> rfl, rfl⟩, fZ _, rfl, .inr ⟨by simp, rfl, rfl⟩⟩, ?_⟩;rw [zQ (by simp [aO, aI, aF, aC] <;> rfl)];and_intros<;>(try omega);apply Z;refine qQ (σ.length + 2) 8 1 (by simp [aO, aI, aF, aC]; rfl) rfl ?_;simp only [aI, List.set_cons_zero, List.set_cons_succ];refine yJ (σ.length + 2) (dD kW) (by simp [aO, aI, aF, aC]; rfl) (by simp [leC, kW, D.s1]) ?_;simp only [aI, List.set_cons_zero, List.set_cons_succ];refine zk [2,3] ?_;refine zr ⟨[],[],[8,14],[],[]⟩ fun _ _ Z=>?_;simp[aO,aI,aF,aC,oT];and_intros<;>(try omega);apply Z;apply aE;simp [aN, d0, Bg, kW, kM]
theorem Xd (a : Act) (σ : List (List D)) (h1 : a.name.size ≤ 9223372036854775807) (h2 : a.value.size ≤ 9223372036854775807) : Ct Tryz.prog 27 [oY a] σ (fun r σ' => r = oY (cS a) ∧ σ' = σ) := by
 refine zf (rs:=[.cell 2 33]) Tryz.func27 Tryz.ntmps27 Tryz.results27 ?_;simp only [aQ];refine bC fun _ _ Z=>?_;simp;and_intros<;>(try omega);apply Z;refine zd ⟨[],[],[],[],[]⟩ [.op {},.op {rL:=true},.pure,.op {},.op {rL:=true},.pure,.op {},.op {rL:=true,wL:=true},.op {},.op {rL:=true,wL:=true}] fun all hall _ Z=>?_;refine aR 2 (by simp) fun _ Y=>?_;simp;and_intros<;>(try omega);apply Y;simp only [List.drop];refine dH fun _ Y=>?_;simp;refine Js (fun _ => (Ol a.name 20 _ (by omega))) ?_;apply Y;refine aR 2 (by simp) fun _ Y=>?_;simp;and_intros<;>(try omega);apply Y;simp only [List.drop];refine dH fun _ Y=>?_;simp;refine Js (fun _ => (Ol a.value 40 _ (by omega))) ?_;apply Y;simp;and_intros<;>(try omega);apply Z;refine bC fun _ _ Z=>?_;simp;and_intros<;>(try omega);apply Z;apply aE;simp [aN, cS]
theorem gM (m : Nat) (a : Act) (c : Int) (σ2 : List (List D)) (σ : List (List D)) (hb : 10 ≤ a.kind ∧ a.kind ≤ 17) (e0 : a.kind = 10 → Ct Tryz.prog 89 [.ref m 0, D.int a.a, D.str a.name] σ (fun r τ => r = D.int c ∧ τ = σ2)) (e1 : a.kind = 11 → Ct Tryz.prog 90 [.ref m 0, D.int a.a, D.str a.value] σ (fun r τ => r = D.int c ∧ τ = σ2)) (e2 : a.kind = 12 → Ct Tryz.prog 91 [.ref m 0, D.int a.a, D.str a.name, D.str a.value] σ (fun r τ => r = D.int c ∧ τ = σ2)) (e3 : a.kind = 13 → Ct Tryz.prog 92 [.ref m 0, D.int a.a, D.str a.name] σ (fun r τ => r = D.int c ∧ τ = σ2)) (e4 : a.kind = 14 → Ct Tryz.prog 93 [.ref m 0, D.int a.a, D.str a.name, D.int a.c] σ (fun r τ => r = D.int c ∧ τ = σ2)) (e5 : a.kind = 15 → Ct Tryz.prog 94 [.ref m 0, D.int a.a, D.str a.name] σ (fun r τ => r = D.int c ∧ τ = σ2)) (e6 : a.kind = 16 → Ct Tryz.prog 95 [.ref m 0, D.int a.a, D.str a.name] σ (fun r τ => r = D.int c ∧ τ = σ2)) (e7 : a.kind = 17 → Ct Tryz.prog 96 [.ref m 0, D.int a.a, D.str a.name] σ (fun r τ => r = D.int c ∧ τ = σ2)) : Ct Tryz.prog 50 [.ref m 0, oY a] σ (fun r σ' => r = D.int c ∧ σ' = σ2) := by
 refine zf (rs:=[.tmp 4]) Tryz.func50 Tryz.ntmps50 Tryz.results50 ?_;simp only [aQ];refine bC fun _ _ Z=>?_;simp;and_intros<;>(try omega);apply Z;apply aD;refine bC fun _ _ Z=>?_;simp;and_intros<;>(try omega);apply Z;apply aK;refine bC fun _ _ Z=>?_;simp;and_intros<;>(try omega);apply Z;refine zi ?_;refine ⟨fun c1=>?_,fun c1=>?_⟩
 ·try simp at c1
  refine bC fun _ _ Z=>?_;refine aA 5 fun _ Y=>?_;simp;and_intros<;>(try omega);apply Y;simp only [List.drop];refine aG fun _ Y=>?_;simp;refine cO (e0 (by omega)) ?_;apply Y;simp;and_intros<;>(try omega);apply Z;apply aE;apply aV;apply aL;simp [aN]
 ·try simp at c1
  refine bC fun _ _ Z=>?_;simp;and_intros<;>(try omega);apply Z;refine zi ?_;refine ⟨fun c2=>?_,fun c2=>?_⟩
  ·try simp at c2
   refine bC fun _ _ Z=>?_;refine aA 5 fun _ Y=>?_;simp;and_intros<;>(try omega);apply Y;simp only [List.drop];refine aG fun _ Y=>?_;simp;refine cO (e1 (by omega)) ?_;apply Y;simp;and_intros<;>(try omega);apply Z;apply aE;apply aV;apply aL;simp [aN]
  ·try simp at c2
   refine bC fun _ _ Z=>?_;simp;and_intros<;>(try omega);apply Z;refine zi ?_;refine ⟨fun c3=>?_,fun c3=>?_⟩
   ·try simp at c3
    refine bC fun _ _ Z=>?_;refine aA 7 fun _ Y=>?_;simp;and_intros<;>(try omega);apply Y;simp only [List.drop];refine aG fun _ Y=>?_;simp;refine cO (e2 (by omega)) ?_;apply Y;simp;and_intros<;>(try omega);apply Z;apply aE;apply aV;apply aL;simp [aN]
   ·try simp at c3
    refine bC fun _ _ Z=>?_;simp;and_intros<;>(try omega);apply Z;refine zi ?_;refine ⟨fun c4=>?_,fun c4=>?_⟩
    ·try simp at c4
     refine zk [0,3,4] ?_;refine bC fun _ _ Z=>?_;refine aA 5 fun _ Y=>?_;simp;and_intros<;>(try omega);apply Y;simp only [List.drop];refine aG fun _ Y=>?_;simp;refine cO (e3 (by omega)) ?_;apply Y;simp;and_intros<;>(try omega);apply Z;apply aE;apply aV;apply aL;simp [aN]
    ·try simp at c4
     refine zk [0,3,4,7] ?_;refine bC fun _ _ Z=>?_;simp;and_intros<;>(try omega);apply Z;refine zi ?_;refine ⟨fun c5=>?_,fun c5=>?_⟩
     ·try simp at c5
      refine bC fun _ _ Z=>?_;refine aA 7 fun _ Y=>?_;simp;and_intros<;>(try omega);apply Y;simp only [List.drop];refine aG fun _ Y=>?_;simp;refine cO (e4 (by omega)) ?_;apply Y;simp;and_intros<;>(try omega);apply Z;apply aE;apply aV;apply aL;simp [aN]
     ·try simp at c5
      refine bC fun _ _ Z=>?_;simp;and_intros<;>(try omega);apply Z;refine zi ?_;refine ⟨fun c6=>?_,fun c6=>?_⟩
      ·try simp at c6
       refine bC fun _ _ Z=>?_;refine aA 5 fun _ Y=>?_;simp;and_intros<;>(try omega);apply Y;simp only [List.drop];refine aG fun _ Y=>?_;simp;refine cO (e5 (by omega)) ?_;apply Y;simp;and_intros<;>(try omega);apply Z;apply aE;apply aV;apply aL;simp [aN]
      ·try simp at c6
       refine bC fun _ _ Z=>?_;simp;and_intros<;>(try omega);apply Z;refine zi ?_;refine ⟨fun c7=>?_,fun c7=>?_⟩
       ·try simp at c7
        refine bC fun _ _ Z=>?_;refine aA 5 fun _ Y=>?_;simp;and_intros<;>(try omega);apply Y;simp only [List.drop];refine aG fun _ Y=>?_;simp;refine cO (e6 (by omega)) ?_;apply Y;simp;and_intros<;>(try omega);apply Z;apply aE;apply aV;apply aL;simp [aN]
       ·try simp at c7
        apply aH;apply aP;apply aB;refine bC fun _ _ Z=>?_;refine aA 5 fun _ Y=>?_;simp;and_intros<;>(try omega);apply Y;simp only [List.drop];refine aG fun _ Y=>?_;simp;refine cO (e7 (by omega)) ?_;apply Y;simp;and_intros<;>(try omega);apply Z;apply aE;simp [aN]
theorem aAi {k m M : Nat} {d : DS} {rk : Int → Nat} {σ : List (List D)} (h : IV k m M d rk σ) (hk : k ≤ 800) (i : Int) : (aM d.x.l i).kids.length ≤ 900 := by
 cases hl : dQ d.x.l i with
 | false => rw [eV hl]; simp [gS]
 | true =>
  obtain ⟨n, n1, _, n3⟩ := eB hl;rw [n3]; have := (h.ip.sz n n1).1; omega
theorem aBk {k m M : Nat} {d : DS} {rk : Int → Nat} {σ : List (List D)} (h : IV k m M d rk σ) (i : Int) : (aM d.x.l i).kids.Nodup := by
 cases hl : dQ d.x.l i with
 | false => rw [eV hl]; exact List.nodup_nil
 | true =>
  obtain ⟨n, n1, _, n3⟩ := eB hl;rw [n3]; exact h.wt.kn n n1
theorem aC7 {k m M : Nat} {d : DS} {rk : Int → Nat} {σ : List (List D)} (h : IV k m M d rk σ) (i : Int) : cC nA (aM d.x.l i).attrs := by
 cases hl : dQ d.x.l i with
 | false => rw [eV hl]; exact List.Pairwise.nil
 | true =>
  obtain ⟨n, n1, _, n3⟩ := eB hl;rw [n3]; exact (h.ip.st n n1).1
theorem aCn {k m M : Nat} {d : DS} {rk : Int → Nat} {σ : List (List D)} (h : IV k m M d rk σ) (i : Int) : cC nP (aM d.x.l i).styles := by
 cases hl : dQ d.x.l i with
 | false => rw [eV hl]; exact List.Pairwise.nil
 | true =>
  obtain ⟨n, n1, _, n3⟩ := eB hl;rw [n3]; exact (h.ip.st n n1).2
theorem Bk (a : Act) : (cS a).name.size ≤ 20 ∧ (cS a).value.size ≤ 40 := ⟨Db 20 a.name, Db 40 a.value⟩
theorem aAz (m : Nat) (x y : RD) (n c : Int) (a : Act) (bel bel2 : Int → List Int) (rk : Int → Nat) (σ2 : List (List D)) (σ : List (List D)) (hx : NB x.l) (hnx : 0 ≤ x.next ∧ x.next ≤ 1000000) (htr : Tr x.l bel rk) (htr2 : Tr (remP x.l (cS a).a) bel2 rk) (hkl : ∀ i, (aM x.l i).kids.length ≤ 900) (hkn : ∀ i, (aM x.l i).kids.Nodup) (hsa : ∀ i, cC nA (aM x.l i).attrs) (hss : ∀ i, cC nP (aM x.l i).styles) (e0 : (cS a).kind = 0 → Ct Tryz.prog 40 [.ref m 0, D.str (cS a).name] σ (fun r τ => r = .tup [D.int n, D.int c] ∧ τ = σ2) ∧ addX x 2 (cS a).name = (y, n, c)) (e1 : (cS a).kind = 1 → Ct Tryz.prog 44 [.ref m 0, D.str (cS a).value] σ (fun r τ => r = .tup [D.int n, D.int c] ∧ τ = σ2) ∧ addX x 1 (cS a).value = (y, n, c)) (e2 : (cS a).kind = 2 → Ct Tryz.prog 41 [.ref m 0, D.int (cS a).a, D.int (cS a).b, D.int (cS a).c] σ (fun r τ => r = D.int c ∧ τ = σ2) ∧ insX x bel (cS a).a (cS a).b (cS a).c = (y, c)) (e3 : (cS a).kind = 3 → Ct Tryz.prog 46 [.ref m 0, D.int (cS a).a, D.int (cS a).b] σ (fun r τ => r = D.int c ∧ τ = σ2) ∧ movX x (cS a).a (cS a).b = (y, c)) (e4 : (cS a).kind = 4 → Ct Tryz.prog 48 [.ref m 0, D.int (cS a).a] σ (fun r τ => r = D.int c ∧ τ = σ2) ∧ remX x bel2 (cS a).a = (y, c)) (e5 : 10 ≤ (cS a).kind ∧ (cS a).kind ≤ 17 → Ct Tryz.prog 50 [.ref m 0, oY (cS a)] σ (fun r τ => r = D.int c ∧ τ = σ2) ∧ setX x ((cS a).kind - 10) (cS a).a (cS a).name (cS a).value (cS a).c = (y, c)) (e6 : ¬ (0 ≤ (cS a).kind ∧ (cS a).kind ≤ 4) ∧ ¬ (10 ≤ (cS a).kind ∧ (cS a).kind ≤ 17) → y = x ∧ σ2 = σ) (h1 : a.name.size ≤ 9223372036854775807) (h2 : a.value.size ≤ 9223372036854775807) : Ct Tryz.prog 14 [.ref m 0, gV x, oY a] σ (fun r σ' => r = .tup [gV y, .bool true] ∧ σ' = σ2) := by
 refine zf (rs:=[.cell 6 28,.tmp 7]) Tryz.func14 Tryz.ntmps14 Tryz.results14 ?_;simp only [aQ];obtain ⟨t1, t2⟩ := Bk a;refine bC fun _ _ Z=>?_;simp;and_intros<;>(try omega);apply Z;refine bC fun _ _ Z=>?_;refine aA 1 fun _ Y=>?_;simp;and_intros<;>(try omega);apply Y;simp only [List.drop];refine aG fun _ Y=>?_;simp;refine cO (Xd a _ h1 h2) ?_;apply Y;simp;and_intros<;>(try omega);apply Z;refine bC fun _ _ Z=>?_;simp;and_intros<;>(try omega);apply Z;refine bC fun _ _ Z=>?_;simp;and_intros<;>(try omega);apply Z;apply aD;apply aK;refine zk [0,4,5,6,7,8,9,10,11,12] ?_;refine bC fun _ _ Z=>?_;simp;and_intros<;>(try omega);apply Z;refine zi ?_;refine ⟨fun c1=>?_,fun c1=>?_⟩
 ·try simp at c1
  refine zk [0,4,5,6,7,8,9,10,11,12] ?_;refine bC fun _ _ Z=>?_;refine aA 3 fun _ Y=>?_;simp;and_intros<;>(try omega);apply Y;simp only [List.drop];refine aG fun _ Y=>?_;simp;refine cO (e0 (by omega)).1 ?_;apply Y;simp;and_intros<;>(try omega);apply Z;refine zk [4,5,6,7,8,9,10,11,12,13,14] ?_;refine bC fun _ _ Z=>?_;simp;and_intros<;>(try omega);apply Z;refine zk [4,5,6,7,8,9,10,11,12] ?_;refine vS fun _ _ Z=>?_;refine aA 3 fun _ Y=>?_;simp;and_intros<;>(try omega);apply Y;simp only [List.drop];refine aG fun _ Y=>?_;simp;refine cO (Ik x 2 (cS a).name _ hx hnx (by omega)) ?_;rw [(e0 (by omega)).2];apply Y;simp;and_intros<;>(try omega);apply Z;apply aP;apply aB;refine zk [6,7,8,9,10,11,12] ?_;refine lH ⟨[],[],[],[],[]⟩ fun all hall _ Z=>?_;have ga4 : aS all 4 = some 151 := hall 4;refine aA 5 fun _ Y=>?_;simp[ga4];and_intros<;>(try omega);apply Y;simp only [List.drop];refine aX 151 (by simp <;> rfl) ?_;refine ⟨fun g2 => ?_, fun g2 => ?_⟩
  ·try simp at g2
   simp[ga4];and_intros<;>(try omega);apply Z;apply aE;simp [aN]
  ·simp at g2
 ·try simp at c1
  refine zk [0,4,5,6,7,8,9,10,11,12] ?_;refine bC fun _ _ Z=>?_;simp;and_intros<;>(try omega);apply Z;refine zi ?_;refine ⟨fun c3=>?_,fun c3=>?_⟩
  ·try simp at c3
   refine zk [0,4,5,6,7,8,9,10,11,12] ?_;refine bC fun _ _ Z=>?_;refine aA 3 fun _ Y=>?_;simp;and_intros<;>(try omega);apply Y;simp only [List.drop];refine aG fun _ Y=>?_;simp;refine cO (e1 (by omega)).1 ?_;apply Y;simp;and_intros<;>(try omega);apply Z;refine zk [4,5,6,7,8,9,10,11,12,15,16] ?_;refine bC fun _ _ Z=>?_;simp;and_intros<;>(try omega);apply Z;refine zk [4,5,6,7,8,9,10,11,12] ?_;refine vS fun _ _ Z=>?_;refine aA 3 fun _ Y=>?_;simp;and_intros<;>(try omega);apply Y;simp only [List.drop];refine aG fun _ Y=>?_;simp;refine cO (Ik x 1 (cS a).value _ hx hnx (by omega)) ?_;rw [(e1 (by omega)).2];apply Y;simp;and_intros<;>(try omega);apply Z;apply aP;apply aB;refine zk [6,7,8,9,10,11,12] ?_;refine lH ⟨[],[],[],[],[]⟩ fun all hall _ Z=>?_;have ga4 : aS all 4 = some 151 := hall 4;refine aA 5 fun _ Y=>?_;simp[ga4];and_intros<;>(try omega);apply Y;simp only [List.drop];refine aX 151 (by simp <;> rfl) ?_;refine ⟨fun g4 => ?_, fun g4 => ?_⟩
   ·try simp at g4
    simp[ga4];and_intros<;>(try omega);apply Z;apply aE;simp [aN]
   ·simp at g4
  ·try simp at c3
   refine zk [0,4,5,6,7,8,9,10,11,12] ?_;refine bC fun _ _ Z=>?_;simp;and_intros<;>(try omega);apply Z;refine zi ?_;refine ⟨fun c5=>?_,fun c5=>?_⟩
   ·try simp at c5
    refine zk [0,4,5,6,7,8,9,10,11,12] ?_;refine bC fun _ _ Z=>?_;refine aA 7 fun _ Y=>?_;simp;and_intros<;>(try omega);apply Y;simp only [List.drop];refine aG fun _ Y=>?_;simp;refine cO (e2 (by omega)).1 ?_;apply Y;simp;and_intros<;>(try omega);apply Z;refine zk [4,5,6,7,8,9,10,11,12] ?_;refine vS fun _ _ Z=>?_;refine aA 7 fun _ Y=>?_;simp;and_intros<;>(try omega);apply Y;simp only [List.drop];refine aG fun _ Y=>?_;simp;refine cO (Vo x (cS a).a (cS a).b (cS a).c bel rk _ hx htr (hkl _)) ?_;rw [(e2 (by omega)).2];apply Y;simp;and_intros<;>(try omega);apply Z;apply aP;apply aB;refine zk [6,7,8,9,10,11,12] ?_;refine lH ⟨[],[],[],[],[]⟩ fun all hall _ Z=>?_;have ga4 : aS all 4 = some 151 := hall 4;refine aA 5 fun _ Y=>?_;simp[ga4];and_intros<;>(try omega);apply Y;simp only [List.drop];refine aX 151 (by simp <;> rfl) ?_;refine ⟨fun g6 => ?_, fun g6 => ?_⟩
    ·try simp at g6
     simp[ga4];and_intros<;>(try omega);apply Z;apply aE;simp [aN]
    ·simp at g6
   ·try simp at c5
    refine zk [0,4,5,6,7,8,9,10,11,12] ?_;refine bC fun _ _ Z=>?_;simp;and_intros<;>(try omega);apply Z;refine zi ?_;refine ⟨fun c7=>?_,fun c7=>?_⟩
    ·try simp at c7
     refine zk [0,4,5,6,7,8,9,10,11,12] ?_;refine bC fun _ _ Z=>?_;refine aA 5 fun _ Y=>?_;simp;and_intros<;>(try omega);apply Y;simp only [List.drop];refine aG fun _ Y=>?_;simp;refine cO (e3 (by omega)).1 ?_;apply Y;simp;and_intros<;>(try omega);apply Z;refine zk [4,5,6,7,8,9,10,11,12] ?_;refine vS fun _ _ Z=>?_;refine aA 5 fun _ Y=>?_;simp;and_intros<;>(try omega);apply Y;simp only [List.drop];refine aG fun _ Y=>?_;simp;refine cO (Yf x (cS a).a (cS a).b _ hx (hkn _)) ?_;rw [(e3 (by omega)).2];apply Y;simp;and_intros<;>(try omega);apply Z;apply aP;apply aB;refine zk [6,7,8,9,10,11,12] ?_;refine lH ⟨[],[],[],[],[]⟩ fun all hall _ Z=>?_;have ga4 : aS all 4 = some 151 := hall 4;refine aA 5 fun _ Y=>?_;simp[ga4];and_intros<;>(try omega);apply Y;simp only [List.drop];refine aX 151 (by simp <;> rfl) ?_;refine ⟨fun g8 => ?_, fun g8 => ?_⟩
     ·try simp at g8
      simp[ga4];and_intros<;>(try omega);apply Z;apply aE;simp [aN]
     ·simp at g8
    ·try simp at c7
     refine zk [0,4,5,6,7,8,9,10,11,12] ?_;refine bC fun _ _ Z=>?_;simp;and_intros<;>(try omega);apply Z;refine zi ?_;refine ⟨fun c9=>?_,fun c9=>?_⟩
     ·try simp at c9
      refine zk [0,4,5,6,7,8,9,10,11,12] ?_;refine bC fun _ _ Z=>?_;refine aA 3 fun _ Y=>?_;simp;and_intros<;>(try omega);apply Y;simp only [List.drop];refine aG fun _ Y=>?_;simp;refine cO (e4 (by omega)).1 ?_;apply Y;simp;and_intros<;>(try omega);apply Z;refine zk [4,5,6,7,8,9,10,11,12] ?_;refine vS fun _ _ Z=>?_;refine aA 3 fun _ Y=>?_;simp;and_intros<;>(try omega);apply Y;simp only [List.drop];refine aG fun _ Y=>?_;simp;refine cO (Yu x (cS a).a bel2 rk _ hx htr2) ?_;rw [(e4 (by omega)).2];apply Y;simp;and_intros<;>(try omega);apply Z;apply aP;apply aB;refine zk [6,7,8,9,10,11,12] ?_;refine lH ⟨[],[],[],[],[]⟩ fun all hall _ Z=>?_;have ga4 : aS all 4 = some 151 := hall 4;refine aA 5 fun _ Y=>?_;simp[ga4];and_intros<;>(try omega);apply Y;simp only [List.drop];refine aX 151 (by simp <;> rfl) ?_;refine ⟨fun g10 => ?_, fun g10 => ?_⟩
      ·try simp at g10
       simp[ga4];and_intros<;>(try omega);apply Z;apply aE;simp [aN]
      ·simp at g10
     ·try simp at c9
      refine zk [0,4,5,6,7,8,9,10,11,12] ?_;refine lH ⟨[],[],[],[],[]⟩ fun all hall _ Z=>?_;have ga3 : aS all 3 = some 123 := hall 3;refine aA 4 fun _ Y=>?_;simp[ga3];and_intros<;>(try omega);apply Y;simp only [List.drop];refine aX 123 (by simp <;> rfl) ?_;refine ⟨fun g11 => ?_, fun g11 => ?_⟩
      ·try simp at g11
       simp[ga3];and_intros<;>(try omega);apply Z;refine zi ?_;refine ⟨fun c12=>?_,fun c12=>?_⟩
       ·try simp at c12
        refine zk [0,4,5,6,7,8,9,10,11,12] ?_;refine bC fun _ _ Z=>?_;refine aA 2 fun _ Y=>?_;simp;and_intros<;>(try omega);apply Y;simp only [List.drop];refine aG fun _ Y=>?_;simp;refine cO (e5 (by omega)).1 ?_;apply Y;simp;and_intros<;>(try omega);apply Z;refine zk [4,5,6,7,8,9,10,11,12] ?_;refine vS fun _ _ Z=>?_;refine aA 8 fun _ Y=>?_;simp;and_intros<;>(try omega);apply Y;simp only [List.drop];refine aA 4 fun _ Y=>?_;simp;and_intros<;>(try omega);apply Y;simp only [List.drop];refine aG fun _ Y=>?_;simp;refine cO (Wz x ((cS a).kind - 10) (cS a).a (cS a).name (cS a).value (cS a).c _ hx (by omega) (hsa _) (hss _)) ?_;rw [(e5 (by omega)).2];apply Y;simp;and_intros<;>(try omega);apply Z;apply aP;apply aB;refine zk [6,7,8,9,10,11,12] ?_;refine lH ⟨[],[],[],[],[]⟩ fun all hall _ Z=>?_;have ga4 : aS all 4 = some 151 := hall 4;refine aA 5 fun _ Y=>?_;simp[ga4];and_intros<;>(try omega);apply Y;simp only [List.drop];refine aX 151 (by simp <;> rfl) ?_;refine ⟨fun g13 => ?_, fun g13 => ?_⟩
        ·try simp at g13
         simp[ga4];and_intros<;>(try omega);apply Z;apply aE;simp [aN]
        ·simp at g13
       ·try simp at c12
        apply aH;apply aP;apply aB;refine zk [6,7,8,9,10,11,12] ?_;refine lH ⟨[],[],[],[],[]⟩ fun all hall _ Z=>?_;have ga4 : aS all 4 = some 151 := hall 4;refine aA 5 fun _ Y=>?_;simp[ga4];and_intros<;>(try omega);apply Y;simp only [List.drop];refine aX 151 (by simp <;> rfl) ?_;refine ⟨fun g14 => ?_, fun g14 => ?_⟩
        ·try simp at g14
         simp[ga4];and_intros<;>(try omega);apply Z;apply aE;obtain ⟨q1, q2⟩ := e6 (by omega);subst q1; subst q2;simp [aN]
        ·simp at g14
      ·try simp at g11
       simp[ga3];and_intros<;>(try omega);apply Z;refine bR (t := false) (by simp) (fun h => by cases h) (fun _ => ?_);apply aH;apply aP;apply aB;refine zk [6,7,8,9,10,11,12] ?_;refine lH ⟨[],[],[],[],[]⟩ fun all hall _ Z=>?_;have ga4 : aS all 4 = some 151 := hall 4;refine aA 5 fun _ Y=>?_;simp[ga4];and_intros<;>(try omega);apply Y;simp only [List.drop];refine aX 151 (by simp <;> rfl) ?_;refine ⟨fun g15 => ?_, fun g15 => ?_⟩
       ·try simp at g15
        simp[ga4];and_intros<;>(try omega);apply Z;apply aE;obtain ⟨q1, q2⟩ := e6 (by omega);subst q1; subst q2;simp [aN]
       ·simp at g15
end Go.Proofs.YtpfmpeaekgdgnaaGreat

