import Derived.Test.YtpfmpeaekgdgnaaGreatArPerm
namespace Go.Proofs.YtpfmpeaekgdgnaaGreat
open Go Go.Vm
set_option maxRecDepth 20000
set_option linter.all false
set_option maxHeartbeats 8000000
structure Act where
 kind : Int
 a : Int
 b : Int
 c : Int
 name : ByteArray
 value : ByteArray
 deriving DecidableEq
@[simp] abbrev nI (s : Act) : D := .agg [.v (.int .i64 s.kind), .v (.int .i64 s.a), .v (.int .i64 s.b), .v (.int .i64 s.c), .v (.string s.name), .v (.string s.value)]
def jU (a : Act) : Act := { a with name := Ja 20 a.name, value := Ja 40 a.value }
def d0 (most : Int) (o : Nat) : DS := ⟨max 1 (min most 65536), 1, 1, [⟨kR, o, 0⟩]⟩
theorem oM (x : Int) : yD x 1 65536 = max 1 (min x 65536) := by
 unfold yD; (repeat' split) <;> omega
theorem aDh (most : Int) (σ : List (List D)) : IV 0 (σ.length + 1) σ.length (d0 most (σ.length + 2)) (fun _ => 0) (σ ++ [[], jR σ.length (d0 most (σ.length + 2)), dA kR]) := by
 have hl : (d0 most (σ.length + 2)).l = [kR] := rfl;have hm : ∀ n ∈ (d0 most (σ.length + 2)).l, n = kR := fun n hn => by rw [hl] at hn; simpa using hn
 have hwt : WT (d0 most (σ.length + 2)).l (fun _ => 0) := by
  refine ⟨by rw [hl]; simp, fun n hn k hk => ?_, fun n hn => ?_, fun n hn => ?_, fun n hn => ?_, fun n hn k hk => ?_⟩ <;> have := hm n hn <;> subst this
  ·cases hk
  ·exact .inl rfl
  ·exact Int.le_refl _
  ·exact List.nodup_nil
  ·cases hk
 refine ⟨⟨by simp, fun e he => ?_, fun e he => ?_, by simp [d0], by simp⟩, ⟨hwt.nd, by simp [d0], ?_, by simp [d0], fun n hn => ?_, fun n hn => ?_, fun n hn => ?_, ⟨kR, by rw [hl]; simp, rfl, rfl, rfl⟩, fun n hn => ?_, ?_⟩, hwt⟩
 ·simp only [d0, List.mem_singleton] at he; subst he; simp
 ·simp only [d0, List.mem_singleton] at he; subst he; show σ.length + 2 ≠ σ.length + 1; omega
 ·show 1 ≤ max 1 (min most 65536) ∧ max 1 (min most 65536) ≤ 65536; omega
 ·have := hm n hn; subst this; show (0 : Int) < 1; omega
 ·have := hm n hn; subst this; simp [kR]
 ·have := hm n hn; subst this; exact ⟨List.Pairwise.nil, List.Pairwise.nil⟩
 ·have := hm n hn; subst this; exact .inr rfl
 ·show (([_] : List EN).length : Int) - 1 ≤ max 1 (min most 65536); simp; omega
theorem Jg (most : Int) (σ : List (List D))  : Ct Tryz.prog 12 [D.int most] σ (fun r σ' => r = .ref (σ.length + 1) 0 ∧ σ' = σ ++ [[], jR σ.length (d0 most (σ.length + 2)), dA kR]) := by
 refine zf (rs:=[.tmp 2]) Tryz.func12 Tryz.ntmps12 Tryz.results12 ?_;simp only [aN];refine zr ⟨[],[],[8,14],[],[]⟩ fun _ _ Z=>?_;simp[aS,aO,aJ,aF,oM];and_intros<;>(try omega);apply Z;refine zr ⟨[],[],[8,14],[],[]⟩ fun _ _ Z=>?_;refine aA 1 fun _ Y=>?_;simp[aS,aO,aJ,aF,oM];and_intros<;>(try omega);apply Y;simp only [List.drop];refine aD fun _ Y=>?_;simp[aS,aO,aJ,aF,oM];refine bY (Yq ..) ?_;apply Y;simp[aS,aO,aJ,aF,oM];and_intros<;>(try omega);apply Z;refine pP 6 (σ.length + 1) 2 (N := σ.length) (kd := .int .i64) (clock := 0) (kvs := []) (by simp) (by simp [aS, aO, aJ, aF] <;> rfl) (by simp <;> rfl) ?_;simp only [aO, List.set_cons_zero, List.set_cons_succ];refine zr ⟨[],[],[8,14],[],[]⟩ fun _ _ Z=>?_;simp[aS,aO,aJ,aF,oM];refine ⟨σ.length + 1, 2, 0, [], 1, _, ⟨⟨_, by simp [aS, aO, aJ, aF] <;> rfl, rfl⟩, gU _, rfl, .inr ⟨by simp, rfl, rfl⟩⟩, ?_⟩;rw [uR (by simp [aS, aO, aJ, aF] <;> rfl)];and_intros<;>(try omega);apply Z;refine qV (σ.length + 2) 8 1 (by simp [aS, aO, aJ, aF]; rfl) rfl ?_;simp only [aO, List.set_cons_zero, List.set_cons_succ];refine tC (σ.length + 2) (dA kR) (by simp [aS, aO, aJ, aF]; rfl) (by simp [leC, kR, D.s1]) ?_;simp only [aO, List.set_cons_zero, List.set_cons_succ];refine zk [2,3] ?_;refine zr ⟨[],[],[8,14],[],[]⟩ fun _ _ Z=>?_;simp[aS,aO,aJ,aF,oM];and_intros<;>(try omega);apply Z;apply aC;simp [aK, d0, rZ, kR, jR]
theorem Je (a : Act) (σ : List (List D)) (h1 : a.name.size ≤ 9223372036854775807) (h2 : a.value.size ≤ 9223372036854775807) : Ct Tryz.prog 27 [nI a] σ (fun r σ' => r = nI (jU a) ∧ σ' = σ) := by
 refine zf (rs:=[.cell 2 33]) Tryz.func27 Tryz.ntmps27 Tryz.results27 ?_;simp only [aN];refine aY fun _ _ Z=>?_;simp;and_intros<;>(try omega);apply Z;refine zd ⟨[],[],[],[],[]⟩ [.op {},.op {rL:=true},.pure,.op {},.op {rL:=true},.pure,.op {},.op {rL:=true,wL:=true},.op {},.op {rL:=true,wL:=true}] fun all hall _ Z=>?_;refine aP 2 (by simp) fun _ Y=>?_;simp;and_intros<;>(try omega);apply Y;simp only [List.drop];refine cO fun _ Y=>?_;simp;refine Pp (fun _ => (Wm a.name 20 _ (by omega))) ?_;apply Y;refine aP 2 (by simp) fun _ Y=>?_;simp;and_intros<;>(try omega);apply Y;simp only [List.drop];refine cO fun _ Y=>?_;simp;refine Pp (fun _ => (Wm a.value 40 _ (by omega))) ?_;apply Y;simp;and_intros<;>(try omega);apply Z;refine aY fun _ _ Z=>?_;simp;and_intros<;>(try omega);apply Z;apply aC;simp [aK, jU]
theorem aB9 {k m M : Nat} {d : DS} {rk : Int → Nat} {σ : List (List D)} (h : IV k m M d rk σ) (hk : k ≤ 800) (i : Int) : (aL d.x.l i).kids.length ≤ 900 := by
 cases hl : dT d.x.l i with
 | false => rw [eX hl]; simp [Ca]
 | true =>
  obtain ⟨n, n1, _, n3⟩ := eH hl;rw [n3]; have := (h.ip.sz n n1).1; omega
theorem aA8 {k m M : Nat} {d : DS} {rk : Int → Nat} {σ : List (List D)} (h : IV k m M d rk σ) (i : Int) : (aL d.x.l i).kids.Nodup := by
 cases hl : dT d.x.l i with
 | false => rw [eX hl]; exact List.nodup_nil
 | true =>
  obtain ⟨n, n1, _, n3⟩ := eH hl;rw [n3]; exact h.wt.kn n n1
theorem aDa {k m M : Nat} {d : DS} {rk : Int → Nat} {σ : List (List D)} (h : IV k m M d rk σ) (i : Int) : cJ nA (aL d.x.l i).attrs := by
 cases hl : dT d.x.l i with
 | false => rw [eX hl]; exact List.Pairwise.nil
 | true =>
  obtain ⟨n, n1, _, n3⟩ := eH hl;rw [n3]; exact (h.ip.st n n1).1
theorem aDy {k m M : Nat} {d : DS} {rk : Int → Nat} {σ : List (List D)} (h : IV k m M d rk σ) (i : Int) : cJ nP (aL d.x.l i).styles := by
 cases hl : dT d.x.l i with
 | false => rw [eX hl]; exact List.Pairwise.nil
 | true =>
  obtain ⟨n, n1, _, n3⟩ := eH hl;rw [n3]; exact (h.ip.st n n1).2
theorem Er (a : Act) : (jU a).name.size ≤ 20 ∧ (jU a).value.size ≤ 40 := ⟨Fo 20 a.name, Fo 40 a.value⟩
end Go.Proofs.YtpfmpeaekgdgnaaGreat

