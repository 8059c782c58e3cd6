import Derived.Test.YtpfmpeaekgdgnaaGreatWkAr12
namespace Go.Proofs.YtpfmpeaekgdgnaaGreat
open Go Go.Vm
set_option maxRecDepth 20000
set_option linter.all false
set_option maxHeartbeats 8000000
theorem aCn (k : Int) (o : Nat) (n : ND) (σ : List (List D)) (hnn : σ[o]? = some (dC n)) : Ct Tryz.prog 122 [D.int k, .adr [.ref o 0]] σ (fun r σ' => r = .bool (decide (k = n.ID)) ∧ σ' = σ) := by
 refine zf (rs:=[.tmp 3]) Tryz.func122 Tryz.ntmps122 Tryz.results122 ?_;simp only [aQ];refine aZ fun _ _ Z=>?_;simp[hnn];and_intros<;>(try omega);apply Z;refine aZ fun _ _ Z=>?_;simp[hnn];and_intros<;>(try omega);apply Z;apply aC;simp [aM]
theorem Wo {σ τ : List (List D)} {i : Nat} {a : List D} (h : σ <+: τ) (hi : σ[i]? = some a) : τ[i]? = some a := by
 obtain ⟨J, rfl⟩ := h; exact bM hi J
def Cl (es : List EN) (o : Nat) (n : ND) : List EN := es.map fun e => if e.o = o then { e with n := n } else e
def nK (d : DS) (o : Nat) (n : ND) : DS := { d with es := Cl d.es o n }
theorem aCj (m M : Nat) (d : DS) (n : EN) (σ : List (List D)) (ho : DO m M d σ) (hn : n ∈ d.es) (hno : dU d.l n.n.parent = false) : Ct Tryz.prog 86 [.ref m 0, .ref n.o 0] σ (fun r σ' => r = .tup [] ∧ σ' = σ) := by
 refine zf (rs:=[]) Tryz.func86 Tryz.ntmps86 Tryz.results86 ?_;simp only [aQ];have hq := ho.hm;have hnn := ho.hn n hn;refine zr ⟨[],[3],[],[],[]⟩ fun _ _ Z=>?_;simp[hq,hnn];and_intros<;>(try omega);apply Z;refine zd ⟨[],[3],[],[],[]⟩ [.op {},.op {},.op {},.op {rO:=true},.op {},.op {},.op {},.op {rO:=true},.op {rO:=true},.op {}] fun all hall _ Z=>?_;refine aO 8 (by simp) fun _ Y=>?_;simp[hq,hnn];and_intros<;>(try omega);apply Y;simp only [List.drop];refine aO 1 (by simp) fun _ Y=>?_;simp[hq,hnn];refine ⟨m, 2, d.ck, _, .v (.pointer none), ⟨⟨_, hq, rfl⟩, gA _, .inl (kY hno _)⟩, ?_⟩;and_intros<;>(try omega);apply Y;simp only [List.drop];simp[hq,hnn];and_intros<;>(try omega);apply Z;refine zr ⟨[],[3],[],[],[]⟩ fun _ _ Z=>?_;simp[hq,hnn];and_intros<;>(try omega);apply Z;refine zi ?_;refine ⟨fun c1=>?_,fun c1=>?_⟩
 ·simp at c1
 ·try simp at c1
  apply aG;simp [aM]
theorem Vy (m M : Nat) (d : DS) (p n : EN) (σ : List (List D)) (ho : DO m M d σ) (hp : p ∈ d.es) (hn : n ∈ d.es) (hpp : p.n.ID = n.n.parent) (hoo : n.o ≠ p.o) (hlen : p.n.kids.length ≤ 1000) : Ct Tryz.prog 86 [.ref m 0, .ref n.o 0] σ (fun r σ' => r = .tup [] ∧ σ' = σ.set p.o (dC (eP p.n (eQ p.n.kids n.n.ID)))) := by
 refine zf (rs:=[]) Tryz.func86 Tryz.ntmps86 Tryz.results86 ?_;simp only [aQ];have hq := ho.hm;have hnn := ho.hn n hn;have hpo := ho.hn p hp;have hn2 : ∀ a, (σ.set p.o a)[n.o]? = some (dC n.n) := fun a => by rw [List.getElem?_set_ne (Ne.symm hoo)]; exact hnn
 refine zr ⟨[20,22],[3],[],[],[]⟩ fun _ _ Z=>?_;simp[hq,hnn,hpo,aI hpo,List.set_set];and_intros<;>(try omega);apply Z;refine zd ⟨[20,22],[3],[],[],[]⟩ [.op {},.op {},.op {},.op {rO:=true},.op {},.op {},.op {},.op {rO:=true},.op {rO:=true},.op {}] fun all hall _ Z=>?_;refine aO 8 (by simp) fun _ Y=>?_;simp[hq,hnn,hpo,aI hpo,List.set_set];and_intros<;>(try omega);apply Y;simp only [List.drop];refine aO 1 (by simp) fun _ Y=>?_;simp[hq,hnn,hpo,aI hpo,List.set_set];rw [← hpp];refine ⟨m, 2, d.ck, _, .ref p.o 0, ⟨⟨_, hq, rfl⟩, gA _, .inr (dW hp _)⟩, ?_⟩;and_intros<;>(try omega);apply Y;simp only [List.drop];simp[hq,hnn,hpo,aI hpo,List.set_set];and_intros<;>(try omega);apply Z;refine zr ⟨[20,22],[3],[],[],[]⟩ fun _ _ Z=>?_;simp[hq,hnn,hpo,aI hpo,List.set_set];and_intros<;>(try omega);apply Z;refine zi ?_;refine ⟨fun c1=>?_,fun c1=>?_⟩
 ·try simp at c1
  refine zk [3,4] ?_;refine zt ⟨[20,22],[3],[],[],[]⟩ fun _ _ Z=>?_;refine aA 6 fun _ Y=>?_;simp[hq,hnn,hpo,aI hpo,List.set_set];and_intros<;>(try omega);apply Y;simp only [List.drop];refine aF fun _ Y=>?_;simp[hq,hnn,hpo,aI hpo,List.set_set];refine cO (Hm p.n.kids (fun k => decide (k = n.n.ID)) 122 [.adr [.ref n.o 0]] _ (by omega) (by simp) (by simp) (fun x τ h => aCn x n.o n.n τ (Wo h (hn2 _)))) ?_;apply Y;simp[hq,hnn,hpo,aI hpo,List.set_set];and_intros<;>(try omega);apply Z;simp [aM, eP, eQ]
 ·simp at c1
theorem Mb (m M : Nat) (d : DS) (id at_ : Int) (σ : List (List D)) (ho : DO m M d σ) (hno : dU d.l id = false) : Ct Tryz.prog 46 [.ref m 0, D.int id, D.int at_] σ (fun r σ' => r = .int 11 ∧ σ' = σ) := by
 refine zf (rs:=[.tmp 6]) Tryz.func46 Tryz.ntmps46 Tryz.results46 ?_;simp only [aQ];have hq := ho.hm;refine zr ⟨[62],[],[],[],[]⟩ fun _ _ Z=>?_;simp[hq];and_intros<;>(try omega);apply Z;refine zr ⟨[62],[],[],[],[]⟩ fun _ _ Z=>?_;refine aA 6 fun _ Y=>?_;simp[hq];refine ⟨m, 2, d.ck, _, .v (.pointer none), ⟨⟨_, hq, rfl⟩, gA _, .inl (kY hno _)⟩, ?_⟩;and_intros<;>(try omega);apply Y;simp only [List.drop];simp[hq];and_intros<;>(try omega);apply Z;apply aD;apply aK;refine zr ⟨[62],[],[],[],[]⟩ fun _ _ Z=>?_;simp[hq];and_intros<;>(try omega);apply Z;refine zi ?_;refine ⟨fun c1=>?_,fun c1=>?_⟩
 ·try simp at c1
  refine zr ⟨[62],[],[],[],[]⟩ fun _ _ Z=>?_;simp[hq];and_intros<;>(try omega);apply Z;apply aC;apply aU;apply aJ;simp [aM]
 ·simp at c1
theorem Sa (m M : Nat) (d : DS) (n : EN) (at_ : Int) (σ : List (List D)) (ho : DO m M d σ) (hn : n ∈ d.es) (hpar : n.n.parent = -1) : Ct Tryz.prog 46 [.ref m 0, D.int n.n.ID, D.int at_] σ (fun r σ' => r = .int 1 ∧ σ' = σ) := by
 refine zf (rs:=[.tmp 6]) Tryz.func46 Tryz.ntmps46 Tryz.results46 ?_;simp only [aQ];have hq := ho.hm;have hnn := ho.hn n hn;refine zr ⟨[62],[],[],[],[]⟩ fun _ _ Z=>?_;simp[hq,hnn,hpar];and_intros<;>(try omega);apply Z;refine zr ⟨[62],[],[],[],[]⟩ fun _ _ Z=>?_;refine aA 6 fun _ Y=>?_;simp[hq,hnn,hpar];refine ⟨m, 2, d.ck, _, .ref n.o 0, ⟨⟨_, hq, rfl⟩, gA _, .inr (dW hn _)⟩, ?_⟩;and_intros<;>(try omega);apply Y;simp only [List.drop];simp[hq,hnn,hpar];and_intros<;>(try omega);apply Z;apply aD;apply aK;refine zr ⟨[62],[],[],[],[]⟩ fun _ _ Z=>?_;simp[hq,hnn,hpar];and_intros<;>(try omega);apply Z;refine zi ?_;refine ⟨fun c1=>?_,fun c1=>?_⟩
 ·simp at c1
 ·try simp at c1
  refine zk [0,1,2,6,7] ?_;refine zd ⟨[62],[],[],[],[]⟩ [.op {},.op {},.op {},.op {rO:=true},.op {},.op {},.op {},.op {},.op {},.op {},.op {},.op {},.op {},.op {},.op {rO:=true},.op {},.op {},.op {},.op {rO:=true},.op {rO:=true},.op {},.op {},.op {rO:=true},.op {},.op {},.op {},.op {}] fun all hall _ Z=>?_;have ga5 : aR all 5 = some 24 := hall 5;have ga9 : aR all 9 = some 28 := hall 9;refine aO 6 (by simp) fun _ Y=>?_;simp[hq,hnn,hpar,ga5,ga9];and_intros<;>(try omega);apply Y;simp only [List.drop];refine fI 24 (by simp <;> rfl) ?_;refine ⟨fun g2 => ?_, fun g2 => ?_⟩
  ·try simp at g2
   refine aO 4 (by simp) fun _ Y=>?_;simp[hq,hnn,hpar,ga5,ga9];and_intros<;>(try omega);apply Y;simp only [List.drop];refine aO 8 (by simp) fun _ Y=>?_;simp[hq,hnn,hpar,ga5,ga9];and_intros<;>(try omega);apply Y;simp only [List.drop];refine aO 8 (by simp) fun _ Y=>?_;simp[hq,hnn,hpar,ga5,ga9];and_intros<;>(try omega);apply Y;simp only [List.drop];simp[hq,hnn,hpar,ga5,ga9];and_intros<;>(try omega);apply Z;refine bT (t := true) (by simp) (fun _ => ?_) (fun h => by cases h);refine zk [0,1,2,6,7] ?_;refine zr ⟨[62],[],[],[],[]⟩ fun _ _ Z=>?_;simp[hq,hnn,hpar];and_intros<;>(try omega);apply Z;apply aC;apply aU;apply aJ;simp [aM]
  ·simp at g2
theorem Wq (m M : Nat) (d : DS) (p n : EN) (at_ : Int) (σ : List (List D)) (ho : DO m M d σ) (hp : p ∈ d.es) (hn : n ∈ d.es) (hpp : p.n.ID = n.n.parent) (hoo : n.o ≠ p.o) (hlen : p.n.kids.length ≤ 1000) (hnn1 : ¬ n.n.parent = -1) (hnd : p.n.kids.Nodup) : Ct Tryz.prog 46 [.ref m 0, D.int n.n.ID, D.int at_] σ (fun r σ' => (r = D.int 1 ∧ (at_ < 0 ∨ (p.n.kids.length : Int) ≤ at_) ∧ σ' = σ) ∨ (r = D.int 0 ∧ ¬ (at_ < 0 ∨ (p.n.kids.length : Int) ≤ at_) ∧ ∃ i : Nat, at_ = i ∧ σ' = σ.set p.o (dC (eP p.n (dV (eQ p.n.kids n.n.ID) i n.n.ID))))) := by
 refine zf (rs:=[.tmp 6]) Tryz.func46 Tryz.ntmps46 Tryz.results46 ?_;simp only [aQ];have hq := ho.hm;have hnn := ho.hn n hn;have hpo := ho.hn p hp;have hn2 : ∀ a, (σ.set p.o a)[n.o]? = some (dC n.n) := fun a => by rw [List.getElem?_set_ne (Ne.symm hoo)]; exact hnn
 have hqp : ∀ a, (σ.set p.o a)[m]? = some (jI M d) := fun a => by rw [List.getElem?_set_ne (ho.nm p hp)]; exact hq
 have hrl := mT p.n.kids n.n.ID;have hrg := Cb hnd n.n.ID;refine zr ⟨[61,62,65],[],[],[42],[]⟩ fun _ _ Z=>?_;simp[hq,hnn,hpo,hqp,hn2,hnn1,aI hpo,List.set_set];and_intros<;>(try omega);apply Z;refine zr ⟨[61,62,65],[],[],[42],[]⟩ fun _ _ Z=>?_;refine aA 6 fun _ Y=>?_;simp[hq,hnn,hpo,hqp,hn2,hnn1,aI hpo,List.set_set];refine ⟨m, 2, d.ck, _, .ref n.o 0, ⟨⟨_, hq, rfl⟩, gA _, .inr (dW hn _)⟩, ?_⟩;and_intros<;>(try omega);apply Y;simp only [List.drop];simp[hq,hnn,hpo,hqp,hn2,hnn1,aI hpo,List.set_set];and_intros<;>(try omega);apply Z;apply aD;apply aK;refine zr ⟨[61,62,65],[],[],[42],[]⟩ fun _ _ Z=>?_;simp[hq,hnn,hpo,hqp,hn2,hnn1,aI hpo,List.set_set];and_intros<;>(try omega);apply Z;refine zi ?_;refine ⟨fun c1=>?_,fun c1=>?_⟩
 ·simp at c1
 ·try simp at c1
  refine zk [0,1,2,6,7] ?_;refine zd ⟨[61,62,65],[],[],[42],[]⟩ [.op {},.op {},.op {},.op {rO:=true},.op {},.op {},.op {},.op {},.op {},.op {},.op {},.op {},.op {},.op {},.op {rO:=true},.op {},.op {},.op {},.op {rO:=true},.op {rO:=true},.op {},.op {},.op {rO:=true},.op {},.op {},.op {},.op {}] fun all hall _ Z=>?_;have ga5 : aR all 5 = some 24 := hall 5;have ga9 : aR all 9 = some 28 := hall 9;refine aO 6 (by simp) fun _ Y=>?_;simp[hq,hnn,hpo,hqp,hn2,hnn1,aI hpo,List.set_set,ga5,ga9];and_intros<;>(try omega);apply Y;simp only [List.drop];refine fI 24 (by simp <;> rfl) ?_;refine ⟨fun g2 => ?_, fun g2 => ?_⟩
  ·simp at g2
  ·try simp at g2
   refine aO 4 (by simp) fun _ Y=>?_;simp[hq,hnn,hpo,hqp,hn2,hnn1,aI hpo,List.set_set,ga5,ga9];and_intros<;>(try omega);apply Y;simp only [List.drop];refine fI 28 (by simp <;> rfl) ?_;refine ⟨fun g3 => ?_, fun g3 => ?_⟩
   ·try simp at g3
    refine aO 8 (by simp) fun _ Y=>?_;simp[hq,hnn,hpo,hqp,hn2,hnn1,aI hpo,List.set_set,ga5,ga9];and_intros<;>(try omega);apply Y;simp only [List.drop];refine aO 8 (by simp) fun _ Y=>?_;simp[hq,hnn,hpo,hqp,hn2,hnn1,aI hpo,List.set_set,ga5,ga9];and_intros<;>(try omega);apply Y;simp only [List.drop];simp[hq,hnn,hpo,hqp,hn2,hnn1,aI hpo,List.set_set,ga5,ga9];and_intros<;>(try omega);apply Z;refine bT (t := true) (by simp) (fun _ => ?_) (fun h => by cases h);refine zk [0,1,2,6,7] ?_;refine zr ⟨[61,62,65],[],[],[42],[]⟩ fun _ _ Z=>?_;simp[hq,hnn,hpo,hqp,hn2,hnn1,aI hpo,List.set_set];and_intros<;>(try omega);apply Z;apply aC;apply aU;apply aJ;simp [aM];exact .inl g3
   ·try simp at g3
    refine aO 8 (by simp) fun _ Y=>?_;simp[hq,hnn,hpo,hqp,hn2,hnn1,aI hpo,List.set_set,ga5,ga9];and_intros<;>(try omega);apply Y;simp only [List.drop];refine aO 2 (by simp) fun _ Y=>?_;simp[hq,hnn,hpo,hqp,hn2,hnn1,aI hpo,List.set_set,ga5,ga9];rw [← hpp];refine ⟨m, 2, d.ck, _, .ref p.o 0, ⟨⟨_, hq, rfl⟩, gA _, .inr (dW hp _)⟩, ?_⟩;and_intros<;>(try omega);apply Y;simp only [List.drop];simp[hq,hnn,hpo,hqp,hn2,hnn1,aI hpo,List.set_set,ga5,ga9];and_intros<;>(try omega);apply Z;refine zi ?_;refine ⟨fun c4=>?_,fun c4=>?_⟩
    ·try simp at c4
     refine zk [0,1,2,6,7] ?_;refine zr ⟨[61,62,65],[],[],[42],[]⟩ fun _ _ Z=>?_;simp[hq,hnn,hpo,hqp,hn2,hnn1,aI hpo,List.set_set];and_intros<;>(try omega);apply Z;apply aC;apply aU;apply aJ;simp [aM];exact .inr c4
    ·try simp at c4
     obtain ⟨i, rfl⟩ : ∃ i : Nat, at_ = i := ⟨at_.toNat, by omega⟩;apply aG;apply aP;apply aB;refine zk [0,1,2,6,7] ?_;refine zr ⟨[61,62,65],[],[],[42],[]⟩ fun _ _ Z=>?_;refine aA 2 fun _ Y=>?_;simp[hq,hnn,hpo,hqp,hn2,hnn1,aI hpo,List.set_set];and_intros<;>(try omega);apply Y;simp only [List.drop];refine aF fun _ Y=>?_;simp[hq,hnn,hpo,hqp,hn2,hnn1,aI hpo,List.set_set];refine cO (Vy m M d p n _ ho hp hn hpp hoo hlen) ?_;apply Y;simp only [dZ];apply Z;refine zd ⟨[61,62,65],[],[],[42],[]⟩ [.op {},.op {},.op {},.op {rO:=true},.op {},.op {},.op {},.op {rO:=true},.op {rO:=true},.op {}] fun all hall _ Z=>?_;refine aO 8 (by simp) fun _ Y=>?_;simp[hq,hnn,hpo,hqp,hn2,hnn1,aI hpo,List.set_set];and_intros<;>(try omega);apply Y;simp only [List.drop];refine aO 1 (by simp) fun _ Y=>?_;simp[hq,hnn,hpo,hqp,hn2,hnn1,aI hpo,List.set_set];rw [← hpp];refine ⟨m, 2, d.ck, _, .ref p.o 0, ⟨⟨_, hqp _, rfl⟩, gA _, .inr (dW hp _)⟩, ?_⟩;and_intros<;>(try omega);apply Y;simp only [List.drop];simp[hq,hnn,hpo,hqp,hn2,hnn1,aI hpo,List.set_set];and_intros<;>(try omega);apply Z;refine zk [1,2,6,8] ?_;refine zr ⟨[61,62,65],[],[],[42],[]⟩ fun _ _ Z=>?_;refine aA 8 fun _ Y=>?_;simp[hq,hnn,hpo,hqp,hn2,hnn1,aI hpo,List.set_set];and_intros<;>(try omega);apply Y;simp only [List.drop];refine aF fun _ Y=>?_;simp[hq,hnn,hpo,hqp,hn2,hnn1,aI hpo,List.set_set];refine cO (Jm (eQ p.n.kids n.n.ID) n.n.ID i _ (by omega) (by omega)) ?_;apply Y;simp[hq,hnn,hpo,hqp,hn2,hnn1,aI hpo,List.set_set];and_intros<;>(try omega);apply Z;refine zk [6] ?_;refine zr ⟨[61,62,65],[],[],[42],[]⟩ fun _ _ Z=>?_;simp[hq,hnn,hpo,hqp,hn2,hnn1,aI hpo,List.set_set];and_intros<;>(try omega);apply Z;apply aC;simp [aM, eP];exact ⟨by omega, i, rfl, rfl⟩
end Go.Proofs.YtpfmpeaekgdgnaaGreat
namespace Go.Proofs.YtpfmpeaekgdgnaaGreat
open Go Go.Vm
set_option maxRecDepth 20000
set_option linter.all false
set_option maxHeartbeats 8000000
def mZ (d : DS) (g : List Int) : DS := { d with es := d.es.filter fun e => !g.any fun k => decide (k = e.n.ID) }
theorem Ud (d : DS) : mZ d [] = d := by
 cases d; simp [mZ]
theorem vO : ∀ (es : List EN) (K : Int), (es.map fun e => e.n.ID).Nodup → ∀ (i : Nat) (h : i < es.length), es[i].n.ID = K → (es.filter fun e => !decide (K = e.n.ID)) = es.eraseIdx i
 | [], K, _, i, h, _ => by simp at h
 | e :: es, K, hn, 0, h, he => by
  have hn' := List.nodup_cons.1 (show (e.n.ID :: es.map fun e => e.n.ID).Nodup from hn);simp only [List.getElem_cons_zero] at he;subst he;rw [List.filter_cons, if_neg (by simp), List.eraseIdx_cons_zero, List.filter_eq_self];intro a ha;have : e.n.ID ≠ a.n.ID := fun e2 => hn'.1 (by rw [e2]; exact List.mem_map.2 ⟨a, ha, rfl⟩);simp [this]
 | e :: es, K, hn, i + 1, h, he => by
  have hn' := List.nodup_cons.1 (show (e.n.ID :: es.map fun e => e.n.ID).Nodup from hn);simp only [List.getElem_cons_succ] at he;have : K ≠ e.n.ID := fun e2 => hn'.1 (by rw [← e2, ← he]; exact List.mem_map.2 ⟨es[i]'(by simpa using h), List.getElem_mem _, rfl⟩);rw [List.filter_cons, if_pos (by simpa using this), List.eraseIdx_cons_succ, vO es K hn'.2 i (by simpa using h) he]
theorem pR {α β : Type} (f : α → β) : ∀ (l : List α) (i : Nat), (l.eraseIdx i).map f = (l.map f).eraseIdx i
 | [], i => by simp
 | a :: l, 0 => by simp
 | a :: l, i + 1 => by simp [pR f l i]
theorem aAg {es : List EN} {K : Int} (hn : (es.map fun e => e.n.ID).Nodup) : aDv (es.map sA) (.int .i64 K) ((es.filter fun e => !decide (K = e.n.ID)).map sA) := by
 by_cases h : ∃ e ∈ es, e.n.ID = K
 ·obtain ⟨e, he, hK⟩ := h;obtain ⟨i, hi, rfl⟩ := List.getElem_of_mem he;refine .inl ⟨i, es[i].t, .ref es[i].o 0, ?_, ?_⟩
  ·rw [List.getElem?_map, List.getElem?_eq_getElem hi, ← hK]; rfl
  ·rw [vO es K hn i hi hK, pR]
 ·have hne : ∀ e ∈ es, e.n.ID ≠ K := fun e he hK => h ⟨e, he, hK⟩;refine .inr ⟨fun kv hkv h2 => ?_, ?_⟩
  ·obtain ⟨e, he, rfl⟩ := List.mem_map.1 hkv;simp only [sA, Value.int.injEq, true_and] at h2;exact hne e he h2
  ·rw [show (es.filter fun e => !decide (K = e.n.ID)) = es from by
    rw [List.filter_eq_self]; intro a ha; have := hne a ha; simp; exact fun e => this e.symm]
theorem Pi (d : DS) (g : List Int) (j : Nat) (h : j < g.length) : (mZ d (g.take (j + 1))).es = (mZ d (g.take j)).es.filter fun e => !decide (g[j] = e.n.ID) := by
 unfold mZ;simp only [List.filter_filter];apply List.filter_congr;intro e _;rw [cV g j h, List.any_append];simp only [List.any_cons, List.any_nil, Bool.or_false, Bool.not_or];rw [Bool.and_comm]
theorem Ww {d : DS} (h : (d.es.map fun e => e.n.ID).Nodup) (g : List Int) : ((mZ d g).es.map fun e => e.n.ID).Nodup :=
 h.sublist (List.Sublist.map _ List.filter_sublist)
theorem Pp (m M : Nat) (d : DS) (id : Int) (σ : List (List D)) (ho : DO m M d σ) (hno : dU d.l id = false) : Ct Tryz.prog 48 [.ref m 0, D.int id] σ (fun r σ' => r = .int 11 ∧ σ' = σ) := by
 refine zf (rs:=[.tmp 4]) Tryz.func48 Tryz.ntmps48 Tryz.results48 ?_;simp only [aQ];have hq := ho.hm;refine aZ fun _ _ Z=>?_;simp[hq];and_intros<;>(try omega);apply Z;refine aZ fun _ _ Z=>?_;refine aA 6 fun _ Y=>?_;simp[hq];refine ⟨m, 2, d.ck, _, .v (.pointer none), ⟨⟨_, hq, rfl⟩, gA _, .inl (kY hno _)⟩, ?_⟩;and_intros<;>(try omega);apply Y;simp only [List.drop];simp[hq];and_intros<;>(try omega);apply Z;apply aD;apply aK;refine aZ fun _ _ Z=>?_;simp[hq];and_intros<;>(try omega);apply Z;refine zi ?_;refine ⟨fun c1=>?_,fun c1=>?_⟩
 ·try simp at c1
  refine aZ fun _ _ Z=>?_;simp[hq];and_intros<;>(try omega);apply Z;apply aC;apply aU;apply aJ;simp [aM]
 ·simp at c1
theorem Yw (m M : Nat) (d : DS) (n : EN) (σ : List (List D)) (ho : DO m M d σ) (hn : n ∈ d.es) (h0 : n.n.ID = 0) : Ct Tryz.prog 48 [.ref m 0, D.int n.n.ID] σ (fun r σ' => r = .int 1 ∧ σ' = σ) := by
 refine zf (rs:=[.tmp 4]) Tryz.func48 Tryz.ntmps48 Tryz.results48 ?_;simp only [aQ];have hq := ho.hm;refine aZ fun _ _ Z=>?_;simp[hq];and_intros<;>(try omega);apply Z;refine aZ fun _ _ Z=>?_;refine aA 6 fun _ Y=>?_;simp[hq];refine ⟨m, 2, d.ck, _, .ref n.o 0, ⟨⟨_, hq, rfl⟩, gA _, .inr (dW hn _)⟩, ?_⟩;and_intros<;>(try omega);apply Y;simp only [List.drop];simp[hq];and_intros<;>(try omega);apply Z;apply aD;apply aK;refine aZ fun _ _ Z=>?_;simp[hq];and_intros<;>(try omega);apply Z;refine zi ?_;refine ⟨fun c1=>?_,fun c1=>?_⟩
 ·simp at c1
 ·try simp at c1
  refine aZ fun _ _ Z=>?_;simp[hq];and_intros<;>(try omega);apply Z;refine zi ?_;refine ⟨fun c2=>?_,fun c2=>?_⟩
  ·try simp at c2
   refine zk [0,1,4,5] ?_;refine aZ fun _ _ Z=>?_;simp[hq];and_intros<;>(try omega);apply Z;apply aC;apply aU;apply aJ;simp [aM]
  ·try simp at c2
   exact absurd h0 c2
theorem aAd (m M : Nat) (d d1 : DS) (n : EN) (σ1 : List (List D)) (bel : Int → List Int) (rk : Int → Nat) (σ : List (List D)) (ho : DO m M d σ) (hn : n ∈ d.es) (h0 : ¬ n.n.ID = 0) (hlv : Ct Tryz.prog 86 [.ref m 0, .ref n.o 0] σ (fun r σ' => r = .tup [] ∧ σ' = σ1)) (ho1 : DO m M d1 σ1) (hw1 : WD d1 bel rk) (hid : dU d1.l n.n.ID = true) (hnd : (d1.es.map fun e => e.n.ID).Nodup) : Ct Tryz.prog 48 [.ref m 0, D.int n.n.ID] σ (fun r σ' => r = D.int 0 ∧ ∃ J, σ' = σ1.set m (jI M (mZ d1 (bel n.n.ID))) ++ J) := by
 refine zf (rs:=[.tmp 4]) Tryz.func48 Tryz.ntmps48 Tryz.results48 ?_;simp only [aQ];have hq := ho.hm;have hq1 := ho1.hm;have hbl3 := hw1.tr.len n.n.ID;refine zr ⟨[],[],[6],[29,32],[]⟩ fun _ _ Z=>?_;simp (disch:=omega)[hq,hq1,hbl3,bH,bE,bI,bL hq1,bV hq1,aT,aS,aN,aH,aE];and_intros<;>(try omega);apply Z;refine zr ⟨[],[],[6],[29,32],[]⟩ fun _ _ Z=>?_;refine aA 6 fun _ Y=>?_;simp (disch:=omega)[hq,hq1,hbl3,bH,bE,bI,bL hq1,bV hq1,aT,aS,aN,aH,aE];refine ⟨m, 2, d.ck, _, .ref n.o 0, ⟨⟨_, hq, rfl⟩, gA _, .inr (dW hn _)⟩, ?_⟩;and_intros<;>(try omega);apply Y;simp only [List.drop];simp (disch:=omega)[hq,hq1,hbl3,bH,bE,bI,bL hq1,bV hq1,aT,aS,aN,aH,aE];and_intros<;>(try omega);apply Z;apply aD;apply aK;refine zr ⟨[],[],[6],[29,32],[]⟩ fun _ _ Z=>?_;simp (disch:=omega)[hq,hq1,hbl3,bH,bE,bI,bL hq1,bV hq1,aT,aS,aN,aH,aE];and_intros<;>(try omega);apply Z;refine zi ?_;refine ⟨fun c1=>?_,fun c1=>?_⟩
 ·simp at c1
 ·try simp at c1
  refine zr ⟨[],[],[6],[29,32],[]⟩ fun _ _ Z=>?_;simp (disch:=omega)[hq,hq1,hbl3,bH,bE,bI,bL hq1,bV hq1,aT,aS,aN,aH,aE];and_intros<;>(try omega);apply Z;refine zi ?_;refine ⟨fun c2=>?_,fun c2=>?_⟩
  ·try simp at c2
   exact absurd c2 h0
  ·try simp at c2
   apply aG;apply aP;apply aB;refine zk [0,1,4,5] ?_;refine zr ⟨[],[],[6],[29,32],[]⟩ fun _ _ Z=>?_;refine aA 2 fun _ Y=>?_;simp (disch:=omega)[hq,hq1,hbl3,bH,bE,bI,bL hq1,bV hq1,aT,aS,aN,aH,aE];and_intros<;>(try omega);apply Y;simp only [List.drop];refine aF fun _ Y=>?_;simp (disch:=omega)[hq,hq1,hbl3,bH,bE,bI,bL hq1,bV hq1,aT,aS,aN,aH,aE];refine cO (hlv) ?_;apply Y;simp only [dZ];apply Z;refine zr ⟨[],[],[6],[29,32],[]⟩ fun _ _ Z=>?_;simp (disch:=omega)[hq,hq1,hbl3,bH,bE,bI,bL hq1,bV hq1,aT,aS,aN,aH,aE];and_intros<;>(try omega);apply Z;refine qQ σ1.length 0 1 (by simp [aH]; rfl) rfl ?_;simp only [aE, List.set_cons_zero];refine zr ⟨[],[],[6],[29,32],[]⟩ fun _ _ Z=>?_;refine aA 3 fun _ Y=>?_;simp (disch:=omega)[hq,hq1,hbl3,bH,bE,bI,bL hq1,bV hq1,aT,aS,aN,aH,aE];and_intros<;>(try omega);apply Y;simp only [List.drop];refine aF fun _ Y=>?_;simp (disch:=omega)[hq,hq1,hbl3,bH,bE,bI,bL hq1,bV hq1,aT,aS,aN,aH,aE];refine cO (Ji m M σ1.length 88 d1 bel rk n.n.ID [] _ (Nz σ1.length) (EF.of ho1 hw1 (Nat.le_refl _)) hid (EO.of ho1 hw1 n.n.ID)) ?_;simp only [aE, List.set_cons_zero, List.nil_append];apply Y;simp only [dZ];apply Z;apply aD;refine iI σ1.length 0 1 (es := (bel n.n.ID).map D.int) (by simp [aH]; rfl) rfl (by decide) fun cap rest hcap hcm hrest hes => ?_;simp only [List.length_map, aE, List.set_cons_zero, List.length_append, List.length_cons, List.length_nil, Nat.zero_add, List.append_assoc, List.cons_append, List.nil_append] at hcap hrest ⊢;rw [dQ (f := D.int) (fun _ => rfl)];refine zk [0,4,6] ?_;refine zr ⟨[],[],[6],[29,32],[]⟩ fun _ _ Z=>?_;simp (disch:=omega)[hq,hq1,hbl3,bH,bE,bI,bL hq1,bV hq1,aT,aS,aN,aH,aE];and_intros<;>(try omega);apply Z;apply aK;refine zk [0,4,28,29,30] ?_;refine kF (fun (j : Nat) => [(30, .d (.v (.int .i64 (j : Int)))), (8, .d (.any))]) (fun (j : Nat) => []) (fun (j : Nat) => σ1.set m (jI M (mZ d1 ((bel n.n.ID).take j))) ++ [[.slo (σ1.length + 1) 0 (bel n.n.ID).length cap], (bel n.n.ID).map D.int ++ rest]) [8, 30, 31, 32, 33, 34, 35, 36, 37, 38, 39] (fun (j : Nat) => j ≤ (bel n.n.ID).length) (fun (j : Nat) => (bel n.n.ID).length - j) (0) (by simp <;> rfl) ?_ (by simp) (by rw [List.take_zero, Ud, gW hq1]) ?_ ?_
   ·simp
   ·simp
   rintro j hj;simp only [List.cons_append, List.nil_append];refine zr ⟨[],[],[6],[29,32],[]⟩ fun _ _ Z=>?_;simp (disch:=omega)[hq,hq1,hbl3,bH,bE,bI,bL hq1,bV hq1,aT,aS,aN,aH,aE];and_intros<;>(try omega);apply Z;apply aD;refine zi ?_;refine ⟨fun c3=>?_,fun c3=>?_⟩
   ·try simp at c3
    have hjj : j < (bel n.n.ID).length := by omega
    apply aG;apply aB;apply aD;apply aK;refine zr ⟨[],[],[6],[29,32],[]⟩ fun _ _ Z=>?_;simp (disch:=omega)[hq,hq1,hbl3,bH,bE,bI,bL hq1,bV hq1,aT,aS,aN,aH,aE];and_intros<;>(try omega);apply Z;refine zt ⟨[],[],[6],[29,32],[]⟩ fun _ _ Z=>?_;simp (disch:=omega)[hq,hq1,hbl3,bH,bE,bI,bL hq1,bV hq1,aT,aS,aN,aH,aE];refine ⟨m, 2, d1.ck, _, _, ⟨⟨_, bL hq1 _ _, rfl⟩, gA _, aAg (Ww hnd _)⟩, ?_⟩;rw [uY (bL hq1 _ _), bV hq1, ← Pi d1 (bel n.n.ID) j hjj];and_intros<;>(try omega);apply Z;apply aP;apply aB;refine zk [0,4,8,28,29,30] ?_;refine zt ⟨[],[],[6],[29,32],[]⟩ fun _ _ Z=>?_;simp (disch:=omega)[hq,hq1,hbl3,bH,bE,bI,bL hq1,bV hq1,aT,aS,aN,aH,aE];and_intros<;>(try omega);apply Z;refine bB (j + 1) ?_ ?_ (aW rfl ?_ (by simp) (by simp [jI, mZ]))
    ·omega
    ·try dsimp only
     omega
    ·simp (disch:=omega)[hq,hq1,hbl3,bH,bE,bI,bL hq1,bV hq1,aT,aS,aN,aH,aE]
   ·try simp at c3
    obtain rfl : j = (bel n.n.ID).length := by omega
    rw [List.take_length];apply bN;apply bP;apply bO;apply bG;apply aB;refine zr ⟨[],[],[6],[29,32],[]⟩ fun _ _ Z=>?_;simp (disch:=omega)[hq,hq1,hbl3,bH,bE,bI,bL hq1,bV hq1,aT,aS,aN,aH,aE];and_intros<;>(try omega);apply Z;apply aC;simp [aM]
end Go.Proofs.YtpfmpeaekgdgnaaGreat

