import Derived.Test.YtpfmpeaekgdgnaaGreatWkAr12
namespace Go.Proofs.YtpfmpeaekgdgnaaGreat
open Go Go.Vm
set_option maxRecDepth 20000
set_option linter.all false
set_option maxHeartbeats 8000000
theorem Zz (k : Int) (o : Nat) (n : ND) (σ : List (List D)) (hnn : σ[o]? = some (dD n)) : Ct Tryz.prog 122 [D.int k, .adr [.ref o 0]] σ (fun r σ' => r = .bool (decide (k = n.ID)) ∧ σ' = σ) := by
 refine zf (rs:=[.tmp 3]) Tryz.func122 Tryz.ntmps122 Tryz.results122 ?_;simp only [aQ];refine bC fun _ _ Z=>?_;simp[hnn];and_intros<;>(try omega);apply Z;refine bC fun _ _ Z=>?_;simp[hnn];and_intros<;>(try omega);apply Z;apply aE;simp [aN]
theorem Wt {σ τ : List (List D)} {i : Nat} {a : List D} (h : σ <+: τ) (hi : σ[i]? = some a) : τ[i]? = some a := by
 obtain ⟨J, rfl⟩ := h; exact bZ hi J
def Ax (es : List EN) (o : Nat) (n : ND) : List EN := es.map fun e => if e.o = o then { e with n := n } else e
def nU (d : DS) (o : Nat) (n : ND) : DS := { d with es := Ax d.es o n }
theorem Zu (m M : Nat) (d : DS) (n : EN) (σ : List (List D)) (ho : DO m M d σ) (hn : n ∈ d.es) (hno : dQ d.l n.n.parent = false) : Ct Tryz.prog 86 [.ref m 0, .ref n.o 0] σ (fun r σ' => r = .tup [] ∧ σ' = σ) := by
 refine zf (rs:=[]) Tryz.func86 Tryz.ntmps86 Tryz.results86 ?_;simp only [aQ];have hq := ho.hm;have hnn := ho.hn n hn;refine zr ⟨[],[3],[],[],[]⟩ fun _ _ Z=>?_;simp[hq,hnn];and_intros<;>(try omega);apply Z;refine zd ⟨[],[3],[],[],[]⟩ [.op {},.op {},.op {},.op {rO:=true},.op {},.op {},.op {},.op {rO:=true},.op {rO:=true},.op {}] fun all hall _ Z=>?_;refine aR 8 (by simp) fun _ Y=>?_;simp[hq,hnn];and_intros<;>(try omega);apply Y;simp only [List.drop];refine aR 1 (by simp) fun _ Y=>?_;simp[hq,hnn];refine ⟨m, 2, d.ck, _, .v (.pointer none), ⟨⟨_, hq, rfl⟩, fZ _, .inl (kP hno _)⟩, ?_⟩;and_intros<;>(try omega);apply Y;simp only [List.drop];simp[hq,hnn];and_intros<;>(try omega);apply Z;refine zr ⟨[],[3],[],[],[]⟩ fun _ _ Z=>?_;simp[hq,hnn];and_intros<;>(try omega);apply Z;refine zi ?_;refine ⟨fun c1=>?_,fun c1=>?_⟩
 ·simp at c1
 ·try simp at c1
  apply aH;simp [aN]
theorem Oz (m M : Nat) (d : DS) (p n : EN) (σ : List (List D)) (ho : DO m M d σ) (hp : p ∈ d.es) (hn : n ∈ d.es) (hpp : p.n.ID = n.n.parent) (hoo : n.o ≠ p.o) (hlen : p.n.kids.length ≤ 1000) : Ct Tryz.prog 86 [.ref m 0, .ref n.o 0] σ (fun r σ' => r = .tup [] ∧ σ' = σ.set p.o (dD (eM p.n (eN p.n.kids n.n.ID)))) := by
 refine zf (rs:=[]) Tryz.func86 Tryz.ntmps86 Tryz.results86 ?_;simp only [aQ];have hq := ho.hm;have hnn := ho.hn n hn;have hpo := ho.hn p hp;have hn2 : ∀ a, (σ.set p.o a)[n.o]? = some (dD n.n) := fun a => by rw [List.getElem?_set_ne (Ne.symm hoo)]; exact hnn
 refine zr ⟨[20,22],[3],[],[],[]⟩ fun _ _ Z=>?_;simp[hq,hnn,hpo,aJ hpo,List.set_set];and_intros<;>(try omega);apply Z;refine zd ⟨[20,22],[3],[],[],[]⟩ [.op {},.op {},.op {},.op {rO:=true},.op {},.op {},.op {},.op {rO:=true},.op {rO:=true},.op {}] fun all hall _ Z=>?_;refine aR 8 (by simp) fun _ Y=>?_;simp[hq,hnn,hpo,aJ hpo,List.set_set];and_intros<;>(try omega);apply Y;simp only [List.drop];refine aR 1 (by simp) fun _ Y=>?_;simp[hq,hnn,hpo,aJ hpo,List.set_set];rw [← hpp];refine ⟨m, 2, d.ck, _, .ref p.o 0, ⟨⟨_, hq, rfl⟩, fZ _, .inr (dP hp _)⟩, ?_⟩;and_intros<;>(try omega);apply Y;simp only [List.drop];simp[hq,hnn,hpo,aJ hpo,List.set_set];and_intros<;>(try omega);apply Z;refine zr ⟨[20,22],[3],[],[],[]⟩ fun _ _ Z=>?_;simp[hq,hnn,hpo,aJ hpo,List.set_set];and_intros<;>(try omega);apply Z;refine zi ?_;refine ⟨fun c1=>?_,fun c1=>?_⟩
 ·try simp at c1
  refine zk [3,4] ?_;refine zt ⟨[20,22],[3],[],[],[]⟩ fun _ _ Z=>?_;refine aA 6 fun _ Y=>?_;simp[hq,hnn,hpo,aJ hpo,List.set_set];and_intros<;>(try omega);apply Y;simp only [List.drop];refine aG fun _ Y=>?_;simp[hq,hnn,hpo,aJ hpo,List.set_set];refine cO (Fp p.n.kids (fun k => decide (k = n.n.ID)) 122 [.adr [.ref n.o 0]] _ (by omega) (by simp) (by simp) (fun x τ h => Zz x n.o n.n τ (Wt h (hn2 _)))) ?_;apply Y;simp[hq,hnn,hpo,aJ hpo,List.set_set];and_intros<;>(try omega);apply Z;simp [aN, eM, eN]
 ·simp at c1
theorem Lc (m M : Nat) (d : DS) (id at_ : Int) (σ : List (List D)) (ho : DO m M d σ) (hno : dQ d.l id = false) : Ct Tryz.prog 46 [.ref m 0, D.int id, D.int at_] σ (fun r σ' => r = .int 11 ∧ σ' = σ) := by
 refine zf (rs:=[.tmp 6]) Tryz.func46 Tryz.ntmps46 Tryz.results46 ?_;simp only [aQ];have hq := ho.hm;refine zr ⟨[62],[],[],[],[]⟩ fun _ _ Z=>?_;simp[hq];and_intros<;>(try omega);apply Z;refine zr ⟨[62],[],[],[],[]⟩ fun _ _ Z=>?_;refine aA 6 fun _ Y=>?_;simp[hq];refine ⟨m, 2, d.ck, _, .v (.pointer none), ⟨⟨_, hq, rfl⟩, fZ _, .inl (kP hno _)⟩, ?_⟩;and_intros<;>(try omega);apply Y;simp only [List.drop];simp[hq];and_intros<;>(try omega);apply Z;apply aD;apply aK;refine zr ⟨[62],[],[],[],[]⟩ fun _ _ Z=>?_;simp[hq];and_intros<;>(try omega);apply Z;refine zi ?_;refine ⟨fun c1=>?_,fun c1=>?_⟩
 ·try simp at c1
  refine zr ⟨[62],[],[],[],[]⟩ fun _ _ Z=>?_;simp[hq];and_intros<;>(try omega);apply Z;apply aE;apply aV;apply aL;simp [aN]
 ·simp at c1
theorem Om (m M : Nat) (d : DS) (n : EN) (at_ : Int) (σ : List (List D)) (ho : DO m M d σ) (hn : n ∈ d.es) (hpar : n.n.parent = -1) : Ct Tryz.prog 46 [.ref m 0, D.int n.n.ID, D.int at_] σ (fun r σ' => r = .int 1 ∧ σ' = σ) := by
 refine zf (rs:=[.tmp 6]) Tryz.func46 Tryz.ntmps46 Tryz.results46 ?_;simp only [aQ];have hq := ho.hm;have hnn := ho.hn n hn;refine zr ⟨[62],[],[],[],[]⟩ fun _ _ Z=>?_;simp[hq,hnn,hpar];and_intros<;>(try omega);apply Z;refine zr ⟨[62],[],[],[],[]⟩ fun _ _ Z=>?_;refine aA 6 fun _ Y=>?_;simp[hq,hnn,hpar];refine ⟨m, 2, d.ck, _, .ref n.o 0, ⟨⟨_, hq, rfl⟩, fZ _, .inr (dP hn _)⟩, ?_⟩;and_intros<;>(try omega);apply Y;simp only [List.drop];simp[hq,hnn,hpar];and_intros<;>(try omega);apply Z;apply aD;apply aK;refine zr ⟨[62],[],[],[],[]⟩ fun _ _ Z=>?_;simp[hq,hnn,hpar];and_intros<;>(try omega);apply Z;refine zi ?_;refine ⟨fun c1=>?_,fun c1=>?_⟩
 ·simp at c1
 ·try simp at c1
  refine zk [0,1,2,6,7] ?_;refine zd ⟨[62],[],[],[],[]⟩ [.op {},.op {},.op {},.op {rO:=true},.op {},.op {},.op {},.op {},.op {},.op {},.op {},.op {},.op {},.op {},.op {rO:=true},.op {},.op {},.op {},.op {rO:=true},.op {rO:=true},.op {},.op {},.op {rO:=true},.op {},.op {},.op {},.op {}] fun all hall _ Z=>?_;have ga5 : aS all 5 = some 24 := hall 5;have ga9 : aS all 9 = some 28 := hall 9;refine aR 6 (by simp) fun _ Y=>?_;simp[hq,hnn,hpar,ga5,ga9];and_intros<;>(try omega);apply Y;simp only [List.drop];refine fD 24 (by simp <;> rfl) ?_;refine ⟨fun g2 => ?_, fun g2 => ?_⟩
  ·try simp at g2
   refine aR 4 (by simp) fun _ Y=>?_;simp[hq,hnn,hpar,ga5,ga9];and_intros<;>(try omega);apply Y;simp only [List.drop];refine aR 8 (by simp) fun _ Y=>?_;simp[hq,hnn,hpar,ga5,ga9];and_intros<;>(try omega);apply Y;simp only [List.drop];refine aR 8 (by simp) fun _ Y=>?_;simp[hq,hnn,hpar,ga5,ga9];and_intros<;>(try omega);apply Y;simp only [List.drop];simp[hq,hnn,hpar,ga5,ga9];and_intros<;>(try omega);apply Z;refine bR (t := true) (by simp) (fun _ => ?_) (fun h => by cases h);refine zk [0,1,2,6,7] ?_;refine zr ⟨[62],[],[],[],[]⟩ fun _ _ Z=>?_;simp[hq,hnn,hpar];and_intros<;>(try omega);apply Z;apply aE;apply aV;apply aL;simp [aN]
  ·simp at g2
theorem Yh (m M : Nat) (d : DS) (p n : EN) (at_ : Int) (σ : List (List D)) (ho : DO m M d σ) (hp : p ∈ d.es) (hn : n ∈ d.es) (hpp : p.n.ID = n.n.parent) (hoo : n.o ≠ p.o) (hlen : p.n.kids.length ≤ 1000) (hnn1 : ¬ n.n.parent = -1) (hnd : p.n.kids.Nodup) : Ct Tryz.prog 46 [.ref m 0, D.int n.n.ID, D.int at_] σ (fun r σ' => (r = D.int 1 ∧ (at_ < 0 ∨ (p.n.kids.length : Int) ≤ at_) ∧ σ' = σ) ∨ (r = D.int 0 ∧ ¬ (at_ < 0 ∨ (p.n.kids.length : Int) ≤ at_) ∧ ∃ i : Nat, at_ = i ∧ σ' = σ.set p.o (dD (eM p.n (dT (eN p.n.kids n.n.ID) i n.n.ID))))) := by
 refine zf (rs:=[.tmp 6]) Tryz.func46 Tryz.ntmps46 Tryz.results46 ?_;simp only [aQ];have hq := ho.hm;have hnn := ho.hn n hn;have hpo := ho.hn p hp;have hn2 : ∀ a, (σ.set p.o a)[n.o]? = some (dD n.n) := fun a => by rw [List.getElem?_set_ne (Ne.symm hoo)]; exact hnn
 have hqp : ∀ a, (σ.set p.o a)[m]? = some (kM M d) := fun a => by rw [List.getElem?_set_ne (ho.nm p hp)]; exact hq
 have hrl := mL p.n.kids n.n.ID;have hrg := zH hnd n.n.ID;refine zr ⟨[61,62,65],[],[],[42],[]⟩ fun _ _ Z=>?_;simp[hq,hnn,hpo,hqp,hn2,hnn1,aJ hpo,List.set_set];and_intros<;>(try omega);apply Z;refine zr ⟨[61,62,65],[],[],[42],[]⟩ fun _ _ Z=>?_;refine aA 6 fun _ Y=>?_;simp[hq,hnn,hpo,hqp,hn2,hnn1,aJ hpo,List.set_set];refine ⟨m, 2, d.ck, _, .ref n.o 0, ⟨⟨_, hq, rfl⟩, fZ _, .inr (dP hn _)⟩, ?_⟩;and_intros<;>(try omega);apply Y;simp only [List.drop];simp[hq,hnn,hpo,hqp,hn2,hnn1,aJ hpo,List.set_set];and_intros<;>(try omega);apply Z;apply aD;apply aK;refine zr ⟨[61,62,65],[],[],[42],[]⟩ fun _ _ Z=>?_;simp[hq,hnn,hpo,hqp,hn2,hnn1,aJ hpo,List.set_set];and_intros<;>(try omega);apply Z;refine zi ?_;refine ⟨fun c1=>?_,fun c1=>?_⟩
 ·simp at c1
 ·try simp at c1
  refine zk [0,1,2,6,7] ?_;refine zd ⟨[61,62,65],[],[],[42],[]⟩ [.op {},.op {},.op {},.op {rO:=true},.op {},.op {},.op {},.op {},.op {},.op {},.op {},.op {},.op {},.op {},.op {rO:=true},.op {},.op {},.op {},.op {rO:=true},.op {rO:=true},.op {},.op {},.op {rO:=true},.op {},.op {},.op {},.op {}] fun all hall _ Z=>?_;have ga5 : aS all 5 = some 24 := hall 5;have ga9 : aS all 9 = some 28 := hall 9;refine aR 6 (by simp) fun _ Y=>?_;simp[hq,hnn,hpo,hqp,hn2,hnn1,aJ hpo,List.set_set,ga5,ga9];and_intros<;>(try omega);apply Y;simp only [List.drop];refine fD 24 (by simp <;> rfl) ?_;refine ⟨fun g2 => ?_, fun g2 => ?_⟩
  ·simp at g2
  ·try simp at g2
   refine aR 4 (by simp) fun _ Y=>?_;simp[hq,hnn,hpo,hqp,hn2,hnn1,aJ hpo,List.set_set,ga5,ga9];and_intros<;>(try omega);apply Y;simp only [List.drop];refine fD 28 (by simp <;> rfl) ?_;refine ⟨fun g3 => ?_, fun g3 => ?_⟩
   ·try simp at g3
    refine aR 8 (by simp) fun _ Y=>?_;simp[hq,hnn,hpo,hqp,hn2,hnn1,aJ hpo,List.set_set,ga5,ga9];and_intros<;>(try omega);apply Y;simp only [List.drop];refine aR 8 (by simp) fun _ Y=>?_;simp[hq,hnn,hpo,hqp,hn2,hnn1,aJ hpo,List.set_set,ga5,ga9];and_intros<;>(try omega);apply Y;simp only [List.drop];simp[hq,hnn,hpo,hqp,hn2,hnn1,aJ hpo,List.set_set,ga5,ga9];and_intros<;>(try omega);apply Z;refine bR (t := true) (by simp) (fun _ => ?_) (fun h => by cases h);refine zk [0,1,2,6,7] ?_;refine zr ⟨[61,62,65],[],[],[42],[]⟩ fun _ _ Z=>?_;simp[hq,hnn,hpo,hqp,hn2,hnn1,aJ hpo,List.set_set];and_intros<;>(try omega);apply Z;apply aE;apply aV;apply aL;simp [aN];exact .inl g3
   ·try simp at g3
    refine aR 8 (by simp) fun _ Y=>?_;simp[hq,hnn,hpo,hqp,hn2,hnn1,aJ hpo,List.set_set,ga5,ga9];and_intros<;>(try omega);apply Y;simp only [List.drop];refine aR 2 (by simp) fun _ Y=>?_;simp[hq,hnn,hpo,hqp,hn2,hnn1,aJ hpo,List.set_set,ga5,ga9];rw [← hpp];refine ⟨m, 2, d.ck, _, .ref p.o 0, ⟨⟨_, hq, rfl⟩, fZ _, .inr (dP hp _)⟩, ?_⟩;and_intros<;>(try omega);apply Y;simp only [List.drop];simp[hq,hnn,hpo,hqp,hn2,hnn1,aJ hpo,List.set_set,ga5,ga9];and_intros<;>(try omega);apply Z;refine zi ?_;refine ⟨fun c4=>?_,fun c4=>?_⟩
    ·try simp at c4
     refine zk [0,1,2,6,7] ?_;refine zr ⟨[61,62,65],[],[],[42],[]⟩ fun _ _ Z=>?_;simp[hq,hnn,hpo,hqp,hn2,hnn1,aJ hpo,List.set_set];and_intros<;>(try omega);apply Z;apply aE;apply aV;apply aL;simp [aN];exact .inr c4
    ·try simp at c4
     obtain ⟨i, rfl⟩ : ∃ i : Nat, at_ = i := ⟨at_.toNat, by omega⟩;apply aH;apply aP;apply aB;refine zk [0,1,2,6,7] ?_;refine zr ⟨[61,62,65],[],[],[42],[]⟩ fun _ _ Z=>?_;refine aA 2 fun _ Y=>?_;simp[hq,hnn,hpo,hqp,hn2,hnn1,aJ hpo,List.set_set];and_intros<;>(try omega);apply Y;simp only [List.drop];refine aG fun _ Y=>?_;simp[hq,hnn,hpo,hqp,hn2,hnn1,aJ hpo,List.set_set];refine cO (Oz m M d p n _ ho hp hn hpp hoo hlen) ?_;apply Y;simp only [dF];apply Z;refine zd ⟨[61,62,65],[],[],[42],[]⟩ [.op {},.op {},.op {},.op {rO:=true},.op {},.op {},.op {},.op {rO:=true},.op {rO:=true},.op {}] fun all hall _ Z=>?_;refine aR 8 (by simp) fun _ Y=>?_;simp[hq,hnn,hpo,hqp,hn2,hnn1,aJ hpo,List.set_set];and_intros<;>(try omega);apply Y;simp only [List.drop];refine aR 1 (by simp) fun _ Y=>?_;simp[hq,hnn,hpo,hqp,hn2,hnn1,aJ hpo,List.set_set];rw [← hpp];refine ⟨m, 2, d.ck, _, .ref p.o 0, ⟨⟨_, hqp _, rfl⟩, fZ _, .inr (dP hp _)⟩, ?_⟩;and_intros<;>(try omega);apply Y;simp only [List.drop];simp[hq,hnn,hpo,hqp,hn2,hnn1,aJ hpo,List.set_set];and_intros<;>(try omega);apply Z;refine zk [1,2,6,8] ?_;refine zr ⟨[61,62,65],[],[],[42],[]⟩ fun _ _ Z=>?_;refine aA 8 fun _ Y=>?_;simp[hq,hnn,hpo,hqp,hn2,hnn1,aJ hpo,List.set_set];and_intros<;>(try omega);apply Y;simp only [List.drop];refine aG fun _ Y=>?_;simp[hq,hnn,hpo,hqp,hn2,hnn1,aJ hpo,List.set_set];refine cO (Ix (eN p.n.kids n.n.ID) n.n.ID i _ (by omega) (by omega)) ?_;apply Y;simp[hq,hnn,hpo,hqp,hn2,hnn1,aJ hpo,List.set_set];and_intros<;>(try omega);apply Z;refine zk [6] ?_;refine zr ⟨[61,62,65],[],[],[42],[]⟩ fun _ _ Z=>?_;simp[hq,hnn,hpo,hqp,hn2,hnn1,aJ hpo,List.set_set];and_intros<;>(try omega);apply Z;apply aE;simp [aN, eM];exact ⟨by omega, i, rfl, rfl⟩
end Go.Proofs.YtpfmpeaekgdgnaaGreat
namespace Go.Proofs.YtpfmpeaekgdgnaaGreat
open Go Go.Vm
set_option maxRecDepth 20000
set_option linter.all false
set_option maxHeartbeats 8000000
def mP (d : DS) (g : List Int) : DS := { d with es := d.es.filter fun e => !g.any fun k => decide (k = e.n.ID) }
theorem Tw (d : DS) : mP d [] = d := by
 cases d; simp [mP]
theorem uN : ∀ (es : List EN) (K : Int), (es.map fun e => e.n.ID).Nodup → ∀ (i : Nat) (h : i < es.length), es[i].n.ID = K → (es.filter fun e => !decide (K = e.n.ID)) = es.eraseIdx i
 | [], K, _, i, h, _ => by simp at h
 | e :: es, K, hn, 0, h, he => by
  have hn' := List.nodup_cons.1 (show (e.n.ID :: es.map fun e => e.n.ID).Nodup from hn);simp only [List.getElem_cons_zero] at he;subst he;rw [List.filter_cons, if_neg (by simp), List.eraseIdx_cons_zero, List.filter_eq_self];intro a ha;have : e.n.ID ≠ a.n.ID := fun e2 => hn'.1 (by rw [e2]; exact List.mem_map.2 ⟨a, ha, rfl⟩);simp [this]
 | e :: es, K, hn, i + 1, h, he => by
  have hn' := List.nodup_cons.1 (show (e.n.ID :: es.map fun e => e.n.ID).Nodup from hn);simp only [List.getElem_cons_succ] at he;have : K ≠ e.n.ID := fun e2 => hn'.1 (by rw [← e2, ← he]; exact List.mem_map.2 ⟨es[i]'(by simpa using h), List.getElem_mem _, rfl⟩);rw [List.filter_cons, if_pos (by simpa using this), List.eraseIdx_cons_succ, uN es K hn'.2 i (by simpa using h) he]
theorem oZ {α β : Type} (f : α → β) : ∀ (l : List α) (i : Nat), (l.eraseIdx i).map f = (l.map f).eraseIdx i
 | [], i => by simp
 | a :: l, 0 => by simp
 | a :: l, i + 1 => by simp [oZ f l i]
theorem Xj {es : List EN} {K : Int} (hn : (es.map fun e => e.n.ID).Nodup) : aCe (es.map Bg) (.int .i64 K) ((es.filter fun e => !decide (K = e.n.ID)).map Bg) := by
 by_cases h : ∃ e ∈ es, e.n.ID = K
 ·obtain ⟨e, he, hK⟩ := h;obtain ⟨i, hi, rfl⟩ := List.getElem_of_mem he;refine .inl ⟨i, es[i].t, .ref es[i].o 0, ?_, ?_⟩
  ·rw [List.getElem?_map, List.getElem?_eq_getElem hi, ← hK]; rfl
  ·rw [uN es K hn i hi hK, oZ]
 ·have hne : ∀ e ∈ es, e.n.ID ≠ K := fun e he hK => h ⟨e, he, hK⟩;refine .inr ⟨fun kv hkv h2 => ?_, ?_⟩
  ·obtain ⟨e, he, rfl⟩ := List.mem_map.1 hkv;simp only [Bg, Value.int.injEq, true_and] at h2;exact hne e he h2
  ·rw [show (es.filter fun e => !decide (K = e.n.ID)) = es from by
    rw [List.filter_eq_self]; intro a ha; have := hne a ha; simp; exact fun e => this e.symm]
theorem Nd (d : DS) (g : List Int) (j : Nat) (h : j < g.length) : (mP d (g.take (j + 1))).es = (mP d (g.take j)).es.filter fun e => !decide (g[j] = e.n.ID) := by
 unfold mP;simp only [List.filter_filter];apply List.filter_congr;intro e _;rw [cU g j h, List.any_append];simp only [List.any_cons, List.any_nil, Bool.or_false, Bool.not_or];rw [Bool.and_comm]
theorem Vn {d : DS} (h : (d.es.map fun e => e.n.ID).Nodup) (g : List Int) : ((mP d g).es.map fun e => e.n.ID).Nodup :=
 h.sublist (List.Sublist.map _ List.filter_sublist)
theorem Tm (m M : Nat) (d : DS) (id : Int) (σ : List (List D)) (ho : DO m M d σ) (hno : dQ d.l id = false) : Ct Tryz.prog 48 [.ref m 0, D.int id] σ (fun r σ' => r = .int 11 ∧ σ' = σ) := by
 refine zf (rs:=[.tmp 4]) Tryz.func48 Tryz.ntmps48 Tryz.results48 ?_;simp only [aQ];have hq := ho.hm;refine bC fun _ _ Z=>?_;simp[hq];and_intros<;>(try omega);apply Z;refine bC fun _ _ Z=>?_;refine aA 6 fun _ Y=>?_;simp[hq];refine ⟨m, 2, d.ck, _, .v (.pointer none), ⟨⟨_, hq, rfl⟩, fZ _, .inl (kP hno _)⟩, ?_⟩;and_intros<;>(try omega);apply Y;simp only [List.drop];simp[hq];and_intros<;>(try omega);apply Z;apply aD;apply aK;refine bC fun _ _ Z=>?_;simp[hq];and_intros<;>(try omega);apply Z;refine zi ?_;refine ⟨fun c1=>?_,fun c1=>?_⟩
 ·try simp at c1
  refine bC fun _ _ Z=>?_;simp[hq];and_intros<;>(try omega);apply Z;apply aE;apply aV;apply aL;simp [aN]
 ·simp at c1
theorem Xx (m M : Nat) (d : DS) (n : EN) (σ : List (List D)) (ho : DO m M d σ) (hn : n ∈ d.es) (h0 : n.n.ID = 0) : Ct Tryz.prog 48 [.ref m 0, D.int n.n.ID] σ (fun r σ' => r = .int 1 ∧ σ' = σ) := by
 refine zf (rs:=[.tmp 4]) Tryz.func48 Tryz.ntmps48 Tryz.results48 ?_;simp only [aQ];have hq := ho.hm;refine bC fun _ _ Z=>?_;simp[hq];and_intros<;>(try omega);apply Z;refine bC fun _ _ Z=>?_;refine aA 6 fun _ Y=>?_;simp[hq];refine ⟨m, 2, d.ck, _, .ref n.o 0, ⟨⟨_, hq, rfl⟩, fZ _, .inr (dP hn _)⟩, ?_⟩;and_intros<;>(try omega);apply Y;simp only [List.drop];simp[hq];and_intros<;>(try omega);apply Z;apply aD;apply aK;refine bC fun _ _ Z=>?_;simp[hq];and_intros<;>(try omega);apply Z;refine zi ?_;refine ⟨fun c1=>?_,fun c1=>?_⟩
 ·simp at c1
 ·try simp at c1
  refine bC fun _ _ Z=>?_;simp[hq];and_intros<;>(try omega);apply Z;refine zi ?_;refine ⟨fun c2=>?_,fun c2=>?_⟩
  ·try simp at c2
   refine zk [0,1,4,5] ?_;refine bC fun _ _ Z=>?_;simp[hq];and_intros<;>(try omega);apply Z;apply aE;apply aV;apply aL;simp [aN]
  ·try simp at c2
   exact absurd h0 c2
theorem Vj (m M : Nat) (d d1 : DS) (n : EN) (σ1 : List (List D)) (bel : Int → List Int) (rk : Int → Nat) (σ : List (List D)) (ho : DO m M d σ) (hn : n ∈ d.es) (h0 : ¬ n.n.ID = 0) (hlv : Ct Tryz.prog 86 [.ref m 0, .ref n.o 0] σ (fun r σ' => r = .tup [] ∧ σ' = σ1)) (ho1 : DO m M d1 σ1) (hw1 : WD d1 bel rk) (hid : dQ d1.l n.n.ID = true) (hnd : (d1.es.map fun e => e.n.ID).Nodup) : Ct Tryz.prog 48 [.ref m 0, D.int n.n.ID] σ (fun r σ' => r = D.int 0 ∧ ∃ J, σ' = σ1.set m (kM M (mP d1 (bel n.n.ID))) ++ J) := by
 refine zf (rs:=[.tmp 4]) Tryz.func48 Tryz.ntmps48 Tryz.results48 ?_;simp only [aQ];have hq := ho.hm;have hq1 := ho1.hm;have hbl3 := hw1.tr.len n.n.ID;refine zr ⟨[],[],[6],[29,32],[]⟩ fun _ _ Z=>?_;simp (disch:=omega)[hq,hq1,hbl3,bH,bF,bI,bO hq1,bT hq1,aT,aO,aI,aF,aC];and_intros<;>(try omega);apply Z;refine zr ⟨[],[],[6],[29,32],[]⟩ fun _ _ Z=>?_;refine aA 6 fun _ Y=>?_;simp (disch:=omega)[hq,hq1,hbl3,bH,bF,bI,bO hq1,bT hq1,aT,aO,aI,aF,aC];refine ⟨m, 2, d.ck, _, .ref n.o 0, ⟨⟨_, hq, rfl⟩, fZ _, .inr (dP hn _)⟩, ?_⟩;and_intros<;>(try omega);apply Y;simp only [List.drop];simp (disch:=omega)[hq,hq1,hbl3,bH,bF,bI,bO hq1,bT hq1,aT,aO,aI,aF,aC];and_intros<;>(try omega);apply Z;apply aD;apply aK;refine zr ⟨[],[],[6],[29,32],[]⟩ fun _ _ Z=>?_;simp (disch:=omega)[hq,hq1,hbl3,bH,bF,bI,bO hq1,bT hq1,aT,aO,aI,aF,aC];and_intros<;>(try omega);apply Z;refine zi ?_;refine ⟨fun c1=>?_,fun c1=>?_⟩
 ·simp at c1
 ·try simp at c1
  refine zr ⟨[],[],[6],[29,32],[]⟩ fun _ _ Z=>?_;simp (disch:=omega)[hq,hq1,hbl3,bH,bF,bI,bO hq1,bT hq1,aT,aO,aI,aF,aC];and_intros<;>(try omega);apply Z;refine zi ?_;refine ⟨fun c2=>?_,fun c2=>?_⟩
  ·try simp at c2
   exact absurd c2 h0
  ·try simp at c2
   apply aH;apply aP;apply aB;refine zk [0,1,4,5] ?_;refine zr ⟨[],[],[6],[29,32],[]⟩ fun _ _ Z=>?_;refine aA 2 fun _ Y=>?_;simp (disch:=omega)[hq,hq1,hbl3,bH,bF,bI,bO hq1,bT hq1,aT,aO,aI,aF,aC];and_intros<;>(try omega);apply Y;simp only [List.drop];refine aG fun _ Y=>?_;simp (disch:=omega)[hq,hq1,hbl3,bH,bF,bI,bO hq1,bT hq1,aT,aO,aI,aF,aC];refine cO (hlv) ?_;apply Y;simp only [dF];apply Z;refine zr ⟨[],[],[6],[29,32],[]⟩ fun _ _ Z=>?_;simp (disch:=omega)[hq,hq1,hbl3,bH,bF,bI,bO hq1,bT hq1,aT,aO,aI,aF,aC];and_intros<;>(try omega);apply Z;refine qQ σ1.length 0 1 (by simp [aF]; rfl) rfl ?_;simp only [aC, List.set_cons_zero];refine zr ⟨[],[],[6],[29,32],[]⟩ fun _ _ Z=>?_;refine aA 3 fun _ Y=>?_;simp (disch:=omega)[hq,hq1,hbl3,bH,bF,bI,bO hq1,bT hq1,aT,aO,aI,aF,aC];and_intros<;>(try omega);apply Y;simp only [List.drop];refine aG fun _ Y=>?_;simp (disch:=omega)[hq,hq1,hbl3,bH,bF,bI,bO hq1,bT hq1,aT,aO,aI,aF,aC];refine cO (Jh m M σ1.length 88 d1 bel rk n.n.ID [] _ (Mj σ1.length) (EF.of ho1 hw1 (Nat.le_refl _)) hid (EO.of ho1 hw1 n.n.ID)) ?_;simp only [aC, List.set_cons_zero, List.nil_append];apply Y;simp only [dF];apply Z;apply aD;refine eR σ1.length 0 1 (es := (bel n.n.ID).map D.int) (by simp [aF]; rfl) rfl (by decide) fun cap rest hcap hcm hrest hes => ?_;simp only [List.length_map, aC, List.set_cons_zero, List.length_append, List.length_cons, List.length_nil, Nat.zero_add, List.append_assoc, List.cons_append, List.nil_append] at hcap hrest ⊢;rw [dA (f := D.int) (fun _ => rfl)];refine zk [0,4,6] ?_;refine zr ⟨[],[],[6],[29,32],[]⟩ fun _ _ Z=>?_;simp (disch:=omega)[hq,hq1,hbl3,bH,bF,bI,bO hq1,bT hq1,aT,aO,aI,aF,aC];and_intros<;>(try omega);apply Z;apply aK;refine zk [0,4,28,29,30] ?_;refine eI (fun (j : Nat) => [(30, .d (.v (.int .i64 (j : Int)))), (8, .d (.any))]) (fun (j : Nat) => []) (fun (j : Nat) => σ1.set m (kM M (mP d1 ((bel n.n.ID).take j))) ++ [[.slo (σ1.length + 1) 0 (bel n.n.ID).length cap], (bel n.n.ID).map D.int ++ rest]) [8, 30, 31, 32, 33, 34, 35, 36, 37, 38, 39] (fun (j : Nat) => j ≤ (bel n.n.ID).length) (fun (j : Nat) => (bel n.n.ID).length - j) (0) (by simp <;> rfl) ?_ (by simp) (by rw [List.take_zero, Tw, gR hq1]) ?_ ?_
   ·simp
   ·simp
   rintro j hj;simp only [List.cons_append, List.nil_append];refine zr ⟨[],[],[6],[29,32],[]⟩ fun _ _ Z=>?_;simp (disch:=omega)[hq,hq1,hbl3,bH,bF,bI,bO hq1,bT hq1,aT,aO,aI,aF,aC];and_intros<;>(try omega);apply Z;apply aD;refine zi ?_;refine ⟨fun c3=>?_,fun c3=>?_⟩
   ·try simp at c3
    have hjj : j < (bel n.n.ID).length := by omega
    apply aH;apply aB;apply aD;apply aK;refine zr ⟨[],[],[6],[29,32],[]⟩ fun _ _ Z=>?_;simp (disch:=omega)[hq,hq1,hbl3,bH,bF,bI,bO hq1,bT hq1,aT,aO,aI,aF,aC];and_intros<;>(try omega);apply Z;refine zt ⟨[],[],[6],[29,32],[]⟩ fun _ _ Z=>?_;simp (disch:=omega)[hq,hq1,hbl3,bH,bF,bI,bO hq1,bT hq1,aT,aO,aI,aF,aC];refine ⟨m, 2, d1.ck, _, _, ⟨⟨_, bO hq1 _ _, rfl⟩, fZ _, Xj (Vn hnd _)⟩, ?_⟩;rw [zQ (bO hq1 _ _), bT hq1, ← Nd d1 (bel n.n.ID) j hjj];and_intros<;>(try omega);apply Z;apply aP;apply aB;refine zk [0,4,8,28,29,30] ?_;refine zt ⟨[],[],[6],[29,32],[]⟩ fun _ _ Z=>?_;simp (disch:=omega)[hq,hq1,hbl3,bH,bF,bI,bO hq1,bT hq1,aT,aO,aI,aF,aC];and_intros<;>(try omega);apply Z;refine bA (j + 1) ?_ ?_ (aW rfl ?_ (by simp) (by simp [kM, mP]))
    ·omega
    ·try dsimp only
     omega
    ·simp (disch:=omega)[hq,hq1,hbl3,bH,bF,bI,bO hq1,bT hq1,aT,aO,aI,aF,aC]
   ·try simp at c3
    obtain rfl : j = (bel n.n.ID).length := by omega
    rw [List.take_length];apply bK;apply bJ;apply bL;apply aY;apply aB;refine zr ⟨[],[],[6],[29,32],[]⟩ fun _ _ Z=>?_;simp (disch:=omega)[hq,hq1,hbl3,bH,bF,bI,bO hq1,bT hq1,aT,aO,aI,aF,aC];and_intros<;>(try omega);apply Z;apply aE;simp [aN]
end Go.Proofs.YtpfmpeaekgdgnaaGreat

