import Derived.Test.YtbgfljpnhhdkoaaGreatWkAr12
open Go.Proofs.Tryz
set_option linter.all false
namespace Go.Proofs.YtbgfljpnhhdkoaaGreat
open Go Go.Vm
set_option maxRecDepth 20000
set_option maxHeartbeats 8000000
theorem aJr(k:Int)(o:Nat)(n:ND)(σ:List (List D))(hnn:σ[o]?=some (eG n)):Ct prog 243 [D.int k,.adr [.ref o 0]] σ (fun r σ'=>r= .bool (decide (k=n.ID))∧σ'=σ):=by
 refine zf (rs:=[.tmp 3]) func243 ntmps243 results243 ?_;simp only [aN];refine aY fun _ _ Z=>?_;simp[hnn];apply Z;refine aY fun _ _ Z=>?_;simp[hnn];apply Z;apply aB;simp [aL]
theorem aGo {σ τ:List (List D)} {i:Nat} {a:List D} (h:σ<+:τ)(hi:σ[i]?=some a):τ[i]?=some a:=by
 obtain⟨J,rfl⟩:=h;exact dC hi J
def Gs(es:List EN)(o:Nat)(n:ND):List EN:=es.map fun e=>if e.o=o then { e with n:=n } else e
def qC(d:DS)(o:Nat)(n:ND):DS:= { d with es:=Gs d.es o n }
theorem aIz(m M:Nat)(d:DS)(n:EN)(σ:List (List D))(ho:DO m M d σ)(hn:n∈d.es)(hno:dF d.l n.n.parent=false):Ct prog 207 [.ref m 0,.ref n.o 0] σ (fun r σ'=>r= .tup []∧σ'=σ):=by
 refine zf (rs:=[]) func207 ntmps207 results207 ?_;simp only [aN];have hq:=ho.hm;have hnn:=ho.hn n hn;refine zr ⟨[],[3],[],[],[]⟩ fun _ _ Z=>?_;simp[hq,hnn];apply Z;refine zd ⟨[],[3],[],[],[]⟩ [.op {},.op {},.op {},.op {rO:=true},.op {},.op {},.op {},.op {rO:=true},.op {rO:=true},.op {}] fun all hall _ Z=>?_;refine jD 8 fun _ Y=>?_;simp[hq,hnn];apply Y;refine jD 1 fun _ Y=>?_;simp[hq,hnn];refine⟨m,2,d.ck,_,.v (.pointer none),⟨⟨_,hq,rfl⟩,iZ _,.inl (nI hno _)⟩,?_⟩;and_intros<;>(try omega);apply Y;simp[hq,hnn];apply Z;refine zr ⟨[],[3],[],[],[]⟩ fun _ _ Z=>?_;simp[hq,hnn];apply Z;refine zi ?_;refine⟨fun c1=>?_,fun c1=>?_⟩
 ·simp at c1
 try simp at c1
 apply aE;simp [aL]
theorem aAw(m M:Nat)(d:DS)(p n:EN)(σ:List (List D))(ho:DO m M d σ)(hp:p∈d.es)(hn:n∈d.es)(hpp:p.n.ID=n.n.parent)(hoo:n.o≠p.o)(hlen:p.n.kids.length≤1000):Ct prog 207 [.ref m 0,.ref n.o 0] σ (fun r σ'=>r= .tup []∧σ'=σ.set p.o (eG (fN p.n (eP p.n.kids n.n.ID)))):=by
 refine zf (rs:=[]) func207 ntmps207 results207 ?_;simp only [aN];have hq:=ho.hm;have hnn:=ho.hn n hn;have hpo:=ho.hn p hp;have hn2:∀a,(σ.set p.o a)[n.o]?=some (eG n.n):=fun a=>by rw [List.getElem?_set_ne (Ne.symm hoo)];exact hnn
 refine zr ⟨[20,22],[3],[],[],[]⟩ fun _ _ Z=>?_;simp[hq,hnn,hpo,aI hpo,List.set_set];apply Z;refine zd ⟨[20,22],[3],[],[],[]⟩ [.op {},.op {},.op {},.op {rO:=true},.op {},.op {},.op {},.op {rO:=true},.op {rO:=true},.op {}] fun all hall _ Z=>?_;refine jD 8 fun _ Y=>?_;simp[hq,hnn,hpo,aI hpo,List.set_set];apply Y;refine jD 1 fun _ Y=>?_;simp[hq,hnn,hpo,aI hpo,List.set_set];rw [← hpp];refine⟨m,2,d.ck,_,.ref p.o 0,⟨⟨_,hq,rfl⟩,iZ _,.inr (fH hp _)⟩,?_⟩;and_intros<;>(try omega);apply Y;simp[hq,hnn,hpo,aI hpo,List.set_set];apply Z;refine zr ⟨[20,22],[3],[],[],[]⟩ fun _ _ Z=>?_;simp[hq,hnn,hpo,aI hpo,List.set_set];apply Z;refine zi ?_;refine⟨fun c1=>?_,fun c1=>?_⟩
 ·try simp at c1
  refine zk [3,4] ?_;refine zt ⟨[20,22],[3],[],[],[]⟩ fun _ _ Z=>?_;refine zs 6 fun _ Y=>?_;simp[hq,hnn,hpo,aI hpo,List.set_set];and_intros<;>(try omega);apply Y;refine aD fun _ Y=>?_;simp[hq,hnn,hpo,aI hpo,List.set_set];refine cH (zK p.n.kids (fun k=>decide (k=n.n.ID)) 243 [.adr [.ref n.o 0]] _ (by omega) (by simp) (by simp) (fun x τ h=>aJr x n.o n.n τ (aGo h (hn2 _)))) ?_;apply Y;simp[hq,hnn,hpo,aI hpo,List.set_set];apply Z;simp [aL,fN,eP]
 simp at c1
theorem Uo(m M:Nat)(d:DS)(id at_:Int)(σ:List (List D))(ho:DO m M d σ)(hno:dF d.l id=false):Ct prog 138 [.ref m 0,D.int id,D.int at_] σ (fun r σ'=>r= .int 11∧σ'=σ):=by
 refine zf (rs:=[.tmp 6]) func138 ntmps138 results138 ?_;simp only [aN];have hq:=ho.hm;refine zr ⟨[62],[],[],[],[]⟩ fun _ _ Z=>?_;simp[hq];apply Z;refine zr ⟨[62],[],[],[],[]⟩ fun _ _ Z=>?_;refine zs 6 fun _ Y=>?_;simp[hq];refine⟨m,2,d.ck,_,.v (.pointer none),⟨⟨_,hq,rfl⟩,iZ _,.inl (nI hno _)⟩,?_⟩;and_intros<;>(try omega);apply Y;simp[hq];apply Z;apply aC;apply aG;refine zr ⟨[62],[],[],[],[]⟩ fun _ _ Z=>?_;simp[hq];apply Z;refine zi ?_;refine⟨fun c1=>?_,fun c1=>?_⟩
 ·try simp at c1
  refine zr ⟨[62],[],[],[],[]⟩ fun _ _ Z=>?_;simp[hq];apply Z;apply aB;apply aQ;apply aJ;simp [aL]
 simp at c1
theorem Xo(m M:Nat)(d:DS)(n:EN)(at_:Int)(σ:List (List D))(ho:DO m M d σ)(hn:n∈d.es)(hpar:n.n.parent= -1):Ct prog 138 [.ref m 0,D.int n.n.ID,D.int at_] σ (fun r σ'=>r= .int 1∧σ'=σ):=by
 refine zf (rs:=[.tmp 6]) func138 ntmps138 results138 ?_;simp only [aN];have hq:=ho.hm;have hnn:=ho.hn n hn;refine zr ⟨[62],[],[],[],[]⟩ fun _ _ Z=>?_;simp[hq,hnn,hpar];apply Z;refine zr ⟨[62],[],[],[],[]⟩ fun _ _ Z=>?_;refine zs 6 fun _ Y=>?_;simp[hq,hnn,hpar];refine⟨m,2,d.ck,_,.ref n.o 0,⟨⟨_,hq,rfl⟩,iZ _,.inr (fH hn _)⟩,?_⟩;and_intros<;>(try omega);apply Y;simp[hq,hnn,hpar];apply Z;apply aC;apply aG;refine zr ⟨[62],[],[],[],[]⟩ fun _ _ Z=>?_;simp[hq,hnn,hpar];apply Z;refine zi ?_;refine⟨fun c1=>?_,fun c1=>?_⟩
 ·simp at c1
 try simp at c1
 refine zk [0,1,2,6,7] ?_;refine zd ⟨[62],[],[],[],[]⟩ [.op {},.op {},.op {},.op {rO:=true},.op {},.op {},.op {},.op {},.op {},.op {},.op {},.op {},.op {},.op {},.op {rO:=true},.op {},.op {},.op {},.op {rO:=true},.op {rO:=true},.op {},.op {},.op {rO:=true},.op {},.op {},.op {},.op {}] fun all hall _ Z=>?_;have ga5:aR all 5=some 24:=hall 5;have ga9:aR all 9=some 28:=hall 9;refine jD 6 fun _ Y=>?_;simp[hq,hnn,hpar,ga5,ga9];apply Y;refine rC 24 (by simp <;> rfl) ?_;refine⟨fun g2=>?_,fun g2=>?_⟩
 ·try simp at g2
  refine jD 4 fun _ Y=>?_;simp[hq,hnn,hpar,ga5,ga9];apply Y;refine jD 8 fun _ Y=>?_;simp[hq,hnn,hpar,ga5,ga9];and_intros<;>(try omega);apply Y;refine jD 8 fun _ Y=>?_;simp[hq,hnn,hpar,ga5,ga9];apply Y;simp[hq,hnn,hpar,ga5,ga9];apply Z;refine bM (t:=true) (by simp) (fun _=>?_) (fun h=>by cases h);refine zk [0,1,2,6,7] ?_;refine zr ⟨[62],[],[],[],[]⟩ fun _ _ Z=>?_;simp[hq,hnn,hpar];apply Z;apply aB;apply aQ;apply aJ;simp [aL]
 simp at g2
@[simp] abbrev qr141:Cfg:=⟨[61,62,65],[],[],[42],[]⟩
theorem aFw(m M:Nat)(d:DS)(p n:EN)(at_:Int)(σ:List (List D))(ho:DO m M d σ)(hp:p∈d.es)(hn:n∈d.es)(hpp:p.n.ID=n.n.parent)(hoo:n.o≠p.o)(hlen:p.n.kids.length≤1000)(hnn1:¬n.n.parent= -1)(hnd:p.n.kids.Nodup):Ct prog 138 [.ref m 0,D.int n.n.ID,D.int at_] σ (fun r σ'=>(r=D.int 1∧(at_<0∨(p.n.kids.length:Int)≤at_)∧σ'=σ)∨(r=D.int 0∧¬(at_<0∨(p.n.kids.length:Int)≤at_)∧∃i:Nat,at_=i∧σ'=σ.set p.o (eG (fN p.n (dG (eP p.n.kids n.n.ID) i n.n.ID))))):=by
 refine zf (rs:=[.tmp 6]) func138 ntmps138 results138 ?_;simp only [aN];have hq:=ho.hm;have hnn:=ho.hn n hn;have hpo:=ho.hn p hp;have hn2:∀a,(σ.set p.o a)[n.o]?=some (eG n.n):=fun a=>by rw [List.getElem?_set_ne (Ne.symm hoo)];exact hnn
 have hqp:∀a,(σ.set p.o a)[m]?=some (mX M d):=fun a=>by rw [List.getElem?_set_ne (ho.nm p hp)];exact hq
 have hrl:=oF p.n.kids n.n.ID;have hrg:=Gl hnd n.n.ID;refine zr qr141 fun _ _ Z=>?_;simp[hq,hnn,hpo,hqp,hn2,hnn1,aI hpo,List.set_set];apply Z;refine zr qr141 fun _ _ Z=>?_;refine zs 6 fun _ Y=>?_;simp[hq,hnn,hpo,hqp,hn2,hnn1,aI hpo,List.set_set];refine⟨m,2,d.ck,_,.ref n.o 0,⟨⟨_,hq,rfl⟩,iZ _,.inr (fH hn _)⟩,?_⟩;and_intros<;>(try omega);apply Y;simp[hq,hnn,hpo,hqp,hn2,hnn1,aI hpo,List.set_set];apply Z;apply aC;apply aG;refine zr qr141 fun _ _ Z=>?_;simp[hq,hnn,hpo,hqp,hn2,hnn1,aI hpo,List.set_set];apply Z;refine zi ?_;refine⟨fun c1=>?_,fun c1=>?_⟩
 ·simp at c1
 try simp at c1
 refine zk [0,1,2,6,7] ?_;refine zd qr141 [.op {},.op {},.op {},.op {rO:=true},.op {},.op {},.op {},.op {},.op {},.op {},.op {},.op {},.op {},.op {},.op {rO:=true},.op {},.op {},.op {},.op {rO:=true},.op {rO:=true},.op {},.op {},.op {rO:=true},.op {},.op {},.op {},.op {}] fun all hall _ Z=>?_;have ga5:aR all 5=some 24:=hall 5;have ga9:aR all 9=some 28:=hall 9;refine jD 6 fun _ Y=>?_;simp[hq,hnn,hpo,hqp,hn2,hnn1,aI hpo,List.set_set,ga5,ga9];apply Y;refine rC 24 (by simp <;> rfl) ?_;refine⟨fun g2=>?_,fun g2=>?_⟩
 ·simp at g2
 try simp at g2
 refine jD 4 fun _ Y=>?_;simp[hq,hnn,hpo,hqp,hn2,hnn1,aI hpo,List.set_set,ga5,ga9];apply Y;refine rC 28 (by simp <;> rfl) ?_;refine⟨fun g3=>?_,fun g3=>?_⟩
 ·try simp at g3
  refine jD 8 fun _ Y=>?_;simp[hq,hnn,hpo,hqp,hn2,hnn1,aI hpo,List.set_set,ga5,ga9];and_intros<;>(try omega);apply Y;refine jD 8 fun _ Y=>?_;simp[hq,hnn,hpo,hqp,hn2,hnn1,aI hpo,List.set_set,ga5,ga9];apply Y;simp[hq,hnn,hpo,hqp,hn2,hnn1,aI hpo,List.set_set,ga5,ga9];apply Z;refine bM (t:=true) (by simp) (fun _=>?_) (fun h=>by cases h);refine zk [0,1,2,6,7] ?_;refine zr qr141 fun _ _ Z=>?_;simp[hq,hnn,hpo,hqp,hn2,hnn1,aI hpo,List.set_set];apply Z;apply aB;apply aQ;apply aJ;simp [aL];exact .inl g3
 try simp at g3
 refine jD 8 fun _ Y=>?_;simp[hq,hnn,hpo,hqp,hn2,hnn1,aI hpo,List.set_set,ga5,ga9];apply Y;refine jD 2 fun _ Y=>?_;simp[hq,hnn,hpo,hqp,hn2,hnn1,aI hpo,List.set_set,ga5,ga9];rw [← hpp];refine⟨m,2,d.ck,_,.ref p.o 0,⟨⟨_,hq,rfl⟩,iZ _,.inr (fH hp _)⟩,?_⟩;and_intros<;>(try omega);apply Y;simp[hq,hnn,hpo,hqp,hn2,hnn1,aI hpo,List.set_set,ga5,ga9];and_intros<;>(try omega);apply Z;refine zi ?_;refine⟨fun c4=>?_,fun c4=>?_⟩
 ·try simp at c4
  refine zk [0,1,2,6,7] ?_;refine zr qr141 fun _ _ Z=>?_;simp[hq,hnn,hpo,hqp,hn2,hnn1,aI hpo,List.set_set];apply Z;apply aB;apply aQ;apply aJ;simp [aL];exact .inr c4
 try simp at c4
 obtain⟨i,rfl⟩:∃i:Nat,at_=i:=⟨at_.toNat,by omega⟩;apply aE;apply aK;apply aA;refine zk [0,1,2,6,7] ?_;refine zr qr141 fun _ _ Z=>?_;refine zs 2 fun _ Y=>?_;simp[hq,hnn,hpo,hqp,hn2,hnn1,aI hpo,List.set_set];apply Y;refine aD fun _ Y=>?_;simp[hq,hnn,hpo,hqp,hn2,hnn1,aI hpo,List.set_set];refine cH (aAw m M d p n _ ho hp hn hpp hoo hlen) ?_;apply Y;simp only [dV];apply Z;refine zd qr141 [.op {},.op {},.op {},.op {rO:=true},.op {},.op {},.op {},.op {rO:=true},.op {rO:=true},.op {}] fun all hall _ Z=>?_;refine jD 8 fun _ Y=>?_;simp[hq,hnn,hpo,hqp,hn2,hnn1,aI hpo,List.set_set];apply Y;refine jD 1 fun _ Y=>?_;simp[hq,hnn,hpo,hqp,hn2,hnn1,aI hpo,List.set_set];rw [← hpp];refine⟨m,2,d.ck,_,.ref p.o 0,⟨⟨_,hqp _,rfl⟩,iZ _,.inr (fH hp _)⟩,?_⟩;and_intros<;>(try omega);apply Y;simp[hq,hnn,hpo,hqp,hn2,hnn1,aI hpo,List.set_set];apply Z;refine zk [1,2,6,8] ?_;refine zr qr141 fun _ _ Z=>?_;refine zs 8 fun _ Y=>?_;simp[hq,hnn,hpo,hqp,hn2,hnn1,aI hpo,List.set_set];and_intros<;>(try omega);apply Y;refine aD fun _ Y=>?_;simp[hq,hnn,hpo,hqp,hn2,hnn1,aI hpo,List.set_set];refine cH (Gg (eP p.n.kids n.n.ID) n.n.ID i _ (by omega) (by omega)) ?_;apply Y;simp[hq,hnn,hpo,hqp,hn2,hnn1,aI hpo,List.set_set];apply Z;refine zk [6] ?_;refine zr qr141 fun _ _ Z=>?_;simp[hq,hnn,hpo,hqp,hn2,hnn1,aI hpo,List.set_set];apply Z;apply aB;simp [aL,fN];exact⟨by omega,i,rfl,rfl⟩
set_option maxRecDepth 20000
set_option maxHeartbeats 8000000
def pE(d:DS)(g:List Int):DS:= { d with es:=d.es.filter fun e=> !g.any fun k=>decide (k=e.n.ID) }
theorem aBl(d:DS):pE d []=d:=by
 cases d;simp [pE]
theorem zM:∀(es:List EN) (K:Int),(es.map fun e=>e.n.ID).Nodup→∀(i:Nat) (h:i<es.length),es[i].n.ID=K→(es.filter fun e=> !decide (K=e.n.ID))=es.eraseIdx i
 | [],K,_,i,h,_=>by simp at h
 | e::es,K,hn,0,h,he=>by
  have hn':=List.nodup_cons.1 (show(e.n.ID::es.map fun e=>e.n.ID).Nodup from hn);simp only [List.getElem_cons_zero] at he;subst he;rw [List.filter_cons,if_neg (by simp),List.eraseIdx_cons_zero,List.filter_eq_self];intro a ha;have:e.n.ID≠a.n.ID:=fun e2=>hn'.1 (by rw [e2];exact List.mem_map.2 ⟨a,ha,rfl⟩);simp [this]
 | e::es,K,hn,i+1,h,he=>by
  have hn':=List.nodup_cons.1 (show(e.n.ID::es.map fun e=>e.n.ID).Nodup from hn);simp only [List.getElem_cons_succ] at he;have:K≠e.n.ID:=fun e2=>hn'.1 (by rw [← e2,← he];exact List.mem_map.2 ⟨es[i]'(by simpa using h),List.getElem_mem _,rfl⟩);rw [List.filter_cons,if_pos (by simpa using this),List.eraseIdx_cons_succ,zM es K hn'.2 i (by simpa using h) he]
theorem sC {α β:Type} (f:α→β):∀(l:List α) (i:Nat),(l.eraseIdx i).map f=(l.map f).eraseIdx i
 | [],i=>by simp
 | a::l,0=>by simp
 | a::l,i+1=>by simp [sC f l i]
theorem aE0 {es:List EN} {K:Int} (hn:(es.map fun e=>e.n.ID).Nodup):aK7 (es.map Hd) (.int .i64 K) ((es.filter fun e=> !decide (K=e.n.ID)).map Hd):=by
 by_cases h:∃e∈es,e.n.ID=K
 ·obtain⟨e,he,hK⟩:=h;obtain⟨i,hi,rfl⟩:=List.getElem_of_mem he;refine .inl ⟨i,es[i].t,.ref es[i].o 0,?_,?_⟩
  ·rw [List.getElem?_map,List.getElem?_eq_getElem hi,← hK];rfl
  rw [zM es K hn i hi hK,sC]
 have hne:∀e∈es,e.n.ID≠K:=fun e he hK=>h ⟨e,he,hK⟩;refine .inr ⟨fun kv hkv h2=>?_,?_⟩
 ·obtain⟨e,he,rfl⟩:=List.mem_map.1 hkv;simp only [Hd,Value.int.injEq,true_and] at h2;exact hne e he h2
 rw [show(es.filter fun e=> !decide (K=e.n.ID))=es from by
  rw [List.filter_eq_self];intro a ha;have:=hne a ha;simp;exact fun e=>this e.symm]
theorem Th(d:DS)(g:List Int)(j:Nat)(h:j<g.length):(pE d (g.take (j+1))).es=(pE d (g.take j)).es.filter fun e=> !decide (g[j]=e.n.ID):=by
 unfold pE;simp only [List.filter_filter];apply List.filter_congr;intro e _;rw [dL g j h,List.any_append];simp only [List.any_cons,List.any_nil,Bool.or_false,Bool.not_or];rw [Bool.and_comm]
theorem aFu {d:DS} (h:(d.es.map fun e=>e.n.ID).Nodup)(g:List Int):((pE d g).es.map fun e=>e.n.ID).Nodup:=
 h.sublist (List.Sublist.map _ List.filter_sublist)
theorem Xe(m M:Nat)(d:DS)(id:Int)(σ:List (List D))(ho:DO m M d σ)(hno:dF d.l id=false):Ct prog 140 [.ref m 0,D.int id] σ (fun r σ'=>r= .int 11∧σ'=σ):=by
 refine zf (rs:=[.tmp 4]) func140 ntmps140 results140 ?_;simp only [aN];have hq:=ho.hm;refine aY fun _ _ Z=>?_;simp[hq];apply Z;refine aY fun _ _ Z=>?_;refine zs 6 fun _ Y=>?_;simp[hq];refine⟨m,2,d.ck,_,.v (.pointer none),⟨⟨_,hq,rfl⟩,iZ _,.inl (nI hno _)⟩,?_⟩;and_intros<;>(try omega);apply Y;simp[hq];apply Z;apply aC;apply aG;refine aY fun _ _ Z=>?_;simp[hq];apply Z;refine zi ?_;refine⟨fun c1=>?_,fun c1=>?_⟩
 ·try simp at c1
  refine aY fun _ _ Z=>?_;simp[hq];apply Z;apply aB;apply aQ;apply aJ;simp [aL]
 simp at c1
theorem aFk(m M:Nat)(d:DS)(n:EN)(σ:List (List D))(ho:DO m M d σ)(hn:n∈d.es)(h0:n.n.ID=0):Ct prog 140 [.ref m 0,D.int n.n.ID] σ (fun r σ'=>r= .int 1∧σ'=σ):=by
 refine zf (rs:=[.tmp 4]) func140 ntmps140 results140 ?_;simp only [aN];have hq:=ho.hm;refine aY fun _ _ Z=>?_;simp[hq];apply Z;refine aY fun _ _ Z=>?_;refine zs 6 fun _ Y=>?_;simp[hq];refine⟨m,2,d.ck,_,.ref n.o 0,⟨⟨_,hq,rfl⟩,iZ _,.inr (fH hn _)⟩,?_⟩;and_intros<;>(try omega);apply Y;simp[hq];apply Z;apply aC;apply aG;refine aY fun _ _ Z=>?_;simp[hq];apply Z;refine zi ?_;refine⟨fun c1=>?_,fun c1=>?_⟩
 ·simp at c1
 try simp at c1
 refine aY fun _ _ Z=>?_;simp[hq];apply Z;refine zi ?_;refine⟨fun c2=>?_,fun c2=>?_⟩
 ·try simp at c2
  refine zk [0,1,4,5] ?_;refine aY fun _ _ Z=>?_;simp[hq];apply Z;apply aB;apply aQ;apply aJ;simp [aL]
 try simp at c2
 exact absurd h0 c2
@[simp] abbrev qr142:Cfg:=⟨[],[],[6],[29,32],[]⟩
theorem aEe(m M:Nat)(d d1:DS)(n:EN)(σ1:List (List D))(bel:Int→List Int)(rk:Int→Nat)(σ:List (List D))(ho:DO m M d σ)(hn:n∈d.es)(h0:¬n.n.ID=0)(hlv:Ct prog 207 [.ref m 0,.ref n.o 0] σ (fun r σ'=>r= .tup []∧σ'=σ1))(ho1:DO m M d1 σ1)(hw1:WD d1 bel rk)(hid:dF d1.l n.n.ID=true)(hnd:(d1.es.map fun e=>e.n.ID).Nodup):Ct prog 140 [.ref m 0,D.int n.n.ID] σ (fun r σ'=>r=D.int 0∧∃J,σ'=σ1.set m (mX M (pE d1 (bel n.n.ID)))++J):=by
 refine zf (rs:=[.tmp 4]) func140 ntmps140 results140 ?_;simp only [aN];have hq:=ho.hm;have hq1:=ho1.hm;have hbl3:=hw1.tr.len n.n.ID;refine zr qr142 fun _ _ Z=>?_;simp(disch:=omega)[hq,hq1,hbl3,cB,bO,bU,cR hq1,cU hq1,aS,aV,aP,aM,aH];apply Z;refine zr qr142 fun _ _ Z=>?_;refine zs 6 fun _ Y=>?_;simp(disch:=omega)[hq,hq1,hbl3,cB,bO,bU,cR hq1,cU hq1,aS,aV,aP,aM,aH];refine⟨m,2,d.ck,_,.ref n.o 0,⟨⟨_,hq,rfl⟩,iZ _,.inr (fH hn _)⟩,?_⟩;and_intros<;>(try omega);apply Y;simp(disch:=omega)[hq,hq1,hbl3,cB,bO,bU,cR hq1,cU hq1,aS,aV,aP,aM,aH];apply Z;apply aC;apply aG;refine zr qr142 fun _ _ Z=>?_;simp(disch:=omega)[hq,hq1,hbl3,cB,bO,bU,cR hq1,cU hq1,aS,aV,aP,aM,aH];apply Z;refine zi ?_;refine⟨fun c1=>?_,fun c1=>?_⟩
 ·simp at c1
 try simp at c1
 refine zr qr142 fun _ _ Z=>?_;simp(disch:=omega)[hq,hq1,hbl3,cB,bO,bU,cR hq1,cU hq1,aS,aV,aP,aM,aH];apply Z;refine zi ?_;refine⟨fun c2=>?_,fun c2=>?_⟩
 ·try simp at c2
  exact absurd c2 h0
 try simp at c2
 apply aE;apply aK;apply aA;refine zk [0,1,4,5] ?_;refine zr qr142 fun _ _ Z=>?_;refine zs 2 fun _ Y=>?_;simp(disch:=omega)[hq,hq1,hbl3,cB,bO,bU,cR hq1,cU hq1,aS,aV,aP,aM,aH];apply Y;refine aD fun _ Y=>?_;simp(disch:=omega)[hq,hq1,hbl3,cB,bO,bU,cR hq1,cU hq1,aS,aV,aP,aM,aH];refine cH (hlv) ?_;apply Y;simp only [dV];apply Z;refine zr qr142 fun _ _ Z=>?_;simp(disch:=omega)[hq,hq1,hbl3,cB,bO,bU,cR hq1,cU hq1,aS,aV,aP,aM,aH];and_intros<;>(try omega);apply Z;refine tM σ1.length 0 1 (by simp [aM];rfl) rfl ?_;simp only [aH,List.set_cons_zero];refine zr qr142 fun _ _ Z=>?_;refine zs 3 fun _ Y=>?_;simp(disch:=omega)[hq,hq1,hbl3,cB,bO,bU,cR hq1,cU hq1,aS,aV,aP,aM,aH];and_intros<;>(try omega);apply Y;refine aD fun _ Y=>?_;simp(disch:=omega)[hq,hq1,hbl3,cB,bO,bU,cR hq1,cU hq1,aS,aV,aP,aM,aH];refine cH (aEm m M σ1.length 209 d1 bel rk n.n.ID [] _ (Ty σ1.length) (EF.of ho1 hw1 (Nat.le_refl _)) hid (EO.of ho1 hw1 n.n.ID)) ?_;simp only [aH,List.set_cons_zero,List.nil_append];apply Y;simp only [dV];apply Z;apply aC;refine kO σ1.length 0 1 (es:=(bel n.n.ID).map D.int) (by simp [aM];rfl) rfl (by decide) fun cap rest hcap hcm hrest hes=>?_;simp only [List.length_map,aH,List.set_cons_zero,List.length_append,List.length_cons,List.length_nil,Nat.zero_add,List.append_assoc,List.cons_append,List.nil_append] at hcap hrest ⊢;rw [eO (f:=D.int) (fun _=>rfl)];refine zk [0,4,6] ?_;refine zr qr142 fun _ _ Z=>?_;simp(disch:=omega)[hq,hq1,hbl3,cB,bO,bU,cR hq1,cU hq1,aS,aV,aP,aM,aH];and_intros<;>(try omega);apply Z;apply aG;refine zk [0,4,28,29,30] ?_;refine jR (fun(j:Nat)=> [(30,.d (.v (.int .i64 (j:Int)))),(8,.d (.any))]) (fun(j:Nat)=> []) (fun(j:Nat)=>σ1.set m (mX M (pE d1 ((bel n.n.ID).take j)))++ [[.slo (σ1.length+1) 0 (bel n.n.ID).length cap],(bel n.n.ID).map D.int++rest]) [8,30,31,32,33,34,35,36,37,38,39] (fun(j:Nat)=>j≤(bel n.n.ID).length) (fun(j:Nat)=>(bel n.n.ID).length - j) (0) (by simp <;> rfl) ?_ (by simp) (by rw [List.take_zero,aBl,kA hq1]) ?_ ?_
 ·simp
 ·simp
 rintro j hj;simp only [List.cons_append,List.nil_append];refine zr qr142 fun _ _ Z=>?_;simp(disch:=omega)[hq,hq1,hbl3,cB,bO,bU,cR hq1,cU hq1,aS,aV,aP,aM,aH];apply Z;apply aC;refine zi ?_;refine⟨fun c3=>?_,fun c3=>?_⟩
 ·try simp at c3
  have hjj:j<(bel n.n.ID).length:=by omega
  apply aE;apply aA;apply aC;apply aG;refine zr qr142 fun _ _ Z=>?_;simp(disch:=omega)[hq,hq1,hbl3,cB,bO,bU,cR hq1,cU hq1,aS,aV,aP,aM,aH];and_intros<;>(try omega);apply Z;refine zt qr142 fun _ _ Z=>?_;simp(disch:=omega)[hq,hq1,hbl3,cB,bO,bU,cR hq1,cU hq1,aS,aV,aP,aM,aH];refine⟨m,2,d1.ck,_,_,⟨⟨_,cR hq1 _ _,rfl⟩,iZ _,aE0 (aFu hnd _)⟩,?_⟩;rw [Fg (cR hq1 _ _),cU hq1,← Th d1 (bel n.n.ID) j hjj];and_intros<;>(try omega);apply Z;apply aK;apply aA;refine zk [0,4,8,28,29,30] ?_;refine zt qr142 fun _ _ Z=>?_;simp(disch:=omega)[hq,hq1,hbl3,cB,bO,bU,cR hq1,cU hq1,aS,aV,aP,aM,aH];and_intros<;>(try omega);apply Z;refine dU (j+1) ?_ ?_ (dD rfl ?_ (by simp) (by simp [mX,pE]))
  ·omega
  ·try dsimp only
   omega
  simp(disch:=omega)[hq,hq1,hbl3,cB,bO,bU,cR hq1,cU hq1,aS,aV,aP,aM,aH]
 try simp at c3
 obtain rfl:j=(bel n.n.ID).length:=by omega
 rw [List.take_length];apply bC;apply bB;apply bD;apply aX;apply aA;refine zr qr142 fun _ _ Z=>?_;simp(disch:=omega)[hq,hq1,hbl3,cB,bO,bU,cR hq1,cU hq1,aS,aV,aP,aM,aH];apply Z;apply aB;simp [aL]
end Go.Proofs.YtbgfljpnhhdkoaaGreat
