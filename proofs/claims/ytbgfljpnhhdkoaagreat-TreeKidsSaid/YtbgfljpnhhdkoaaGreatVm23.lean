import Derived.Test.YtbgfljpnhhdkoaaGreatTePa
import Derived.Test.YtbgfljpnhhdkoaaGreatWkTe7
import Derived.Test.YtbgfljpnhhdkoaaGreatWkTf2
import Derived.Test.YtbgfljpnhhdkoaaGreatVm22
import Derived.ProofKit
set_option linter.all false
set_option maxRecDepth 20000
set_option maxHeartbeats 8000000
open Go.Proofs.Tryz
namespace Go.Proofs.YtbgfljpnhhdkoaaGreat
open Go Go.Vm
variable {a j:Nat}{kinds:List Int}{p:Nat->Bool}
theorem Qd(qf:Nat->Nat) {n:Nat} (h:j<n):(List.range n)[j]?=some j:=pP h
def fl(p:Nat->Bool)(j:Nat):List Nat:=(List.range j).filter p
theorem aU5(p:Nat->Bool):fl p 0= []:=rfl
theorem Xe (h:p j=true):fl p (j+1)=fl p j++ [j]:=by unfold fl;rw [oH,fS,pU h];rfl
theorem Sm (h:p j=false):fl p (j+1)=fl p j:=by unfold fl;rw [oH,fS,rW (by simp [h])];simp
theorem tI(p:Nat->Bool)(j:Nat):(fl p j).length<=j:=by unfold fl;have:=kB p (List.range j);simpa using this
theorem aQl (h:a∈fl p j):a<j:=dS.1 (cS.1 h).1
def tkI(L:List Nat)(f:Nat->Int)(k:Nat):List Int:=(L.take k).map f
theorem aVi(L:List Nat)(f:Nat->Int):tkI L f 0= []:=rfl
theorem aJ8(L:List Nat)(f:Nat->Int)(k:Nat)(h:k<L.length):tkI L f (k+1)=tkI L f k++ [f L[k]]:=by unfold tkI;rw [bR L k h,cO];rfl
theorem aPp(L:List Nat)(f:Nat->Int)(k:Nat):(tkI L f k).length<=k:=by unfold tkI;rw [bQ,bF];omega
theorem aO3(L:List Nat)(f:Nat->Int):tkI L f L.length=L.map f:=by unfold tkI;rw [fJ]
theorem Oc(q:Nat)(i:Int)(v:VN)(x:LK)(par:D)(qs:List Nat)(σ:List (List D))(hq:σ[q]?=some (Kr i v x par qs)):Ct prog 101 [.ref q 0] σ (fun r σ'=>r= .bool (tG x)/\σ'=σ):=by
 refine zf func101 ?_;simp only [Kr] at hq;refine bC fun _ _ Z=>?_;simp[hq];apply Z;refine bC fun _ _ Z=>?_;refine zs 5 fun _ Y=>?_;simp[hq];apply Y;refine aF fun _ Y=>?_;simp[hq];refine cN (Vv x _) ?_;apply Y;simp[hq];apply Z;apply aC;simp [aG]
theorem aF7(q:Nat)(i:Int)(v:VN)(x:LK)(par:D)(qs:List Nat)(σ:List (List D))(hq:σ[q]?=some (Kr i v x par qs)):Ct prog 103 [.ref q 0] σ (fun r σ'=>r= .bool (!tG x)/\σ'=σ):=by
 refine zf func103 ?_;refine bC fun _ _ Z=>?_;simp;apply Z;refine bC fun _ _ Z=>?_;refine zs 1 fun _ Y=>?_;simp;apply Y;refine aF fun _ Y=>?_;simp;refine cN (Oc q i v x par qs _ hq) ?_;apply Y;simp;apply Z;apply aC;simp [aG]
@[simp] abbrev q13_1:Cfg:=⟨[4,5,20,25],[],[],[],[]⟩
theorem Sh(q:Nat)(i:Int)(v:VN)(x:LK)(par:D)(n isf:Nat)(qf:Nat->Nat)(p:Nat->Bool)(σ:List (List D))(hq:σ[q]?=some (Kr i v x par ((List.range n).map qf)))(hn:n<=9999)(his:∀j,j<n->Ct prog isf [.ref (qf j) 0] σ (fun r τ=>r= .bool (p j)/\τ=σ)):Ct prog 102 [.ref q 0,.clo (.func isf) [] []] σ (fun r σ'=>r= .sl true ((fl p n).map fun a=>D.ref (qf a) 0)/\σ'=σ):=by
 refine zf func102 ?_;simp only [Kr] at hq;refine zr q13_1 fun _ _ Z=>?_;simp[hq];apply Z;refine zr q13_1 fun _ _ Z=>?_;simp[hq];apply Z;apply aE;refine zr q13_1 fun _ _ Z=>?_;simp[hq];and_intros<;>(try omega);apply Z;apply aR;refine zk [1,4,5,11,12,13] ?_;refine aY (fun(j:Nat)=> [(13,.d (.v (.int .i64 (j:Int)))),(5,.d (.sl true ((fl p j).map fun a=>D.ref (qf a) 0))),(7,.d (.any))]) [5,7,13,14,15,16,17,18,19,20,21,22,23,24] (fun(j:Nat)=>j<=n) (fun(j:Nat)=>n - j) (0) (by simp <;> rfl) ?_ ?_ ?_
 .simp [aU5]
 .simp
 rintro j hj;simp only [aQ,aP];have hll:=tI p j;refine zr q13_1 fun _ _ Z=>?_;simp[hq];apply Z;apply aE;refine zI ?_ ?_<;>intro c1<;>try simp at c1
 .have hrg:=Qd qf c1;apply kO;refine zr q13_1 fun _ _ Z=>?_;simp[hq,hrg];and_intros<;>(try omega);apply Z;refine zr q13_1 fun _ _ Z=>?_;refine zs 2 fun _ Y=>?_;simp[hq,hrg];apply Y;refine aF fun _ Y=>?_;simp[hq,hrg];refine cN (his j (by omega)) ?_;apply Y;simp only [dT];apply Z;refine zI ?_ ?_<;>intro c2<;>try simp at c2
  .have hnx:=Xe c2;refine zk [1,4,5,7,11,12,13] ?_;refine zt q13_1 fun _ _ Z=>?_;simp[hq,hrg];and_intros<;>(try omega);apply Z;apply zB;refine zk [1,4,5,7,11,12,13] ?_;refine zt q13_1 fun _ _ Z=>?_;simp[hq,hrg];and_intros<;>(try omega);apply Z;refine zq (j+1) ?_ ?_ ?_
   .omega
   .try dsimp only
    omega
   simp[hq,hnx,hrg]
  have hnx:=Sm (by simpa using c2);apply nM;refine zk [1,4,5,7,11,12,13] ?_;refine zt q13_1 fun _ _ Z=>?_;simp[hq,hrg];and_intros<;>(try omega);apply Z;refine zq (j+1) ?_ ?_ ?_
  .omega
  .try dsimp only
   omega
  simp[hq,hnx,hrg]
 obtain rfl:j=n:=by omega
 apply zE;refine zr q13_1 fun _ _ Z=>?_;simp[hq];apply Z;apply aC;simp [aG]
@[simp] abbrev q13_2:Cfg:=⟨[2,3,12,20],[],[],[],[]⟩
theorem aBl(L:List Nat)(qf:Nat->Nat)(idf:Nat->Int)(vs:Nat->VN)(xs:Nat->LK)(pr:Nat->D)(rs:Nat->List Nat)(σ:List (List D))(hl:L.length<=9999)(hk:∀a∈L,σ[qf a]?=some (Kr (idf a) (vs a) (xs a) (pr a) (rs a))):Ct prog 41 [.sl false ((L).map fun a=>D.ref (qf a) 0)] σ (fun r σ'=>r= .sl true ((L.map idf).map D.int)/\σ'=σ):=by
 refine zf func41 ?_;refine zr q13_2 fun _ _ Z=>?_;simp;apply Z;refine zr q13_2 fun _ _ Z=>?_;simp;apply Z;apply aE;refine zr q13_2 fun _ _ Z=>?_;simp;and_intros<;>(try omega);apply Z;apply aR;refine zk [2,3,6,7,8] ?_;refine aY (fun(k:Nat)=> [(8,.d (.v (.int .i64 (k:Int)))),(3,.d (.sl true ((tkI L idf k).map D.int))),(5,.d (.any))]) [3,5,8,9,10,11,12,13,14,15,16,17,18,19] (fun(k:Nat)=>k<=L.length) (fun(k:Nat)=>L.length - k) (0) (by simp <;> rfl) ?_ ?_ ?_
 .simp [aVi]
 .simp
 rintro k hk2;simp only [aQ,aP];have hll:=aPp L idf k;refine zr q13_2 fun _ _ Z=>?_;simp;apply Z;apply aE;refine zI ?_ ?_<;>intro c1<;>try simp at c1
 .have hnx:=aJ8 L idf k (by omega);have hkk:=hk L[k] (cB _);simp only [Kr] at hkk;have hrg:L[k]?=some L[k]:=aT _;apply kO;refine zr q13_2 fun _ _ Z=>?_;simp[hkk,hrg];and_intros<;>(try omega);apply Z;refine zt q13_2 fun _ _ Z=>?_;simp[hkk,hrg];and_intros<;>(try omega);apply Z;apply zB;refine zk [2,3,5,6,7,8] ?_;refine zt q13_2 fun _ _ Z=>?_;simp[hkk,hrg];and_intros<;>(try omega);apply Z;refine zq (k+1) ?_ ?_ ?_
  .omega
  .try dsimp only
   omega
  simp[hnx,hkk,hrg]
 obtain rfl:k=L.length:=by omega
 rw [aO3];apply zE;refine zr q13_2 fun _ _ Z=>?_;simp;apply Z;apply aC;simp [aG]
@[simp] abbrev q13_3:Cfg:=⟨[2,3,15,23],[],[],[],[]⟩
theorem aOb(q:Nat)(i:Int)(v:VN)(x:LK)(par:D)(n:Nat)(qf:Nat->Nat)(idf:Nat->Int)(vs:Nat->VN)(xs:Nat->LK)(pr:Nat->D)(rs:Nat->List Nat)(σ:List (List D))(hq:σ[q]?=some (Kr i v x par ((List.range n).map qf)))(hn:n<=9999)(hk:∀a,a<n->σ[qf a]?=some (Kr (idf a) (vs a) (xs a) (pr a) (rs a))):Ct prog 44 [.ref q 0] σ (fun r σ'=>r= .sl true (((List.range n).map idf).map D.int)/\σ'=σ):=by
 refine zf func44 ?_;simp only [Kr] at hq;refine zr q13_3 fun _ _ Z=>?_;simp[hq];apply Z;refine zr q13_3 fun _ _ Z=>?_;simp[hq];apply Z;apply aE;refine zr q13_3 fun _ _ Z=>?_;simp[hq];and_intros<;>(try omega);apply Z;apply aR;refine zk [2,3,9,10,11] ?_;refine aY (fun(j:Nat)=> [(11,.d (.v (.int .i64 (j:Int)))),(3,.d (.sl true (((List.range j).map idf).map D.int))),(5,.d (.any))]) [3,5,11,12,13,14,15,16,17,18,19,20,21,22] (fun(j:Nat)=>j<=n) (fun(j:Nat)=>n - j) (0) (by simp <;> rfl) ?_ ?_ ?_
 .simp
 .simp
 rintro j hj;simp only [aQ,aP];refine zr q13_3 fun _ _ Z=>?_;simp[hq];apply Z;apply aE;refine zI ?_ ?_<;>intro c1<;>try simp at c1
 .have hnx:(List.range (j+1)).map idf=(List.range j).map idf++ [idf j]:=by rw [oH,cO];rfl
  have hkk:=hk j (by omega);simp only [Kr] at hkk;have hrg:=Qd qf c1;apply kO;refine zr q13_3 fun _ _ Z=>?_;simp[hq,hkk,hrg];and_intros<;>(try omega);apply Z;refine zt q13_3 fun _ _ Z=>?_;simp[hq,hkk,hrg];and_intros<;>(try omega);apply Z;apply zB;refine zk [2,3,5,9,10,11] ?_;refine zt q13_3 fun _ _ Z=>?_;simp[hq,hkk,hrg];and_intros<;>(try omega);apply Z;refine zq (j+1) ?_ ?_ ?_
  .omega
  .try dsimp only
   omega
  simp[hq,hnx,hkk,hrg]
 obtain rfl:j=n:=by omega
 apply zE;refine zr q13_3 fun _ _ Z=>?_;simp[hq];apply Z;apply aC;simp [aG]
theorem aKj(q n:Nat)(qf:Nat->Nat)(p:Nat->Bool)(σ:List (List D))(hk:Ct prog 102 [.ref q 0,.clo (.func 103) [] []] σ (fun r τ=>r= .sl true ((fl p n).map fun a=>D.ref (qf a) 0)/\τ=σ)):Ct prog 42 [.ref q 0] σ (fun r σ'=>r= .sl true ((fl p n).map fun a=>D.ref (qf a) 0)/\σ'=σ):=by
 refine zf func42 ?_;refine zr ⟨[2],[],[],[],[]⟩ fun _ _ Z=>?_;simp;apply Z;refine zr ⟨[2],[],[],[],[]⟩ fun _ _ Z=>?_;refine zs 1 fun _ Y=>?_;simp;apply Y;refine aF fun _ Y=>?_;simp;refine cN (hk) ?_;apply Y;simp;apply Z;apply aC;simp [aG]
theorem Wb(q n:Nat)(qf:Nat->Nat)(p:Nat->Bool)(σ:List (List D))(hk:Ct prog 102 [.ref q 0,.clo (.func 101) [] []] σ (fun r τ=>r= .sl true ((fl p n).map fun a=>D.ref (qf a) 0)/\τ=σ)):Ct prog 43 [.ref q 0] σ (fun r σ'=>r= .sl true ((fl p n).map fun a=>D.ref (qf a) 0)/\σ'=σ):=by
 refine zf func43 ?_;refine zr ⟨[2],[],[],[],[]⟩ fun _ _ Z=>?_;simp;apply Z;refine zr ⟨[2],[],[],[],[]⟩ fun _ _ Z=>?_;refine zs 1 fun _ Y=>?_;simp;apply Y;refine aF fun _ Y=>?_;simp;refine cN (hk) ?_;apply Y;simp;apply Z;apply aC;simp [aG]
theorem Qm:∀(ks:List VN) (i:Int) (a b:Nat) (h:a<b) (hb:b<(gG i ks).length),(gG i ks)[a]<(gG i ks)[b]
 | [],i,a,b,_,hb=>by simp [gG] at hb
 | k::ks,i,a,0,h,hb=>absurd h (by omega)
 | k::ks,i,0,b+1,h,hb=>by
  simp only [gG,xC,Es];have h1:=Pg (i+cT k) ks _ (cB (by simpa [gG] using hb));have h2:=lK k;omega
 | k::ks,i,a+1,b+1,h,hb=>by
  simp only [gG,Es];exact Qm ks _ a b (by omega) (by simpa [gG] using hb)
def k7(z:Int):Int:=IntKind.i64.wrap (((z % 2 ^ IntKind.i64.bits).toNat &&& ((7:Int) % 2 ^ IntKind.i64.bits).toNat:Nat):Int)
def nJ(kinds:List Int)(a:Nat):Int:=match kinds[a]? with
 | some z=>k7 z
 | none=>0
theorem aVc (h:a<kinds.length):nJ kinds a=k7 kinds[a]:=by unfold nJ;rw [aT h]
theorem aQg (h:¬a<kinds.length):nJ kinds a=0:=by unfold nJ;rw [iG (by omega)]
def bzK(k:Int):Bool:= !decide (k=0)
abbrev aDz:D:= .v (.pointer none)
def Hd(q:Nat)(idf:Nat->Int)(vs:Nat->VN)(rs:Nat->List Nat)(j:Nat)(k:Int):List D:=Kr (idf j) (vs j) ⟨k,0,0,0⟩ (.ref q 0) (rs j)
def Lh(kinds:List Int)(q:Nat)(qf:Nat->Nat)(idf:Nat->Int)(vs:Nat->VN)(rs:Nat->List Nat)(σ:List (List D)):Nat->List (List D)
 | 0=>σ
 | j+1=>if j<kinds.length then(Lh kinds q qf idf vs rs σ j).set (qf j) (Hd q idf vs rs j (nJ kinds j))else Lh kinds q qf idf vs rs σ j
theorem aBn(i:Int)(v:VN)(par:D)(qs:List Nat):jS i v par qs=Kr i v ⟨0,0,0,0⟩ par qs:=rfl
theorem aKs {kinds:List Int} {q:Nat} {qf:Nat->Nat} {idf:Nat->Int} {vs:Nat->VN} {rs:Nat->List Nat} {σ:List (List D)} {n:Nat} (hi:∀a b,a<n->b<n->qf a=qf b->a=b)(h0:∀a,a<n->σ[qf a]?=some (Hd q idf vs rs a 0)):
  ∀j,j<=n->(∀a,a<n->(Lh kinds q qf idf vs rs σ j)[qf a]?=some (Hd q idf vs rs a (if a<j then nJ kinds a else 0)))/\∀x,(∀a,a<n->x≠qf a)->(Lh kinds q qf idf vs rs σ j)[x]?=σ[x]?
 | 0,_=>⟨fun a ha=>by rw [aD (by omega)];exact h0 a ha,fun x _=>rfl⟩
 | j + 1, hj => by
  obtain⟨h1,h2⟩:=aKs (kinds:=kinds) hi h0 j (by omega);have hjj:=h1 j (by omega);simp only [Lh];by_cases hk:j<kinds.length
  .rw [aJ hk];refine⟨fun a ha=>?_,fun x hx=>?_⟩
   .by_cases e:a=j
    .subst e;rw [aJ (by omega)];exact aM hjj _
    rw [eK (fun e2=>e (hi a j ha (by omega) e2.symm)),h1 a ha];by_cases ha2:a<j
    .rw [aJ ha2,aJ (by omega)]
    rw [aD ha2,aD (by omega)]
   rw [eK (fun e=>hx j (by omega) e.symm)];exact h2 x hx
  rw [aD hk];refine⟨fun a ha=>?_,h2⟩;rw [h1 a ha];by_cases ha2:a<j
  .rw [aJ ha2,aJ (by omega)]
  rw [aD ha2];by_cases e:a=j
  .subst e;rw [aJ (by omega),aQg hk]
  rw [aD (by omega)]
def sK(σ:List (List D))(x:Nat):Int:=match ((σ[x]?:Option (List D)).bind fun cs=>(cs[15]?:Option D))with
 | some (D.v (Value.int _ k))=>k
 | _=>0
theorem Cl {σ:List (List D)} {x:Nat} {i:Int} {v:VN} {l:LK} {par:D} {qs:List Nat} (h:σ[x]?=some (Kr i v l par qs)):sK σ x=l.kind:=by unfold sK;rw [h];rfl
section
variable {m M l:Nat} {d:DS} {rk:Int->Nat} {σ:List (List D)}
theorem aDh(h:LX 0 m M l d rk (newX 50) [] σ) {v:VN} (hv:VG v)(gv:GV v)(cv:cT v<=25)(kinds:List Int):
  ∃(q:Nat) (σ1:List (List D)) (n:Nat) (qf:Nat->Nat) (idf:Nat->Int) (vs:Nat->VN) (rs:Nat->List Nat) (w:VN) (st:Nat->List (List D)),
   Ct prog 30 [.ref l 0,lF v] σ (fun r τ=>r= .tup [.ref q 0,D.int 0]/\τ=σ1)/\n<=9999/\st 0=σ1/\
   (∀j,j<=n->(st j)[q]?=some (Kr 1 w ⟨0,0,0,0⟩ aDz ((List.range n).map qf)))/\
   (∀j,j<n->(st j)[qf j]?=some (Hd q idf vs rs j 0))/\
   (∀j,st (j+1)=if j<kinds.length then(st j).set (qf j) (Hd q idf vs rs j (nJ kinds j))else st j)/\
   (∀j,j<n->(st n)[qf j]?=some (Hd q idf vs rs j (nJ kinds j)))/\
   Ct prog 39 [.ref q 0] (st n) (fun r τ=>r=D.int ((fl (fun a=>bzK (nJ kinds a)) n).length:Nat)/\τ=st n)/\
   Ct prog 40 [.ref q 0] (st n) (fun r τ=>r=D.int ((fl (fun a=>qY (nJ kinds a)) n).length:Nat)/\τ=st n):=by
 have c1:=Iw v;obtain⟨d1,rk1,o1,σ1,hm,lx1,it⟩:=Ss h (Up.new 50) hv gv cv (by omega) (by show(([nR].length:Nat):Int)+_<=max 1 (min 50 65536)+1;simp;omega);obtain⟨t,t1,t2,t3,t4,t5⟩:=it.ord (by omega);cases it with
 | mk _ _ _ _ _ qs hF hq hl hk =>
  have hlen:=lK (eI v);have hkl:(gG (1+1) (eI v).kids).length=qs.length:=by rw [lN,hl]
  have hc:∀j,j<qs.length->∃rs:List Nat,∀(h1:j<(eI v).kids.length) (h2:j<qs.length) (h3:j<(gG (1+1) (eI v).kids).length),σ1[qs[j]]?=some (jS ((gG (1+1) (eI v).kids)[j]) ((eI v).kids[j]) (.ref σ.length 0) rs):=fun j hj=>by
   obtain⟨rs,r1, -⟩:=(hk j (by omega) hj (by rw [lN];omega)).at_;exact⟨rs,fun _ _ _=>r1⟩
  obtain⟨rl,rl1,rl2⟩:=wJ qs.length hc;obtain⟨qf,hqf⟩:∃f:Nat->Nat,f=fun j=>qs[j]?.getD 0:=⟨_,rfl⟩;obtain⟨idf,hidf⟩:∃f:Nat->Int,f=fun j=>(gG (1+1) (eI v).kids)[j]?.getD 0:=⟨_,rfl⟩;obtain⟨vs,hvs⟩:∃f:Nat->VN,f=fun j=>(eI v).kids[j]?.getD v:=⟨_,rfl⟩;obtain⟨rs,hrs⟩:∃f:Nat->List Nat,f=fun j=>rl[j]?.getD []:=⟨_,rfl⟩;have q1:∀j (hj:j<qs.length),qf j=qs[j]:=fun j hj=>by rw [hqf];simp [hj]
  have i1:∀j (hj:j<(gG (1+1) (eI v).kids).length),idf j=(gG (1+1) (eI v).kids)[j]:=fun j hj=>by rw [hidf];show((gG (1+1) (eI v).kids)[j]?).getD 0=_;rw [aT hj];rfl
  have v1:∀j (hj:j<(eI v).kids.length),vs j=(eI v).kids[j]:=fun j hj=>by rw [hvs];simp [hj]
  have r1:∀j (hj:j<rl.length),rs j=rl[j]:=fun j hj=>by rw [hrs];simp [hj]
  have h0:∀a,a<qs.length->σ1[qf a]?=some (Hd σ.length idf vs rs a 0):=fun a ha=>by
   have:=rl2 a (by omega) (by omega) ha (by omega);unfold Hd;rw [q1 a ha,i1 a (by omega),v1 a (by omega),r1 a (by omega),<- aBn];exact this
  have hi:∀a b,a<qs.length->b<qs.length->qf a=qf b->a=b:=fun a b ha hb e=>by
   have e1:=h0 a ha;have e2:=h0 b hb;rw [e,e2] at e1;have e3:idf b=idf a:=by
    have:=jV e1;unfold Hd Kr at this;have h9:=(List.cons.inj this).1;simpa using h9
   rw [i1 a (by omega),i1 b (by omega)] at e3;rcases rR a b with hlt | heq | hgt
   .have:=Qm (eI v).kids (1+1) a b hlt (by omega);omega
   .exact heq
   have:=Qm (eI v).kids (1+1) b a hgt (by omega);omega
  have hroot:∀a,a<qs.length->σ.length≠qf a:=fun a ha e=>by
   have:=(hk a (by omega) ha (by rw [lN];omega)).F_.2;rw [<- q1 a ha] at this;omega
  have hqs:qs=(List.range qs.length).map qf:=by
   apply List.ext_getElem
   .simp
   intro j h1 h2;simp [q1 j h1]
  have hat:=fun j hj=>aKs (kinds:=kinds) (q:=σ.length) (idf:=idf) (vs:=vs) (rs:=rs) hi h0 j hj;have hrt:∀j,j<=qs.length->(Lh kinds σ.length qf idf vs rs σ1 j)[σ.length]?=some (Kr 1 (eI v) ⟨0,0,0,0⟩ aDz ((List.range qs.length).map qf)):=fun j hj=>by
   rw [(hat j hj).2 _ hroot,<- hqs,<- aBn];exact hq
  obtain⟨f1,f2⟩:=hat qs.length (aX _);have hfin:∀j,j<qs.length->(Lh kinds σ.length qf idf vs rs σ1 qs.length)[qf j]?=some (Hd σ.length idf vs rs j (nJ kinds j)):=fun j hj=>by
   have:=f1 j hj
   rwa [aJ hj] at this
  have hmem:∀a,a<qs.length->qf a∈σ.length::t:=fun a ha=>gK _ (t5 _ _ _ _ hq _ (by rw [q1 a ha];exact cB _));have hnd:(σ.length::t).Nodup:=by
   rw [gU];exact⟨fun hm=>by have:=(t4 _ hm).2;omega,t3.nodup⟩
  have hany:∀x∈σ.length::t,∃i w pr rr,(Lh kinds σ.length qf idf vs rs σ1 qs.length)[x]?=some (Kr i w ⟨sK (Lh kinds σ.length qf idf vs rs σ1 qs.length) x,0,0,0⟩ pr rr)/\(sK (Lh kinds σ.length qf idf vs rs σ1 qs.length) x≠0->∃a,a<qs.length/\x=qf a)/\∀cs,σ1[x]?=some cs->cs[26]?=some (.sl true (rr.map fun q=>D.ref q 0)):=fun x hx=>by
   by_cases hxa:∃a,a<qs.length/\x=qf a
   .obtain⟨a,ha,rfl⟩:=hxa;have e:=hfin a ha;have e15:=Cl e;refine⟨_,_,_,_,by rw [e15];exact e,fun _=>⟨a,ha,rfl⟩,fun cs hcs=>?_⟩;rw [h0 a ha] at hcs;obtain rfl:=jV hcs;rfl
   have hne:∀a,a<qs.length->x≠qf a:=fun a ha e=>hxa ⟨a,ha,e⟩;have e:=f2 x hne;rcases bM.1 hx with rfl | hx
   .have e2:(Lh kinds σ.length qf idf vs rs σ1 qs.length)[σ.length]?=some (Kr 1 (eI v) ⟨0,0,0,0⟩ aDz qs):=e.trans hq;have e15:=Cl e2;refine⟨_,_,_,_,by rw [e15];exact e2,fun h9=>absurd e15 h9,fun cs hcs=>?_⟩;rw [hq] at hcs;obtain rfl:=jV hcs;rfl
   obtain⟨j,w,p,r9, -,hx1⟩:=t3.has x hx;have e2:(Lh kinds σ.length qf idf vs rs σ1 qs.length)[x]?=some (Kr j w ⟨0,0,0,0⟩ (.ref p 0) r9):=e.trans hx1;have e15:=Cl e2;refine⟨_,_,_,_,by rw [e15];exact e2,fun h9=>absurd e15 h9,fun cs hcs=>?_⟩;rw [hx1] at hcs;obtain rfl:=jV hcs;rfl
  have hIQ:IQ (Lh kinds σ.length qf idf vs rs σ1 qs.length) σ.length (σ.length::t):=t1.frame fun x hx cs hcs=>by
   obtain⟨i,w,pr,rr,e1, -,e2⟩:=hany x hx;exact⟨_,e1,(e2 cs hcs).symm ▸ rfl⟩
  have hos:(σ.length::t).length<1000000:=by simp;omega
  have hB:=aG3 σ.length (σ.length::t) (sK (Lh kinds σ.length qf idf vs rs σ1 qs.length)) (fun _=>0) _ hIQ hos fun x hx=>by
   obtain⟨i,w,pr,rr,e1, -, -⟩:=hany x hx;exact⟨_,e1,rfl,rfl⟩
  have hG:=aCm σ.length (σ.length::t) (sK (Lh kinds σ.length qf idf vs rs σ1 qs.length)) _ hIQ hos fun x hx=>by
   obtain⟨i,w,pr,rr,e1, -, -⟩:=hany x hx;exact⟨_,0,0,0,e1,rfl,rfl,rfl,rfl⟩
  have hcB:=Jk (os:=σ.length::t) (n:=qs.length) (qf:=qf) (f:=fun x=> !(decide (sK (Lh kinds σ.length qf idf vs rs σ1 qs.length) x=0) && decide ((0:Int)=0))) hnd hi hmem fun x hx hf=>by
   obtain⟨i,w,pr,rr, -,e2, -⟩:=hany x hx;exact e2 (by simpa using hf)
  have hcG:=Jk (os:=σ.length::t) (n:=qs.length) (qf:=qf) (f:=fun x=>qY (sK (Lh kinds σ.length qf idf vs rs σ1 qs.length) x)) hnd hi hmem fun x hx hf=>by
   obtain⟨i,w,pr,rr, -,e2, -⟩:=hany x hx;exact e2 fun h9=>by rw [h9] at hf;exact absurd hf (by decide)
  have hk15:∀a,a<qs.length->sK (Lh kinds σ.length qf idf vs rs σ1 qs.length) (qf a)=nJ kinds a:=fun a ha=>Cl (hfin a ha);refine⟨σ.length,σ1,qs.length,qf,idf,vs,rs,eI v,Lh kinds σ.length qf idf vs rs σ1,hm,by omega,rfl,hrt,fun j hj=>by have:=(hat j (by omega)).1 j hj;rwa [aD (by omega)] at this,fun j=>rfl,hfin,hB.mono fun r τ hr=>⟨?_,hr.2⟩,hG.mono fun r τ hr=>⟨?_,hr.2⟩⟩
  .rw [hr.1,hcB];unfold fl;have e:(List.range qs.length).filter (fun a=> !(decide (sK (Lh kinds σ.length qf idf vs rs σ1 qs.length) (qf a)=0) && decide ((0:Int)=0)))=(List.range qs.length).filter fun a=>bzK (nJ kinds a):=by
    refine gM fun a ha=>?_;rw [hk15 a (dS.1 ha)];unfold bzK;simp
   rw [e]
  rw [hr.1,hcG];unfold fl;have e:(List.range qs.length).filter (fun a=>qY (sK (Lh kinds σ.length qf idf vs rs σ1 qs.length) (qf a)))=(List.range qs.length).filter fun a=>qY (nJ kinds a):=by
   refine gM fun a ha=>?_;rw [hk15 a (dS.1 ha)]
  rw [e]
end
@[simp] abbrev q13_4:Cfg:=⟨[9,10,11,80,87,94],[],[],[],[]⟩
theorem Rl(f:List FL)(kinds:List Int)(σ:List (List D))(hlf:f.length<=9223372036854775807)(hf:∀x∈f,FO x)(hlk:kinds.length<=9223372036854775807):Ct prog 7 [.sl false (f.map Ro),.sl false (kinds.map D.int)] σ (fun r σ'=>r= .bool true):=by
 refine zf func7 ?_;refine zr q13_4 fun _ _ Z=>?_;simp;apply Z;apply aE;refine zr q13_4 fun _ _ Z=>?_;refine aF fun _ Y=>?_;simp;refine Ma (Yq _) ?_;rintro _ σ1 hr9;subst hr9;apply Y;simp;apply Z;refine zI ?_ ?_<;>intro c1<;>try simp at c1
 apply zA;refine zr q13_4 fun _ _ Z=>?_;refine aF fun _ Y=>?_;simp;refine Ma (Ol 50 _) ?_;rintro _ τ0 ⟨m,M,l,d,rk,hr9,hx⟩;subst hr9;have hg:=hx.at_;apply Y;simp[hg];apply Z;apply aE;refine zr q13_4 fun _ _ Z=>?_;simp[hg];apply Z;refine zI ?_ ?_<;>intro c2<;>try simp at c2
 apply zA;refine zr q13_4 fun _ _ Z=>?_;refine zs 1 fun _ Y=>?_;simp[hg];apply Y;refine aF fun _ Y=>?_;simp[hg];refine Ma (aOf f 20 _ (by omega) hlf hf) ?_;rintro _ τ1 ⟨⟨v,hr1,hvv,hcv⟩,hτ1⟩;subst hr1 hτ1;apply Y;simp[hg];apply Z;apply aE;refine zr q13_4 fun _ _ Z=>?_;refine zs 1 fun _ Y=>?_;simp[hg];apply Y;refine aF fun _ Y=>?_;simp[hg];refine Ma (aEw v 20 4096 _ hvv (by omega)) ?_;rintro _ _ ⟨⟨e1,hr9,he1⟩,hs9⟩;subst hr9;subst hs9;apply Y;simp[hg];apply Z;refine zI ?_ ?_<;>intro c3<;>try simp at c3
 .refine zk [1,4,5,6] ?_;refine zr q13_4 fun _ _ Z=>?_;simp[hg];apply Z;apply aC;simp [aG]
 apply zA;refine zk [1,4,5,6] ?_;refine zr q13_4 fun _ _ Z=>?_;refine zs 2 fun _ Y=>?_;simp[hg];apply Y;refine aF fun _ Y=>?_;simp[hg];refine cN (aBg v hvv (by omega) _) ?_;apply Y;refine aF fun _ Y=>?_;simp[hg];obtain⟨q,τ1,n,qf,idf,vs,rs,w,st,hmk,hn,hst0,hrt,hk0,hst,hfin,hcB,hcG⟩:=aDh hx hvv (he1 c3) (by omega) kinds;subst hst0;have hr0:=hrt 0 (iE _);simp only [Kr] at hr0;refine cN (hmk) ?_;apply Y;simp[hg,hr0];apply Z;apply aE;refine zk [1,4,7,8] ?_;refine mE q13_4 fun all hall _ Z=>?_;have ga2:aO all 2=some 34:=hall 2;refine zs 3 fun _ Y=>?_;simp[ga2,hg,hr0];apply Y;refine zb 34 ?_ ?_<;>intro g4<;>try simp at g4
 simp[ga2,hg,hr0];apply Z;refine zI ?_ ?_<;>intro c5<;>try simp at c5
 apply zA;refine zr q13_4 fun _ _ Z=>?_;simp[hg,hr0];and_intros<;>(try omega);apply Z;apply aE;refine zk [1,4,7,9,10,11,12] ?_;refine zr q13_4 fun _ _ Z=>?_;simp[hg,hr0];and_intros<;>(try omega);apply Z;apply aR;refine zk [1,4,7,9,10,11,12,44,45,46] ?_;refine oD (fun(j:Nat)=> [(46,.d (.v (.int .i64 (j:Int)))),(9,.d (.sl true (((fl (fun a=> !qY (nJ kinds a)) j).map idf).map D.int))),(10,.d (.sl true (((fl (fun a=>qY (nJ kinds a)) j).map idf).map D.int))),(11,.d (.sl true (((List.range j).map idf).map D.int))),(12,.d (.int (((fl (fun a=>bzK (nJ kinds a)) j).length:Nat):Int))),(13,.d (.any)),(14,.d (.any))]) (fun(j:Nat)=> [[D.int v.kind,D.str v.tag,D.str v.key,D.str v.text,.sl false (v.classes.map D.str),.sl false (v.attrs.map cZ),.sl false (v.styles.map cL),D.int v.opts.enter,D.int v.opts.leave,D.int v.opts.move,D.int v.opts.mode,D.bool v.opts.appear,D.bool v.opts.moves,.sl false (v.kids.map rC)]]) (fun(j:Nat)=>st j) [9,10,11,12,13,14,46,47,48,49,50,51,52,53,54,55,56,57,58,59,60,61,62,63,64,65,66,67,68,69,70,71,72,73,74,75,76,77,78,79,80,81,82,83,84,85,86,87,88,89,90,91,92,93,94,95,96,97,98,99,100,101] (fun(j:Nat)=>j<=n) (fun(j:Nat)=>n - j) (0) (by simp <;> rfl) ?_ (by simp) (by simp) ?_ ?_
 .simp [aU5]
 .simp
 rintro j hj;simp only [aQ,aP];have hl1:=tI (fun a=> !qY (nJ kinds a)) j;have hl2:=tI (fun a=>qY (nJ kinds a)) j;have hl3:=tI (fun a=>bzK (nJ kinds a)) j;refine zk [1,4,7,9,10,11,12,13,14,44,45,46] ?_;refine zr q13_4 fun _ _ Z=>?_;simp[hg,hr0];apply Z;apply aE;refine zI ?_ ?_<;>intro c6<;>try simp at c6
 .have hkj:=hk0 j c6;simp only [Hd,Kr] at hkj;have hrg:=Qd qf c6;have hso:=hst j;have hwi:(List.range (j+1)).map idf=(List.range j).map idf++ [idf j]:=by rw [oH,cO];rfl
  have hgk:=fun c=>aM hkj c;apply kO;refine zk [1,4,7,9,10,11,12,13,14,44,45,46] ?_;refine zr q13_4 fun _ _ Z=>?_;simp[hg,hr0,hkj,hrg,hgk];and_intros<;>(try omega);apply Z;apply aE;refine zk [1,4,7,9,10,11,12,13,14,44,45,46] ?_;refine zr q13_4 fun _ _ Z=>?_;simp[hg,hr0,hkj,hrg,hgk];and_intros<;>(try omega);apply Z;refine zI ?_ ?_<;>intro c7<;>try simp at c7
  .have hkj2:kinds[j]?=some kinds[j]:=aT c7;rw [aJ c7] at hso;simp only [Hd,Kr] at hso;have hmk7:IntKind.i64.wrap (((kinds[j] % 2 ^ IntKind.i64.bits).toNat &&& 7 % 2 ^ IntKind.i64.bits:Nat):Int)=nJ kinds j:=by rw [aVc c7];rfl
   refine zk [1,4,7,9,10,11,12,13,14,44,45,46] ?_;refine zt q13_4 fun _ _ Z=>?_;refine zs 8 fun _ Y=>?_;simp[hg,hr0,hkj,hrg,hgk,hkj2,hmk7];and_intros<;>(try omega);apply Y;simp[hg,hr0,hkj,hrg,hgk,hkj2,hmk7];apply Z;apply dV;apply aE;refine zk [1,4,7,9,10,11,12,13,14,44,45,46] ?_;refine zr q13_4 fun _ _ Z=>?_;simp[hg,hr0,hkj,hrg,hgk,hkj2,hmk7];apply Z;refine zI ?_ ?_<;>intro c8<;>try simp at c8
   .have hwb:=Xe (p:=(fun a=>bzK (nJ kinds a))) (j:=j) (by unfold bzK;simp [c8]);refine zk [1,4,7,9,10,11,12,13,14,44,45,46] ?_;refine zt q13_4 fun _ _ Z=>?_;simp[hg,hr0,hkj,hrg,hgk,hkj2,hmk7];and_intros<;>(try omega);apply Z;apply dV;apply aE;refine zk [1,4,7,9,10,11,12,13,14,44,45,46] ?_;refine zr q13_4 fun _ _ Z=>?_;refine zs 5 fun _ Y=>?_;simp[hg,hr0,hkj,hrg,hgk,hkj2,hmk7];apply Y;refine aF fun _ Y=>?_;simp[hg,hr0,hkj,hrg,hgk,hkj2,hmk7];refine cN (Ga ⟨nJ kinds j,0,0,0⟩ _) ?_;apply Y;simp only [dT];apply Z;refine zI ?_ ?_<;>intro c9<;>try simp at c9
    .have hwg:=Xe (p:=(fun a=>qY (nJ kinds a))) (j:=j) c9;have hwl:=Sm (p:=(fun a=> !qY (nJ kinds a))) (j:=j) (by show(!qY (nJ kinds j))=false;rw [show qY (nJ kinds j)=true from c9];rfl);refine zk [1,4,7,9,10,11,12,13,14,44,45,46] ?_;refine zt q13_4 fun _ _ Z=>?_;simp[hg,hr0,hkj,hrg,hgk,hkj2,hmk7];and_intros<;>(try omega);apply Z;apply dV;refine zk [1,4,7,9,10,11,12,13,14,44,45,46] ?_;refine zt q13_4 fun _ _ Z=>?_;simp[hg,hr0,hkj,hrg,hgk,hkj2,hmk7];and_intros<;>(try omega);apply Z;apply zB;refine zk [1,4,7,9,10,11,12,13,14,44,45,46] ?_;refine zt q13_4 fun _ _ Z=>?_;simp[hg,hr0,hkj,hrg,hgk,hkj2,hmk7];and_intros<;>(try omega);apply Z;refine fP (j+1) ?_ ?_ (eG rfl ?_ (by simp) (by rw [hso];rfl))
     .omega
     .try dsimp only
      omega
     simp[hwb,hwg,hwl,hwi,hg,hr0,hkj,hrg,hgk,hkj2,hmk7]
    have hwg:=Sm (p:=(fun a=>qY (nJ kinds a))) (j:=j) c9;have hwl:=Xe (p:=(fun a=> !qY (nJ kinds a))) (j:=j) (by show(!qY (nJ kinds j))=true;rw [show qY (nJ kinds j)=false from c9];rfl);refine zk [1,4,7,9,10,11,12,13,14,44,45,46] ?_;refine zt q13_4 fun _ _ Z=>?_;simp[hg,hr0,hkj,hrg,hgk,hkj2,hmk7];and_intros<;>(try omega);apply Z;apply dV;refine zk [1,4,7,9,10,11,12,13,14,44,45,46] ?_;refine zt q13_4 fun _ _ Z=>?_;simp[hg,hr0,hkj,hrg,hgk,hkj2,hmk7];and_intros<;>(try omega);apply Z;apply zB;refine zk [1,4,7,9,10,11,12,13,14,44,45,46] ?_;refine zt q13_4 fun _ _ Z=>?_;simp[hg,hr0,hkj,hrg,hgk,hkj2,hmk7];and_intros<;>(try omega);apply Z;refine fP (j+1) ?_ ?_ (eG rfl ?_ (by simp) (by rw [hso];rfl))
    .omega
    .try dsimp only
     omega
    simp[hwb,hwg,hwl,hwi,hg,hr0,hkj,hrg,hgk,hkj2,hmk7]
   have hwb:=Sm (p:=(fun a=>bzK (nJ kinds a))) (j:=j) (by unfold bzK;simp [c8]);apply zA;apply aE;refine zk [1,4,7,9,10,11,12,13,14,44,45,46] ?_;refine zr q13_4 fun _ _ Z=>?_;refine zs 5 fun _ Y=>?_;simp[hg,hr0,hkj,hrg,hgk,hkj2,hmk7];apply Y;refine aF fun _ Y=>?_;simp[hg,hr0,hkj,hrg,hgk,hkj2,hmk7];refine cN (Ga ⟨nJ kinds j,0,0,0⟩ _) ?_;apply Y;simp only [dT];apply Z;refine zI ?_ ?_<;>intro c10<;>try simp at c10
   .have hwg:=Xe (p:=(fun a=>qY (nJ kinds a))) (j:=j) c10;have hwl:=Sm (p:=(fun a=> !qY (nJ kinds a))) (j:=j) (by show(!qY (nJ kinds j))=false;rw [show qY (nJ kinds j)=true from c10];rfl);refine zk [1,4,7,9,10,11,12,13,14,44,45,46] ?_;refine zt q13_4 fun _ _ Z=>?_;simp[hg,hr0,hkj,hrg,hgk,hkj2,hmk7];and_intros<;>(try omega);apply Z;apply dV;refine zk [1,4,7,9,10,11,12,13,14,44,45,46] ?_;refine zt q13_4 fun _ _ Z=>?_;simp[hg,hr0,hkj,hrg,hgk,hkj2,hmk7];and_intros<;>(try omega);apply Z;apply zB;refine zk [1,4,7,9,10,11,12,13,14,44,45,46] ?_;refine zt q13_4 fun _ _ Z=>?_;simp[hg,hr0,hkj,hrg,hgk,hkj2,hmk7];and_intros<;>(try omega);apply Z;refine fP (j+1) ?_ ?_ (eG rfl ?_ (by simp) (by rw [hso];rfl))
    .omega
    .try dsimp only
     omega
    simp[hwb,hwg,hwl,hwi,hg,hr0,hkj,hrg,hgk,hkj2,hmk7]
   have hwg:=Sm (p:=(fun a=>qY (nJ kinds a))) (j:=j) c10;have hwl:=Xe (p:=(fun a=> !qY (nJ kinds a))) (j:=j) (by show(!qY (nJ kinds j))=true;rw [show qY (nJ kinds j)=false from c10];rfl);refine zk [1,4,7,9,10,11,12,13,14,44,45,46] ?_;refine zt q13_4 fun _ _ Z=>?_;simp[hg,hr0,hkj,hrg,hgk,hkj2,hmk7];and_intros<;>(try omega);apply Z;apply dV;refine zk [1,4,7,9,10,11,12,13,14,44,45,46] ?_;refine zt q13_4 fun _ _ Z=>?_;simp[hg,hr0,hkj,hrg,hgk,hkj2,hmk7];and_intros<;>(try omega);apply Z;apply zB;refine zk [1,4,7,9,10,11,12,13,14,44,45,46] ?_;refine zt q13_4 fun _ _ Z=>?_;simp[hg,hr0,hkj,hrg,hgk,hkj2,hmk7];and_intros<;>(try omega);apply Z;refine fP (j+1) ?_ ?_ (eG rfl ?_ (by simp) (by rw [hso];rfl))
   .omega
   .try dsimp only
    omega
   simp[hwb,hwg,hwl,hwi,hg,hr0,hkj,hrg,hgk,hkj2,hmk7]
  rw [aD (by omega)] at hso;have hkd:nJ kinds j=0:=aQg (by omega);apply zA;apply aE;refine zk [1,4,7,9,10,11,12,13,14,44,45,46] ?_;refine zr q13_4 fun _ _ Z=>?_;simp[hg,hkj,hrg];apply Z;refine zI ?_ ?_<;>intro c11<;>try simp at c11
  have hwb:=Sm (p:=(fun a=>bzK (nJ kinds a))) (j:=j) (by rw [hkd];decide);apply zA;apply aE;refine zk [1,4,7,9,10,11,12,13,14,44,45,46] ?_;refine zr q13_4 fun _ _ Z=>?_;refine zs 5 fun _ Y=>?_;simp[hg,hkj,hrg];apply Y;refine aF fun _ Y=>?_;simp[hg,hkj,hrg];refine cN (Ga ⟨0,0,0,0⟩ _) ?_;apply Y;simp only [dT];apply Z;refine zI ?_ ?_<;>intro c12<;>try simp at c12
  .exact absurd c12 (by decide+kernel)
  have hwg:=Sm (p:=(fun a=>qY (nJ kinds a))) (j:=j) (by show qY (nJ kinds j)=false;rw [hkd];decide);have hwl:=Xe (p:=(fun a=> !qY (nJ kinds a))) (j:=j) (by show(!qY (nJ kinds j))=true;rw [hkd];decide);refine zk [1,4,7,9,10,11,12,13,14,44,45,46] ?_;refine zt q13_4 fun _ _ Z=>?_;simp[hg,hkj,hrg];and_intros<;>(try omega);apply Z;apply dV;refine zk [1,4,7,9,10,11,12,13,14,44,45,46] ?_;refine zt q13_4 fun _ _ Z=>?_;simp[hg,hkj,hrg];and_intros<;>(try omega);apply Z;apply zB;refine zk [1,4,7,9,10,11,12,13,14,44,45,46] ?_;refine zt q13_4 fun _ _ Z=>?_;simp[hg,hkj,hrg];and_intros<;>(try omega);apply Z;refine fP (j+1) ?_ ?_ (eG rfl ?_ (by simp) (by rw [hso];rfl))
  .omega
  .try dsimp only
   omega
  simp[hwb,hwg,hwl,hwi,hg,hkj,hrg]
 obtain rfl:j=n:=by omega
 have hrn:=hrt j (aX _);have hkl:=Sh q 1 w ⟨0,0,0,0⟩ aDz j 103 qf (fun a=> !qY (nJ kinds a)) (st j) hrn hn (fun a ha=>(aF7 (qf a) (idf a) (vs a) ⟨nJ kinds a,0,0,0⟩ (.ref q 0) (rs a) (st j) (hfin a ha)));have hkg:=Sh q 1 w ⟨0,0,0,0⟩ aDz j 101 qf (fun a=>qY (nJ kinds a)) (st j) hrn hn (fun a ha=>(Oc (qf a) (idf a) (vs a) ⟨nJ kinds a,0,0,0⟩ (.ref q 0) (rs a) (st j) (hfin a ha)));have hlv:=aKj q j qf (fun a=> !qY (nJ kinds a)) (st j) hkl;have hgh:=Wb q j qf (fun a=>qY (nJ kinds a)) (st j) hkg;have hid:=aOb q 1 w ⟨0,0,0,0⟩ aDz j qf idf vs (fun a=>⟨nJ kinds a,0,0,0⟩) (fun _=> .ref q 0) rs (st j) hrn hn hfin;apply zE;refine zk [4,7,9,10,11,12] ?_;refine mE q13_4 fun all hall _ Z=>?_;have ga5:aO all 5=some 107:=hall 5;have ga12:aO all 12=some 114:=hall 12;have ga18:aO all 18=some 120:=hall 18;have ga24:aO all 24=some 126:=hall 24;refine zs 1 fun _ Y=>?_;simp[ga5,ga12,ga18,ga24];apply Y;refine aF fun _ Y=>?_;simp[ga5,ga12,ga18,ga24];refine cN (hlv) ?_;apply Y;refine aF fun _ Y=>?_;simp[ga5,ga12,ga18,ga24];refine cN (aBl (fl (fun a=> !qY (nJ kinds a)) j) qf idf vs (fun a=>⟨nJ kinds a,0,0,0⟩) (fun _=> .ref q 0) rs _ (by have:=tI (fun a=> !qY (nJ kinds a)) j;omega) (fun a ha=>hfin a (aQl ha))) ?_;apply Y;refine zs 1 fun _ Y=>?_;simp[ga5,ga12,ga18,ga24];apply Y;refine aF fun _ Y=>?_;simp[ga5,ga12,ga18,ga24];refine cN (Ac ((fl (fun a=> !qY (nJ kinds a)) j).map idf) ((fl (fun a=> !qY (nJ kinds a)) j).map idf) _ (by have:=tI (fun a=> !qY (nJ kinds a)) j;simp;omega) (by have:=tI (fun a=> !qY (nJ kinds a)) j;simp;omega)) ?_;apply Y;refine zs 1 fun _ Y=>?_;simp[ga5,ga12,ga18,ga24];apply Y;refine zb 107 ?_ ?_<;>intro g13<;>try simp at g13
 refine zs 1 fun _ Y=>?_;simp[ga5,ga12,ga18,ga24];apply Y;refine zg ga5 fun _ Y=>?_;simp[ga5,ga12,ga18,ga24];refine cN (hgh) ?_;apply Y;refine zg ga5 fun _ Y=>?_;simp[ga5,ga12,ga18,ga24];refine cN (aBl (fl (fun a=>qY (nJ kinds a)) j) qf idf vs (fun a=>⟨nJ kinds a,0,0,0⟩) (fun _=> .ref q 0) rs _ (by have:=tI (fun a=>qY (nJ kinds a)) j;omega) (fun a ha=>hfin a (aQl ha))) ?_;apply Y;refine zs 1 fun _ Y=>?_;simp[ga5,ga12,ga18,ga24];apply Y;refine zg ga5 fun _ Y=>?_;simp[ga5,ga12,ga18,ga24];refine cN (Ac ((fl (fun a=>qY (nJ kinds a)) j).map idf) ((fl (fun a=>qY (nJ kinds a)) j).map idf) _ (by have:=tI (fun a=>qY (nJ kinds a)) j;simp;omega) (by have:=tI (fun a=>qY (nJ kinds a)) j;simp;omega)) ?_;apply Y;refine zs 2 fun _ Y=>?_;simp[ga5,ga12,ga18,ga24];apply Y;refine zb 114 ?_ ?_<;>intro g14<;>try simp at g14
 refine zs 1 fun _ Y=>?_;simp[ga5,ga12,ga18,ga24];apply Y;refine zg ga12 fun _ Y=>?_;simp[ga5,ga12,ga18,ga24];refine cN (hid) ?_;apply Y;refine zs 1 fun _ Y=>?_;simp[ga5,ga12,ga18,ga24];apply Y;refine zg ga12 fun _ Y=>?_;simp[ga5,ga12,ga18,ga24];refine cN (Ac ((List.range j).map idf) ((List.range j).map idf) _ (by have:=hn;simp;omega) (by have:=hn;simp;omega)) ?_;apply Y;refine zs 2 fun _ Y=>?_;simp[ga5,ga12,ga18,ga24];apply Y;refine zb 120 ?_ ?_<;>intro g15<;>try simp at g15
 refine zs 1 fun _ Y=>?_;simp[ga5,ga12,ga18,ga24];apply Y;refine zg ga18 fun _ Y=>?_;simp[ga5,ga12,ga18,ga24];refine cN (hcB) ?_;apply Y;refine zs 4 fun _ Y=>?_;simp[ga5,ga12,ga18,ga24];apply Y;refine zb 126 ?_ ?_<;>intro g16<;>try simp at g16
 refine zs 1 fun _ Y=>?_;simp[ga5,ga12,ga18,ga24];apply Y;refine zg ga24 fun _ Y=>?_;simp[ga5,ga12,ga18,ga24];refine cN (hcG) ?_;apply Y;simp[ga5,ga12,ga18,ga24];and_intros<;>(try omega);apply Z;apply aC;simp [aG]
end Go.Proofs.YtbgfljpnhhdkoaaGreat
namespace Go.Vm
open Go Go.RowKit
variable {n:Nat}{w:World}{α:Type}
def zC(w:World):Mem:=fun b o=>w.cell? ⟨b,o,none⟩
def CellsAt(w:World)(ds:List D)(cs:List Value):Prop:=
 ds.length=cs.length/\∀(i:Nat) (c:D) (y:Value),ds[i]?=some c->cs[i]?=some y->R (zC w) [] c y/\y.oneCell'=true/\c.flat=true
def OpenAt(w:World)(d:D)(cs:List Value):Prop:=CellsAt w d.cells cs/\d≠ .any
def Opens(P:Program)(t:TypeId) {α:Type} (f:α->D)(p:α->Prop):Prop:=
 ∀(H:Type) (enc:TypeId×Value->H) (w:World) (spare:Nat->Bool) (held:Bool) (fuel:Nat) (cs:List Value) (x:DataW H×List MemPlace),DataW.trod enc P w 0 spare held fuel t cs=some x->∃a,p a/\OpenAt w (f a) cs
theorem OpenAt.one {d:D} {y:Value} (hd:d.cells= [d])(hr:R (zC w) [] d y)(h1:y.oneCell'=true)(hf:d.flat=true)(ha:d≠ .any):OpenAt w d [y]:=by
 refine⟨⟨by rw [hd];rfl,fun i c z h2 h3=>?_⟩,ha⟩;rw [hd] at h2
 match i with
 | 0=>simp at h2 h3;subst h2;subst h3;exact⟨hr,h1,hf⟩
 | i+1=>simp at h2
section
variable {P:Program} {t:TypeId}
theorem Yt(ht:P.underlying t=some .bool):Opens P t D.bool (fun _=>True):=by
 intro H enc w spare held fuel cs x h;obtain⟨b,rfl,_⟩:=DataW.trod_bool ht h;exact⟨b,trivial,.one rfl (.v _ rfl) rfl rfl (by simp)⟩
theorem aEd(ht:P.underlying t=some (.int .i64)):Opens P t D.int (fun n=> -9223372036854775808<=n/\n<=9223372036854775807):=by
 intro H enc w spare held fuel cs x h;obtain⟨n,rfl,_,hw⟩:=DataW.trod_int ht h;refine⟨n,?_,.one rfl (.v _ rfl) rfl rfl (by simp)⟩;have h1:IntKind.i64.min= -9223372036854775808:=rfl;have h2:IntKind.i64.max=9223372036854775807:=rfl;simp only [Lit.wf,gD,eZ] at hw;omega
theorem aE5(ht:P.underlying t=some .string):Opens P t D.str (fun s=>s.size<=maxLen):=by
 intro H enc w spare held fuel cs x h;obtain⟨s,rfl,_,hw⟩:=DataW.trod_string ht h;exact⟨s,hw,.one rfl (.v _ rfl) rfl rfl (by simp)⟩
theorem OpenAt.value {d:D} {cs:List Value} (h:OpenAt w d cs):∃x:Value,x.cells.toList=cs/\R (zC w) [] d x:=by
 have gen:d.cells= [d]->∃x:Value,x.cells.toList=cs/\R (zC w) [] d x:=by
  intro hd;have hl:=h.1.1;rw [hd] at hl;obtain⟨y,rfl⟩:=List.length_eq_one_iff.1 hl.symm;have:=h.1.2 0 d y (by rw [hd];rfl) rfl;exact⟨y,by rw [Value.cells_one this.2.1],this.1⟩
 cases d with
 | agg ds=>
  refine⟨.agg cs.toArray,by simp [Value.cells],.agg ds cs.toArray (by have:=h.1.1;simp [D.cells] at this;simp [this]) (fun i e y a1 a2=>(h.1.2 i e y a1 (by simpa using a2)).1) (fun i y a2=>?_)⟩;have a2':cs[i]?=some y:=by simpa using a2
  have hi:=(aN.1 a2').1;have hl:=h.1.1;have hi2:i<(D.cells (.agg ds)).length:=by omega
  exact(h.1.2 i _ y (aT hi2) a2').2.1
 | _=>exact gen rfl
theorem Gm {Q:Nat->α->Prop} (h:∀i,i<n->∃a,Q i a):∃l:List α,l.length=n/\∀i a,l[i]?=some a->Q i a:=by
 induction n with
 | zero=>exact⟨[],rfl,by simp⟩
 | succ n ih =>
  obtain⟨l,hl,hq⟩:=ih (fun i hi=>h i (by omega));obtain⟨a,ha⟩:=h n (by omega);refine⟨l++ [a],by simp [hl],fun i b hb=>?_⟩;by_cases hi:i<l.length
  .rw [bB hi] at hb;exact hq i b hb
  rw [bT (by omega)] at hb;have h0:i - l.length=0:=by
   have:=(aN.1 hb).1;simp at this;omega
  rw [h0] at hb;simp at hb;subst hb;rw [show i=n by omega];exact ha
theorem Wv {d:D} :d.ncells=d.cells.length:=by cases d <;> rfl
theorem qN {e:TypeId} {f:α->D} {p:α->Prop} (ht:P.underlying t=some (.slice e))(h:Opens P e f p)(hk:0<P.cellsOf e):Opens P t (fun l:List α=> .sl false (l.map f)) (fun l=>l.length<=maxLen/\∀a∈l,p a):=by
 intro H enc w spare held fuel cs x hx;rcases DataW.trod_slice ht hx with ⟨rfl,_⟩ | ⟨a,len,cap,elems,rest,n,_,rfl,_,_,hlc,hcm,hlen,hel,_,_⟩
 .exact⟨[],⟨by simp,by simp⟩,.one rfl (.nil false) rfl rfl (by simp)⟩
 by_cases h0:len=0
 .subst h0;exact⟨[],⟨by simp,by simp⟩,.one rfl (.emp false a cap hcm) rfl rfl (by simp)⟩
 have each:∀i,i<len->∃b:α×List Value,p b.1/\OpenAt w (f b.1) b.2/\w.cells? 0 (a.add (i * P.cellsOf e)) (P.cellsOf e)=some b.2:=by
  intro i hi;have hi':i<elems.length:=by omega
  have:=hel i hi;rw [aT hi',lT] at this;obtain⟨ds,h1,h2⟩:=this;obtain⟨b,hb,ho⟩:=h H enc w spare held n ds _ h2;exact⟨(b,ds),hb,ho,h1⟩
 obtain⟨L,hL,hq⟩:=Gm each;have each2:∀i,i<len->∃v:Value,∃b,L[i]?=some b/\v.cells.toList=b.2/\R (zC w) [] (f b.1) v:=by
  intro i hi;have hi':i<L.length:=by omega
  have hb:L[i]?=some L[i]:=aT hi';obtain⟨v,h1,h2⟩:=(hq i _ hb).2.1.value;exact⟨v,_,hb,h1,h2⟩
 obtain⟨V,hV,hv⟩:=Gm each2;have hspot:a.spot=none:=by
  have hi':0<L.length:=by omega
  have h1:=(hq 0 _ (aT hi')).2.2;obtain⟨_,hl,hc⟩:=World.cells?_some h1;have h2:=hc 0 hk;rw [aT (by omega)] at h2;simpa [Addr.add] using World.cell?_spot h2
 obtain⟨b,off,spot⟩:=a;simp only at hspot;subst hspot;refine⟨L.map (·.1),⟨by rw [bQ,hL];exact pO hlc hcm,fun y hy=>?_⟩,.one rfl ?_ rfl rfl (by simp)⟩
 .obtain⟨z,hz,rfl⟩:=aW.1 hy;obtain⟨i,hi⟩:=eO hz;exact(hq i z hi).1
 refine .sl false _ b off len cap (P.cellsOf e) V (by simp [hV,hL]) (by simp [hL]) hk hlc hcm (fun i d x h1 h2=>?_) (fun i d h1=>?_) (fun i x h1=>?_)
 .obtain⟨z,hz,h3,h4⟩:=hv i x h2;simp only [cD,hz,fZ,bE] at h1;subst h1;exact h4
 .simp only [cD,Option.map_map,dK] at h1;obtain⟨z,hz,rfl⟩:=h1;obtain⟨_,h5,h6⟩:=hq i z hz;show(f z.1).ncells=_
  rw [Wv,h5.1.1];exact(World.cells?_some h6).2.1
 obtain⟨z,hz,h3,h4⟩:=hv i x h1;obtain⟨_,h5,h6⟩:=hq i z hz;obtain⟨_,h7,h8⟩:=World.cells?_some h6;have hsz:x.cells.size=P.cellsOf e:=by rw [<- h7,<- h3,bX]
 refine⟨hsz,fun j c hj=>?_⟩;have hjl:j<P.cellsOf e:=by rw [<- hsz];exact(dI.1 hj).1
 have hj2:z.2[j]?=some c:=by rw [<- h3];simpa using hj
 have hj3:j<(f z.1).cells.length:=by rw [h5.1.1];omega
 refine⟨(h5.1.2 j _ c (aT hj3) hj2).2.1,?_⟩;have:=h8 j hjl;rw [Addr.add_none,Addr.add_none,hj2] at this;show w.cell? _=_
 rw [show off+(i * P.cellsOf e+j)=off+i * P.cellsOf e+j by omega];exact this
theorem CellsAt.append {a b:List D} {x y:List Value} (h1:CellsAt w a x)(h2:CellsAt w b y):CellsAt w (a++b) (x++y):=by
 refine⟨by simp [h1.1,h2.1],fun i c v e1 e2=>?_⟩;by_cases hi:i<a.length
 .rw [bB hi] at e1;rw [bB (by have:=h1.1;omega)] at e2;exact h1.2 i c v e1 e2
 rw [bT (by omega)] at e1;rw [bT (by have:=h1.1;omega)] at e2;rw [<- h1.1] at e2;exact h2.2 _ c v e1 e2
def Rf(P:Program)(fs:List Field)(k n:Nat) {α:Type} (f:α->List D)(p:α->Prop):Prop:=
 ∀(H:Type) (enc:TypeId×Value->H) (w:World) (spare:Nat->Bool) (held:Bool) (fuel:Nat) (cs:List Value),cs.length=n->
  (∀fl∈fs,∃x:DataW H×List MemPlace,DataW.trod enc P w 0 spare held fuel fl.type ((cs.drop fl.offset).take (P.cellsOf fl.type))=some x)->∃a,p a/\CellsAt w (f a) (cs.drop k)
theorem uY :Rf P [] n n (fun _:Unit=> []) (fun _=>True):=by
 intro H enc w spare held fuel cs hn _;refine⟨(),trivial,?_,fun i c y h=>by simp at h⟩;rw [uC (by omega)];rfl
theorem eA {fl:Field} {fs:List Field} {k m:Nat} {β:Type} {f:α->D} {p:α->Prop} {g:β->List D} {q:β->Prop} (ho:fl.offset=k)(hc:P.cellsOf fl.type=m)(h1:Opens P fl.type f p)(h2:Rf P fs (k+m) n g q):
  Rf P (fl::fs) k n (fun ab:α×β=>(f ab.1).cells++g ab.2) (fun ab=>p ab.1/\q ab.2):=by
 intro H enc w spare held fuel cs hn hall;obtain⟨x,hx⟩:=hall fl (by simp);obtain⟨a,ha,hoa⟩:=h1 H enc w spare held fuel _ x hx;obtain⟨b,hb,hob⟩:=h2 H enc w spare held fuel cs hn (fun fl' h'=>hall fl' (by simp [h']));refine⟨(a,b),⟨ha,hb⟩,?_⟩;have e:cs.drop k=(cs.drop k).take m++cs.drop (k+m):=by
  rw [<- List.drop_drop];exact(fB m _).symm
 rw [e];rw [ho,hc] at hoa;exact hoa.1.append hob
theorem rJ {fs:Array Field} {f:α->List D} {p:α->Prop} (ht:P.underlying t=some (.struct fs))(h:Rf P fs.toList 0 (P.cellsOf t) f p):Opens P t (fun a=> .agg (f a)) p:=by
 intro H enc w spare held fuel cs x hx;obtain⟨xs,n,_,_,hl,hxl,hall⟩:=DataW.trod_struct ht hx;obtain⟨a,ha,hc⟩:=h H enc w spare held n cs hl (fun fl hfl=>by
  obtain⟨i,hi⟩:=eO hfl;rw [dG] at hi;have h1:=hall i fl hi;have hi2:i<xs.length:=by rw [hxl];exact(dI.1 hi).1
  rw [aT hi2] at h1;exact⟨_,h1⟩)
 rw [xT] at hc;exact⟨a,ha,hc,by simp⟩
theorem Opens.map {β:Type} {f:α->D} {p:α->Prop} {g:β->D} {q:β->Prop} (h:Opens P t f p)(φ:α->β)(hφ:∀a,f a=g (φ a))(hq:∀a,p a->q (φ a)):Opens P t g q:=by
 intro H enc w spare held fuel cs x hx;obtain⟨a,ha,ho⟩:=h H enc w spare held fuel cs x hx;exact⟨φ a,hq a ha,by rw [<- hφ];exact ho⟩
theorem Vz {H:Type} {enc:TypeId×Value->H} {f:α->D} {p:α->Prop} {spare:Nat->Bool} {held:Bool} {v:Value} {d:DataW H} {ps:List MemPlace} (h:Opens P t f p)(hf:∀a,(f a).cells= [f a])(hv:v.oneCell'=true)(ht:DataW.Trod enc P w 0 spare held t v d ps):
  ∃a,p a/\R (zC w) [] (f a) v/\∀X h q,Own w (zC w) [] X h q (f a) v:=by
 obtain⟨fuel,hx⟩:=ht;obtain⟨a,ha,ho⟩:=h H enc w spare held fuel _ _ hx;rw [Value.cells_one hv] at ho;have:=ho.1.2 0 (f a) v (by rw [hf];rfl) rfl;exact⟨a,ha,this.1,fun X h q=> .flat q _ _ this.2.2⟩
theorem aS3 {N:FuncId} {ds:List D} {vs:Array Value} {W:World} (hct:Ct P N ds [] (fun r _=>r= .bool true))(hl:vs.size=ds.length)
  (ha:∀(i:Nat) (d:D) (v:Value),ds[i]?=some d->vs[i]?=some v->R (zC W) [] d v/\∀X h q,Own W (zC W) [] X h q d v):
  Calls P N vs W fun e W'=>e= .returned (.bool true)/\Below W.heap.size W W':=by
 refine(hct.2 W ⟨zC W,fun _=>none, [], []⟩ vs hl rfl ⟨fun b o c h=>h,fun b t h=>by simp at h,fun t=>?_,rfl,fun n b cs h=>by simp at h,rfl,fun n b cs h=>by simp at h⟩).mono ?_
 .show SlotOk W _ t (fQ ds t) (cC vs t)
  cases hd:ds[t]? with
  | none=>
   simp only [fQ,hd];exact⟨.any _,.flat _ _ _ rfl⟩
  | some d=>
   have hlt:t<vs.size:=by rw [hl];exact(aN.1 hd).1
   have hv:vs[t]?=some vs[t]:=bL hlt;have hvv:cC vs t=vs[t]:=by simp [cC,hlt]
   rw [vN hd,hvv];obtain⟨h1,h2⟩:=ha t d _ hd hv;exact⟨h1,h2 _ _ _⟩
 rintro e W' ⟨r,σ',x,g',rfl,rfl,_,hf,hok⟩;have hs:=hok.slot 0;have hs':R g'.M g'.bs (.bool true) x:=hs.1;exact⟨by rw [hs'.vEq],hf.os,hf.tape,hf.output,hf.size,fun k hk=>(hf.keep k hk rfl).1⟩
end
end Go.Vm
