import Derived.Test.YtbgfljpnhhdkoaaGreatWkTr1
import Derived.Test.YtbgfljpnhhdkoaaGreatWkWv4
set_option linter.all false
set_option maxHeartbeats 8000000
set_option maxRecDepth 20000
open Go.Proofs.Tryz
namespace Go.Proofs.YtbgfljpnhhdkoaaGreat
open Go Go.Vm
variable {y:RD}
theorem aQc(x y:RD)(o:TOp)(n c:Int)(bel bel2:Int->List Int)(rk:Int->Nat)(σ:List (List D))(hx:NB x.l)(hnx:0<=x.next/\x.next<=1000000)(htr:Tr x.l bel rk)(htr2:Tr (remP x.l o.a) bel2 rk)(hkl:∀i,(aG x.l i).kids.length<=900)(hkn:∀i,(aG x.l i).kids.Nodup)(hsa:∀i,Sorted nA (aG x.l i).attrs)(hss:∀i,Sorted nP (aG x.l i).styles)(s1:o.name.size<=1000)(s2:o.value.size<=1000)(q1:(o.kind=1\/o.kind=2)->¬x.next=o.a->y=x/\c=1)(q2:o.kind=1->x.next=o.a->addX x 2 o.name=(y,n,c))(q3:o.kind=2->x.next=o.a->addX x 1 o.value=(y,n,c))(q4:o.kind=3->insX x bel o.a o.b o.c=(y,c))(q5:o.kind=4->movX x o.a o.b=(y,c))(q6:o.kind=5->remX x bel2 o.a=(y,c))(q7:o.kind<1\/13<o.kind->y=x/\c=14)(q8:6<=o.kind->o.kind<=13->setX x (o.kind - 6) o.a o.name o.value o.c=(y,c)):Ct prog 161 [gB x,kF o] σ (fun r σ'=>r= .tup [gB y,D.int c]/\σ'=σ):=by
 refine zf func161 ?_;refine zr ⟨[],[2,3],[],[],[]⟩ fun _ _ Z=>?_;simp;apply Z;apply aF;refine zr ⟨[],[2,3],[],[],[]⟩ fun _ _ Z=>?_;simp;apply Z;apply aS;apply aF;refine zr ⟨[],[2,3],[],[],[]⟩ fun _ _ Z=>?_;simp;apply Z;refine zI ?_ ?_<;>intro c1<;>try simp at c1
 .apply zA;refine bS (t:=true) (by simp) (fun _=>?_) (fun h=>by cases h);apply aF;refine zr ⟨[],[2,3],[],[],[]⟩ fun _ _ Z=>?_;simp;apply Z;refine zI ?_ ?_<;>intro c2<;>try simp at c2
  .refine zk [2,3,4,5] ?_;refine zr ⟨[],[2,3],[],[],[]⟩ fun _ _ Z=>?_;simp;apply Z;apply aD;obtain⟨r1,r2⟩:=q1 (by omega) (by omega);subst r1;subst r2;simp [aK]
  apply zA;refine zk [2,3,4,5] ?_;refine zr ⟨[],[2,3],[],[],[]⟩ fun _ _ Z=>?_;simp;apply Z;apply aF;refine zr ⟨[],[2,3],[],[],[]⟩ fun _ _ Z=>?_;simp;apply Z;refine zI ?_ ?_<;>intro c3<;>try simp at c3
  .omega
  apply zA;refine zk [2,3,4,5,6] ?_;refine zr ⟨[],[2,3],[],[],[]⟩ fun _ _ Z=>?_;refine zs 5 fun _ Y=>?_;simp;and_intros<;>(try omega);apply Y;refine aE fun _ Y=>?_;simp;refine cB (Je x (3 - o.kind) o.name _ hx hnx s1) ?_;rw [show(3 - o.kind:Int)=2 by omega,q2 (by omega) (by omega)];apply Y;simp;apply Z;refine zk [2,3,4,5,7,9] ?_;refine zr ⟨[],[2,3],[],[],[]⟩ fun _ _ Z=>?_;simp;apply Z;apply aD;simp [aK]
 refine zt ⟨[],[2,3],[],[],[]⟩ fun _ _ Z=>?_;simp;apply Z;apply gI;refine zI ?_ ?_<;>intro c4<;>try simp at c4
 .apply aF;refine zr ⟨[],[2,3],[],[],[]⟩ fun _ _ Z=>?_;simp;apply Z;refine zI ?_ ?_<;>intro c5<;>try simp at c5
  .refine zk [2,3,4,5] ?_;refine zr ⟨[],[2,3],[],[],[]⟩ fun _ _ Z=>?_;simp;apply Z;apply aD;obtain⟨r1,r2⟩:=q1 (by omega) (by omega);subst r1;subst r2;simp [aK]
  apply zA;refine zk [2,3,4,5] ?_;refine zr ⟨[],[2,3],[],[],[]⟩ fun _ _ Z=>?_;simp;apply Z;apply aF;refine zr ⟨[],[2,3],[],[],[]⟩ fun _ _ Z=>?_;simp;apply Z;refine zI ?_ ?_<;>intro c6<;>try simp at c6
  .refine zt ⟨[],[2,3],[],[],[]⟩ fun _ _ Z=>?_;simp;apply Z;apply gI;refine zk [2,3,4,5,6] ?_;refine zr ⟨[],[2,3],[],[],[]⟩ fun _ _ Z=>?_;refine zs 5 fun _ Y=>?_;simp;and_intros<;>(try omega);apply Y;refine aE fun _ Y=>?_;simp;refine cB (Je x (3 - o.kind) o.value _ hx hnx s2) ?_;rw [show(3 - o.kind:Int)=1 by omega,q3 (by omega) (by omega)];apply Y;simp;apply Z;refine zk [2,3,4,5,7,9] ?_;refine zr ⟨[],[2,3],[],[],[]⟩ fun _ _ Z=>?_;simp;apply Z;apply aD;simp [aK]
  omega
 refine zr ⟨[],[2,3],[],[],[]⟩ fun _ _ Z=>?_;simp;apply Z;refine zI ?_ ?_<;>intro c7<;>try simp at c7
 .refine zk [2,3,4,5] ?_;refine zr ⟨[],[2,3],[],[],[]⟩ fun _ _ Z=>?_;refine zs 7 fun _ Y=>?_;simp;apply Y;refine aE fun _ Y=>?_;simp;refine cB (aC6 x o.a o.b o.c bel rk _ hx htr (hkl _)) ?_;rw [q4 (by omega)];apply Y;simp;apply Z;apply aD;simp [aK]
 refine zk [2,3,4,5,11] ?_;refine zr ⟨[],[2,3],[],[],[]⟩ fun _ _ Z=>?_;simp;apply Z;refine zI ?_ ?_<;>intro c8<;>try simp at c8
 .refine zr ⟨[],[2,3],[],[],[]⟩ fun _ _ Z=>?_;refine zs 5 fun _ Y=>?_;simp;apply Y;refine aE fun _ Y=>?_;simp;refine cB (aCd x o.a o.b _ hx (hkn _)) ?_;rw [q5 (by omega)];apply Y;simp;apply Z;apply aD;simp [aK]
 refine zr ⟨[],[2,3],[],[],[]⟩ fun _ _ Z=>?_;simp;apply Z;refine zI ?_ ?_<;>intro c9<;>try simp at c9
 .refine zr ⟨[],[2,3],[],[],[]⟩ fun _ _ Z=>?_;refine zs 3 fun _ Y=>?_;simp;apply Y;refine aE fun _ Y=>?_;simp;refine cB (aB8 x o.a bel2 rk _ hx htr2) ?_;rw [q6 (by omega)];apply Y;simp;apply Z;apply aD;simp [aK]
 apply mM;apply aF;refine pB ⟨[],[2,3],[],[],[]⟩ fun all hall _ Z=>?_;have ga3:aT all 3=some 73:=hall 3;refine zs 4 fun _ Y=>?_;simp[ga3];apply Y;refine zb 73 ?_ ?_<;>intro g10<;>try simp at g10
 .simp[ga3];apply Z;refine bS (t:=true) (by simp) (fun _=>?_) (fun h=>by cases h);refine zk [2,3,4,5] ?_;refine zr ⟨[],[2,3],[],[],[]⟩ fun _ _ Z=>?_;simp;apply Z;apply aD;obtain⟨r1,r2⟩:=q7 (by omega);subst r1;subst r2;simp [aK]
 simp[ga3];apply Z;refine zI ?_ ?_<;>intro c11<;>try simp at c11
 .refine zk [2,3,4,5] ?_;refine zr ⟨[],[2,3],[],[],[]⟩ fun _ _ Z=>?_;simp;apply Z;apply aD;obtain⟨r1,r2⟩:=q7 (by omega);subst r1;subst r2;simp [aK]
 apply zA;refine zk [2,3,4,5] ?_;refine zr ⟨[],[2,3],[],[],[]⟩ fun _ _ Z=>?_;refine zs 8 fun _ Y=>?_;simp;and_intros<;>(try omega);apply Y;refine zs 4 fun _ Y=>?_;simp;apply Y;refine aE fun _ Y=>?_;simp;refine cB (aBw x (o.kind - 6) o.a o.name o.value o.c _ hx s1 (hsa _) (hss _)) ?_;rw [q8 (by omega) (by omega)];apply Y;simp;apply Z;apply aD;simp [aK]
theorem aBi(J:Nat)(ops:List TOp)(cs:Nat->Int)(xs:Nat->RD)(σ:List (List D))(hl:ops.length<=100000)(hJ:J<=ops.length)(h0:∀i,i<J->cs i=0)(h1:J<ops.length->¬cs J=0)(hc:∀i (h:i<ops.length),i<=J->∀τ,Ct prog 161 [gB (xs i),kF ops[i]] τ (fun r τ'=>r= .tup [gB (xs (i+1)),D.int (cs i)]/\τ'=τ)):Ct prog 70 [gB (xs 0),.sl false (ops.map kF)] σ (fun r σ'=>r= .tup [gB (xs J),D.int J,D.int (if J<ops.length then cs J else 0)]/\σ'=σ):=by
 refine zf func70 ?_;refine bE fun _ _ Z=>?_;simp(disch:=omega);apply Z;apply aF;refine bE fun _ _ Z=>?_;simp(disch:=omega);and_intros<;>(try omega);apply Z;apply aS;refine zk [1,2,4,5,6,11,12,13] ?_;refine aFf (fun(k:Nat)=> [(13,.d (.v (.int .i64 (k:Int)))),(7,.d (.any)),(10,.d (.any))]) (fun(k:Nat)=> [[.v (.int .i64 ((xs k).most)),.v (.int .i64 ((xs k).next)),.sl false (((xs k).l).map xE)], [D.int 0,D.int 0,.sl true []]]) [5,6,7,8,9,10,13,14,15,16,17,18,19,20,21,22,23,24,25,26,27,28,29,30] (fun(k:Nat)=>k<=J) (fun(k:Nat)=>J+1 - k) (0) (by simp <;> rfl) ?_ (by simp) ?_ ?_
 .simp
 .omega
 rintro k hk;simp only [aP,aN];refine bE fun _ _ Z=>?_;simp(disch:=omega);apply Z;apply aF;refine zI ?_ ?_<;>intro c1<;>try simp at c1
 .apply kR;refine bE fun _ _ Z=>?_;simp(disch:=omega);and_intros<;>(try omega);apply Z;refine zk [1,2,4,7,8,10,11,12,13] ?_;refine bE fun _ _ Z=>?_;refine zs 2 fun _ Y=>?_;simp(disch:=omega);apply Y;refine aE fun _ Y=>?_;simp(disch:=omega);refine cB (hc k (by omega) hk _) ?_;apply Y;simp(disch:=omega);apply Z;apply aF;refine zk [1,2,4,7,9,10,11,12,13] ?_;refine bE fun _ _ Z=>?_;simp(disch:=omega);apply Z;refine zI ?_ ?_<;>intro c2<;>try simp at c2
  .refine bE fun _ _ Z=>?_;simp(disch:=omega);apply Z;apply aD;obtain rfl:k=J:=by
    by_cases e:k=J
    .exact e
    exact absurd (h0 k (by omega)) c2
   simp [aK,c1]
  apply zA;refine rB fun _ _ Z=>?_;simp(disch:=omega);apply Z;apply zB;refine zk [1,2,4,7,10,11,12,13] ?_;refine rB fun _ _ Z=>?_;simp(disch:=omega);and_intros<;>(try omega);apply Z;refine zq (k+1) ?_ ?_ ?_
  .have:=h1;by_cases e:k=J
   .subst e;exact absurd c2 (h1 (by omega))
   omega
  .try dsimp only
   omega
  simp(disch:=omega)
 apply zE;refine bE fun _ _ Z=>?_;simp(disch:=omega);and_intros<;>(try omega);apply Z;apply aD;obtain rfl:k=J:=by omega
 have e:k=ops.length:=by omega
 simp [aK,e]
structure LX(k m M l:Nat)(d:DS)(rk:Int->Nat)(x:RD)(ops:List TOp)(σ:List (List D)):Prop where
 ix:IX k m M d rk x σ
 off:Off m d l
 at_:σ[l]?=some (nX m ops)
 len:ops.length<=k
variable {k m M l:Nat}{d d':DS}{rk rk':Int->Nat}{σ σ2:List (List D)}{x:RD}{ops:List TOp}
theorem LX.step(h:LX k m M l d rk x ops σ)(hi:IX (k+1) m M d' rk' y σ2)(fr:FrO m d d' σ σ2):σ2[l]?=some (nX m ops)/\∀c o,LX (k+1) m M l d' rk' y (Nv ops c o) (nt l m ops c o σ2):=by
 obtain⟨o1,o2⟩:=h.off.step (lC h.at_) fr;rw [h.at_] at o2;refine⟨o2,fun c o=>⟨?_,o1,aTt o2,by have:=aQi ops c o;have:=h.len;omega⟩⟩;unfold nt;split
 .exact hi.put o1 _
 exact hi
theorem LX.keep(h:LX k m M l d rk x ops σ):LX (k+1) m M l d rk x ops σ:=⟨h.ix.mono,h.off,h.at_,by have:=h.len;omega⟩
def Oth(m:Nat)(L:Nat->Prop)(d d':DS)(σ σ':List (List D)):Prop:=σ.length<=σ'.length/\∀i,i<σ.length->Off m d i->¬L i->Off m d' i/\σ'[i]?=σ[i]?
theorem FrO.othN(fr:FrO m d d' σ σ2)(l:Nat)(ops:List TOp)(c:Int)(o:TOp):Oth m (· =l) d d' σ (nt l m ops c o σ2):=by
 refine⟨?_,fun i hi ho hl=>?_⟩
 .unfold nt;split
  .rw [cV];exact fr.len
  exact fr.len
 obtain⟨h1,h2⟩:=ho.step hi fr;refine⟨h1,?_⟩;unfold nt;split
 .rw [eY (fun e=>hl e.symm)];exact h2
 exact h2
theorem Oth.refl(m:Nat)(L:Nat->Prop)(d:DS)(σ:List (List D)):Oth m L d d σ σ:=⟨aV _,fun _ _ h _=>⟨h,rfl⟩⟩
theorem Oth.trans {L:Nat->Prop} {d1 d2 d3:DS} {s1 s2 s3:List (List D)} (h:Oth m L d1 d2 s1 s2)(g:Oth m L d2 d3 s2 s3):Oth m L d1 d3 s1 s3:=
 ⟨sQ h.1 g.1,fun i hi ho hl=>by
  obtain⟨a,b⟩:=h.2 i hi ho hl;obtain⟨a',b'⟩:=g.2 i (by have:=h.1;omega) a hl;exact⟨a',by rw [b',b]⟩⟩
def BelOf(l:List ND)(b:Int->List Int):Prop:=∃rk,Dec l rk/\b=cF l rk
theorem BelOf.uniq {l:List ND} {b b':Int->List Int} (h:BelOf l b)(h':BelOf l b'):b=b':=by
 obtain⟨r,h1,rfl⟩:=h;obtain⟨r',h2,rfl⟩:=h';have:∀n id,r id<=n->cF l r id=cF l r' id:=by
  intro n;induction n with
  | zero=>
   intro id hid;rw [jI h1,jI h2];have:(aG l id).kids= []:=h1.nil (by omega);rw [this];rfl
  | succ n ih=>
   intro id hid;rw [jI h1,jI h2];congr 1;exact lQ fun k hk=>ih k (by have:=h1 id k hk;omega)
 funext id;exact this (r id) id (aV _)
def aYb(x:RD)(b b2:Int->List Int)(o:TOp)(y:RD)(n c:Int):Prop:=((o.kind=1\/o.kind=2)->¬x.next=o.a->y=x/\c=1)/\(o.kind=1->x.next=o.a->addX x 2 o.name=(y,n,c))/\(o.kind=2->x.next=o.a->addX x 1 o.value=(y,n,c))/\(o.kind=3->insX x b o.a o.b o.c=(y,c))/\(o.kind=4->movX x o.a o.b=(y,c))/\
  (o.kind=5->remX x b2 o.a=(y,c))/\(o.kind<1\/13<o.kind->y=x/\c=14)/\(6<=o.kind->o.kind<=13->setX x (o.kind - 6) o.a o.name o.value o.c=(y,c))
def Doc(x:RD)(o:TOp)(y:RD)(c:Int):Prop:=∃b b2 n,BelOf x.l b/\BelOf (remP x.l o.a) b2/\aYb x b b2 o y n c
theorem pr2 {α β:Type} {p:α×β} {a a':α} {b b':β} (h:p=(a,b))(h':p=(a',b')):a=a'/\b=b':=by rw [h] at h';cases h';exact⟨rfl,rfl⟩
theorem Doc.uniq {x y':RD} {o:TOp} {c c':Int} (h:Doc x o y c)(h':Doc x o y' c'):y=y'/\c=c':=by
 obtain⟨b,b2,n,h1,h2,h⟩:=h;obtain⟨b',b2',n',h1',h2',h'⟩:=h';obtain rfl:=h1.uniq h1';obtain rfl:=h2.uniq h2';obtain⟨q1,q2,q3,q4,q5,q6,q7,q8⟩:=h;obtain⟨r1,r2,r3,r4,r5,r6,r7,r8⟩:=h';by_cases k12:o.kind=1\/o.kind=2
 .by_cases hn:x.next=o.a
  .rcases k12 with k | k
   .have:=pr2 (q2 k hn) (r2 k hn);exact⟨this.1,congrArg Prod.snd this.2⟩
   have:=pr2 (q3 k hn) (r3 k hn);exact⟨this.1,congrArg Prod.snd this.2⟩
  have a:=q1 k12 hn;have b:=r1 k12 hn;exact⟨a.1.trans b.1.symm,a.2.trans b.2.symm⟩
 by_cases k3:o.kind=3
 .exact pr2 (q4 k3) (r4 k3)
 by_cases k4:o.kind=4
 .exact pr2 (q5 k4) (r5 k4)
 by_cases k5:o.kind=5
 .exact pr2 (q6 k5) (r6 k5)
 by_cases k6:6<=o.kind/\o.kind<=13
 .exact pr2 (q8 k6.1 k6.2) (r8 k6.1 k6.2)
 have a:=q7 (by omega);have b:=r7 (by omega);exact⟨a.1.trans b.1.symm,a.2.trans b.2.symm⟩
theorem sC(h:IX k m M d rk x σ)(hk:k<=800)(o:TOp)(s1:o.name.size<=1000)(s2:o.value.size<=1000)(y:RD)(n c:Int):
  (q1:(o.kind=1\/o.kind=2)->¬x.next=o.a->y=x/\c=1)->(q2:o.kind=1->x.next=o.a->addX x 2 o.name=(y,n,c))->(q3:o.kind=2->x.next=o.a->addX x 1 o.value=(y,n,c))->(q4:o.kind=3->insX x (cF d.l rk) o.a o.b o.c=(y,c))->(q5:o.kind=4->movX x o.a o.b=(y,c))->
  (q6:o.kind=5->remX x (cF (remP d.l o.a) rk) o.a=(y,c))->(q7:o.kind<1\/13<o.kind->y=x/\c=14)->(q8:6<=o.kind->o.kind<=13->setX x (o.kind - 6) o.a o.name o.value o.c=(y,c))->Doc x o y c/\∀τ,Ct prog 161 [gB x,kF o] τ (fun r τ'=>r= .tup [gB y,D.int c]/\τ'=τ):=by
 obtain⟨hi,hx⟩:=h;obtain⟨b1,b2,b3⟩:=hi.bounds (by omega);have hnb:NB x.l:=hx.nb (hi.ip.NB (by omega));have htr:Tr d.l (cF d.l rk) rk:=hi.wt.Tr (by have:=hi.ip.len;rw [vO];omega);have htr1:Tr x.l (cF d.l rk) rk:=htr.perm hx.fd;have htr2:Tr (remP x.l o.a) (cF (remP d.l o.a) rk) rk:=(aA5 hi.wt (by have:=hi.ip.len;rw [vO];omega) _).perm (oL (hx.remP _) (by rw [sV];exact hx.nd));have hnx:0<=x.next/\x.next<=1000000:=by rw [hx.next];exact b3
 have hD1:Dec d.l rk:=hi.wt.Dec;have e1:cF d.l rk=cF x.l rk:=(vB hx.fd rk).symm;have e2:cF (remP d.l o.a) rk=cF (remP x.l o.a) rk:=(vB (oL (hx.remP _) (by rw [sV];exact hx.nd)) rk).symm;exact fun q1 q2 q3 q4 q5 q6 q7 q8=>⟨⟨_,_,n,⟨rk,fun i k hk=>by rw [hx.fd] at hk;exact hD1 i k hk,e1⟩,⟨rk,fun i k hk=>by rw [oL (hx.remP _) (by rw [sV];exact hx.nd)] at hk;exact Dec.rem hi.wt o.a i k hk,e2⟩,q1,q2,q3,q4,q5,q6,q7,q8⟩,fun τ=>aQc x y o n c (cF d.l rk) (cF (remP d.l o.a) rk) rk τ hnb hnx htr1 htr2 (fun i=>by rw [hx.fd];exact aL9 hi hk i) (fun i=>by rw [hx.fd];exact aKo hi i) (fun i=>by rw [hx.fd];exact aM1 hi i) (fun i=>by rw [hx.fd];exact aOh hi i) s1 s2 q1 q2 q3 q4 q5 q6 q7 q8⟩
theorem aTx(h:LX k m M l d rk x ops σ)(hk:k<=800)(p a i:Int):∃d' rk' y c σ',Ct prog 64 [.ref l 0,D.int p,D.int a,D.int i] σ (fun r τ=>r=D.int c/\τ=σ')/\LX (k+1) m M l d' rk' y (Nv ops c ⟨3,p,a,i,⟨#[]⟩,⟨#[]⟩⟩) σ'/\Doc x ⟨3,p,a,i,⟨#[]⟩,⟨#[]⟩⟩ y c/\(∀τ,Ct prog 161 [gB x,kF ⟨3,p,a,i,⟨#[]⟩,⟨#[]⟩⟩] τ (fun r τ'=>r= .tup [gB y,D.int c]/\τ'=τ))/\Oth m (· =l) d d' σ σ':=by
 have hh:=h;obtain⟨⟨hi,hx⟩,hoff,hat,hlen⟩:=h;have hl:ops.length<=100000:=by omega
 have e0:(⟨#[]⟩:ByteArray).size<=1000:=by decide
 obtain⟨d',rk',σ',hc,hi',e,fr⟩:=aMg k m M d rk p a i σ hi hk;obtain⟨p1,p2⟩:=hx.insX (cF d.l rk) p a i;obtain⟨o2,st⟩:=hh.step ⟨hi',by rw [e];exact p2⟩ fr;obtain⟨r1,r2⟩:=sC ⟨hi,hx⟩ hk ⟨3,p,a,i,⟨#[]⟩,⟨#[]⟩⟩ e0 e0 _ 0 _ (fun q _=>by simp at q) (fun q _=>by simp at q) (fun q _=>by simp at q) (fun _=>jH p1) (fun q=>by simp at q) (fun q=>by simp at q) (fun q=>by simp at q) (fun q=>by simp at q);exact⟨d',rk',_,_,_,aAp l m ops p a i _ σ' σ hat hc o2 hl,st _ _,r1,r2,fr.othN l ops _ _⟩
theorem aTn(h:LX k m M l d rk x ops σ)(hk:k<=800)(i a:Int):∃d' rk' y c σ',Ct prog 65 [.ref l 0,D.int i,D.int a] σ (fun r τ=>r=D.int c/\τ=σ')/\LX (k+1) m M l d' rk' y (Nv ops c ⟨4,i,a,0,⟨#[]⟩,⟨#[]⟩⟩) σ'/\Doc x ⟨4,i,a,0,⟨#[]⟩,⟨#[]⟩⟩ y c/\(∀τ,Ct prog 161 [gB x,kF ⟨4,i,a,0,⟨#[]⟩,⟨#[]⟩⟩] τ (fun r τ'=>r= .tup [gB y,D.int c]/\τ'=τ))/\Oth m (· =l) d d' σ σ':=by
 have hh:=h;obtain⟨⟨hi,hx⟩,hoff,hat,hlen⟩:=h;have hl:ops.length<=100000:=by omega
 have e0:(⟨#[]⟩:ByteArray).size<=1000:=by decide
 obtain⟨d',rk',σ',hc,hi',e,fr⟩:=aNs k m M d rk i a σ hi hk;obtain⟨p1,p2⟩:=hx.movX i a;obtain⟨o2,st⟩:=hh.step ⟨hi',by rw [e];exact p2⟩ fr;obtain⟨r1,r2⟩:=sC ⟨hi,hx⟩ hk ⟨4,i,a,0,⟨#[]⟩,⟨#[]⟩⟩ e0 e0 _ 0 _ (fun q _=>by simp at q) (fun q _=>by simp at q) (fun q _=>by simp at q) (fun q=>by simp at q) (fun _=>jH p1) (fun q=>by simp at q) (fun q=>by simp at q) (fun q=>by simp at q);exact⟨d',rk',_,_,_,aM0 l m ops i a _ σ' σ hat hc o2 hl,st _ _,r1,r2,fr.othN l ops _ _⟩
theorem aT5(h:LX k m M l d rk x ops σ)(hk:k<=800)(i:Int)(s:ByteArray)(hs:s.size<=1000):∃d' rk' y c σ',Ct prog 80 [.ref l 0,D.int i,D.str s] σ (fun r τ=>r=D.int c/\τ=σ')/\LX (k+1) m M l d' rk' y (Nv ops c ⟨6,i,0,0,s,⟨#[]⟩⟩) σ'/\Doc x ⟨6,i,0,0,s,⟨#[]⟩⟩ y c/\(∀τ,Ct prog 161 [gB x,kF ⟨6,i,0,0,s,⟨#[]⟩⟩] τ (fun r τ'=>r= .tup [gB y,D.int c]/\τ'=τ))/\Oth m (· =l) d d' σ σ':=by
 have hh:=h;obtain⟨⟨hi,hx⟩,hoff,hat,hlen⟩:=h;have hl:ops.length<=100000:=by omega
 have e0:(⟨#[]⟩:ByteArray).size<=1000:=by decide
 obtain⟨d',rk',σ',hc,hi',e,fr⟩:=aCf k m M d rk σ i s ⟨#[]⟩ 0 hi hk hs;obtain⟨p1,p2⟩:=hx.setX 0 i s ⟨#[]⟩ 0;obtain⟨o2,st⟩:=hh.step ⟨hi',by rw [e];exact p2⟩ fr;obtain⟨r1,r2⟩:=sC ⟨hi,hx⟩ hk ⟨6,i,0,0,s,⟨#[]⟩⟩ hs e0 _ 0 _ (fun q _=>by simp at q) (fun q _=>by simp at q) (fun q _=>by simp at q) (fun q=>by simp at q) (fun q=>by simp at q) (fun q=>by simp at q) (fun q=>by simp at q) (fun _ _=>jH p1);exact⟨d',rk',_,_,_,aBa l m ops i s _ σ' σ hat hc o2 hl,st _ _,r1,r2,fr.othN l ops _ _⟩
def RPath:RD->List TOp->RD->Prop
 | x, [],y=>y=x
 | x,o::r,z=>∃y,(∀τ,Ct prog 161 [gB x,kF o] τ (fun r τ'=>r= .tup [gB y,D.int 0]/\τ'=τ))/\RPath y r z
theorem RPath.snoc {o:TOp} {z:RD} :∀ {ops:List TOp} {x:RD},RPath x ops y->(∀τ,Ct prog 161 [gB y,kF o] τ (fun r τ'=>r= .tup [gB z,D.int 0]/\τ'=τ))->RPath x (ops++ [o]) z
 | [],x,h,ho=>by have e:y=x:=h;subst e;exact⟨z,ho,rfl⟩
 | p::r,x,⟨w,hw,h⟩,ho=>⟨w,hw,RPath.snoc h ho⟩
theorem RPath.xs:∀ {ops:List TOp} {x y:RD},RPath x ops y->∃xs:Nat->RD,xs 0=x/\xs ops.length=y/\∀i (h:i<ops.length),∀τ,Ct prog 161 [gB (xs i),kF ops[i]] τ (fun r τ'=>r= .tup [gB (xs (i+1)),D.int 0]/\τ'=τ)
 | [],x,y,h=>⟨fun _=>x,rfl,Eq.symm h,fun i h=>by simp at h⟩
 | o::r,x,y,⟨w,hw,h⟩=>by
  obtain⟨xs,h1,h2,h3⟩:=RPath.xs h;refine⟨fun i=>match i with | 0=>x | i+1=>xs i,rfl,h2,fun i hi=>?_⟩
  match i with
  | 0=>show ∀τ,Ct _ _ [gB x,kF o] τ (fun r τ'=>r= .tup [gB (xs 0),D.int 0]/\τ'=τ);rw [h1];exact hw
  | i+1=>exact h3 i (by simpa using hi)
theorem RPath.replay {x:RD} {ops:List TOp} (h:RPath x ops y)(hl:ops.length<=100000)(τ:List (List D)):Ct prog 70 [gB x,.sl false (ops.map kF)] τ (fun r τ'=>r= .tup [gB y,D.int ops.length,D.int 0]/\τ'=τ):=by
 obtain⟨xs,h1,h2,h3⟩:=h.xs;have:=aBi ops.length ops (fun _=>0) xs τ hl (aV _) (fun _ _=>rfl) (fun h=>absurd h (vM _)) (fun i hi _ τ=>h3 i hi τ);rw [h1,h2] at this;simpa using this
variable {k m M l:Nat} {d d':DS} {rk rk':Int->Nat} {σ σ2:List (List D)} {x y:RD} {ops:List TOp}
inductive DoS(a:Act)(x:RD):RD->Prop
 | el (q:(dG a).kind=0):DoS a x (addX x 2 (dG a).name).1
 | tx (q:(dG a).kind=1):DoS a x (addX x 1 (dG a).value).1
 | ins (b:Int->List Int) (q:(dG a).kind=2) (hb:BelOf x.l b):DoS a x (insX x b (dG a).a (dG a).b (dG a).c).1
 | mov (q:(dG a).kind=3):DoS a x (movX x (dG a).a (dG a).b).1
 | rem (b:Int->List Int) (q:(dG a).kind=4) (hb:BelOf (remP x.l (dG a).a) b):DoS a x (remX x b (dG a).a).1
 | set (q:10<=(dG a).kind/\(dG a).kind<=17):DoS a x (setX x ((dG a).kind - 10) (dG a).a (dG a).name (dG a).value (dG a).c).1
 | no (q0:¬(dG a).kind=0) (q1:¬(dG a).kind=1) (q2:¬(dG a).kind=2) (q3:¬(dG a).kind=3) (q4:¬(dG a).kind=4) (q5:¬(10<=(dG a).kind/\(dG a).kind<=17)):DoS a x x
theorem aO4(a:Act)(h:IX k m M d rk x σ)(hk:k<=800)(h1:a.name.size<=9223372036854775807)(h2:a.value.size<=9223372036854775807):
  ∃d' rk' σ' y,Ct prog 60 [.ref m 0,gB x,uA a] σ (fun r τ=>r= .tup [gB y,.bool true]/\τ=σ')/\IX (k+1) m M d' rk' y σ'/\Nx d.x d'.x/\FrO m d d' σ σ'/\DoS a x y:=by
 have hh:=h;obtain⟨hi,hx⟩:=h;obtain⟨t1,t2⟩:=Xz a;obtain⟨b1,b2,b3⟩:=hi.bounds (by omega);have hnb:NB x.l:=hx.nb (hi.ip.NB (by omega));have htr:Tr d.l (cF d.l rk) rk:=hi.wt.Tr (by have:=hi.ip.len;rw [vO];omega);have htr1:Tr x.l (cF d.l rk) rk:=htr.perm hx.fd;have htr2:Tr (remP x.l (dG a).a) (cF (remP d.l (dG a).a) rk) rk:=(aA5 hi.wt (by have:=hi.ip.len;rw [vO];omega) _).perm (oL (hx.remP _) (by rw [sV];exact hx.nd));have hnx:0<=x.next/\x.next<=1000000:=by rw [hx.next];exact b3
 have hkl:∀i,(aG x.l i).kids.length<=900:=fun i=>by rw [hx.fd];exact aL9 hi hk i
 have hkn:∀i,(aG x.l i).kids.Nodup:=fun i=>by rw [hx.fd];exact aKo hi i
 have hsa:∀i,Sorted nA (aG x.l i).attrs:=fun i=>by rw [hx.fd];exact aM1 hi i
 have hss:∀i,Sorted nP (aG x.l i).styles:=fun i=>by rw [hx.fd];exact aOh hi i
 have hD1:BelOf x.l (cF d.l rk):=⟨rk,fun i k hk=>by rw [hx.fd] at hk;exact hi.wt.Dec i k hk,(vB hx.fd rk).symm⟩;have hD2:BelOf (remP x.l (dG a).a) (cF (remP d.l (dG a).a) rk):=⟨rk,fun i k hk=>by rw [oL (hx.remP _) (by rw [sV];exact hx.nd)] at hk;exact Dec.rem hi.wt (dG a).a i k hk,(vB (oL (hx.remP _) (by rw [sV];exact hx.nd)) rk).symm⟩;have W:=fun(y:RD) (n c:Int) (σ2:List (List D))=>aVp m x y n c a (cF d.l rk) (cF (remP d.l (dG a).a) rk) rk σ2 σ hnb hnx htr1 htr2 hkl hkn hsa hss;by_cases q0:(dG a).kind=0
 .obtain⟨d',rk',σ',hc,hi',e,fr⟩:=aUt k m M d rk (dG a).name σ hi hk (by omega);obtain⟨p1,p2⟩:=hx.addX hi.ip.lt 2 (dG a).name;exact⟨d',rk',σ',_,W _ _ _ σ' (fun _=>⟨hc,jH p1⟩) (fun q=>by omega) (fun q=>by omega) (fun q=>by omega) (fun q=>by omega) (fun q=>by omega) (fun q=>by omega) h1 h2,⟨hi',by rw [e];exact p2⟩,by rw [e];exact aCa _ _ _,fr,.el q0⟩
 by_cases q1:(dG a).kind=1
 .obtain⟨d',rk',σ',hc,hi',e,fr⟩:=aS9 k m M d rk (dG a).value σ hi hk;obtain⟨p1,p2⟩:=hx.addX hi.ip.lt 1 (dG a).value;exact⟨d',rk',σ',_,W _ _ _ σ' (fun q=>by omega) (fun _=>⟨hc,jH p1⟩) (fun q=>by omega) (fun q=>by omega) (fun q=>by omega) (fun q=>by omega) (fun q=>by omega) h1 h2,⟨hi',by rw [e];exact p2⟩,by rw [e];exact aCa _ _ _,fr,.tx q1⟩
 by_cases q2:(dG a).kind=2
 .obtain⟨d',rk',σ',hc,hi',e,fr⟩:=aMg k m M d rk (dG a).a (dG a).b (dG a).c σ hi hk;obtain⟨p1,p2⟩:=hx.insX (cF d.l rk) (dG a).a (dG a).b (dG a).c;exact⟨d',rk',σ',_,W _ 0 _ σ' (fun q=>by omega) (fun q=>by omega) (fun _=>⟨hc,jH p1⟩) (fun q=>by omega) (fun q=>by omega) (fun q=>by omega) (fun q=>by omega) h1 h2,⟨hi',by rw [e];exact p2⟩,by rw [e];exact aPv _ _ _ _ _,fr,.ins _ q2 hD1⟩
 by_cases q3:(dG a).kind=3
 .obtain⟨d',rk',σ',hc,hi',e,fr⟩:=aNs k m M d rk (dG a).a (dG a).b σ hi hk;obtain⟨p1,p2⟩:=hx.movX (dG a).a (dG a).b;exact⟨d',rk',σ',_,W _ 0 _ σ' (fun q=>by omega) (fun q=>by omega) (fun q=>by omega) (fun _=>⟨hc,jH p1⟩) (fun q=>by omega) (fun q=>by omega) (fun q=>by omega) h1 h2,⟨hi',by rw [e];exact p2⟩,by rw [e];exact aRy _ _ _,fr,.mov q3⟩
 by_cases q4:(dG a).kind=4
 .obtain⟨d',rk',σ',hc,hi',e,fr⟩:=aUh k m M d rk (dG a).a σ hi hk;obtain⟨p1,p2⟩:=hx.remX (cF (remP d.l (dG a).a) rk) (dG a).a;exact⟨d',rk',σ',_,W _ 0 _ σ' (fun q=>by omega) (fun q=>by omega) (fun q=>by omega) (fun q=>by omega) (fun _=>⟨hc,jH p1⟩) (fun q=>by omega) (fun q=>by omega) h1 h2,⟨hi',by rw [e];exact p2⟩,by rw [e];exact aRi _ _ _,fr,.rem _ q4 hD2⟩
 by_cases q5:10<=(dG a).kind/\(dG a).kind<=17
 .obtain⟨d',rk',σ',hc,hi',e,fr⟩:=aAs (dG a) hi hk (by omega) q5;obtain⟨p1,p2⟩:=hx.setX ((dG a).kind - 10) (dG a).a (dG a).name (dG a).value (dG a).c;exact⟨d',rk',σ',_,W _ 0 _ σ' (fun q=>by omega) (fun q=>by omega) (fun q=>by omega) (fun q=>by omega) (fun q=>by omega) (fun _=>⟨hc,jH p1⟩) (fun q=>by omega) h1 h2,⟨hi',by rw [e];exact p2⟩,by rw [e];exact aOy _ _ _ _ _ _,fr,.set q5⟩
 exact⟨d,rk,σ,x,W x 0 0 σ (fun q=>by omega) (fun q=>by omega) (fun q=>by omega) (fun q=>by omega) (fun q=>by omega) (fun q=>by omega) (fun _=>⟨rfl,rfl⟩) h1 h2,⟨hi.mono,hx⟩,Nx.refl _,FrO.refl _ _ _,.no q0 q1 q2 q3 q4 q5⟩
theorem LX.on {k m M:Nat} {d:DS} {rk:Int->Nat} {x:RD} {σ:List (List D)} (h:IX k m M d rk x σ):LX k m M σ.length d rk x [] (σ++ [nX m []]):=
 ⟨h.app _,h.off (aV _),by simp,gD _⟩
variable {bel:Int->List Int}{l:List ND}{p:Int}{s:ST}
def oN(l:List ND)(bel:Int->List Int)(p i:Int):Bool:=eN l i && decide (i≠0) && decide ((aG l i).parent<0) && !oB l bel p i
def De(l:List ND)(bel:Int->List Int)(p:Int)(s:ST):Prop:=s.kind=1\/(s.kind=2/\oN l bel p s.ID=false)
def Rx(p:Int)(s:ST):TOp:=if s.kind=2 then⟨3,p,s.at_,s.ID,⟨#[]⟩,⟨#[]⟩⟩else⟨4,s.ID,s.at_,0,⟨#[]⟩,⟨#[]⟩⟩
theorem aFo {i:Int} :oN l bel p i=true↔eN l i=true/\¬i=0/\(aG l i).parent<0/\oB l bel p i=false:=by
 unfold oN;simp [and_assoc]
theorem aRp (h:s.kind=2)(hl:oN l bel p s.ID=false):De l bel p s:= .inr ⟨h,hl⟩
theorem Ju (h:s.kind=2)(hl:oN l bel p s.ID=true):¬De l bel p s:=by
 rintro(q | ⟨_,q⟩)
 .omega
 rw [hl] at q;cases q
theorem Ux (h1:¬s.kind=1)(h:¬s.kind=2):¬De l bel p s:=by
 rintro(q | ⟨q,_⟩) <;> omega
theorem Yw {α:Type} {Q:α->Prop} {S:List α} {k:Nat} (hk:k<S.length)(h:∀s∈S.take k,Q s)(hq:Q S[k]):∀s∈S.take (k+1),Q s:=by
 rw [zF hk];intro s hs;rcases cK.1 hs with hs | hs
 .exact h s hs
 simp at hs;subst hs;exact hq
theorem Ww(frm to:List Int):∀s∈kY frm to,s.kind=1\/s.kind=2\/s.kind=3:=by
 have key:∀(a b os:List Int) k,∀s∈(oH a b os k).2,s.kind=1\/s.kind=2\/s.kind=3:=by
  intro a b os k;induction k with
  | zero=>
   intro s hs;have hs:s∈lW a b:=hs;unfold lW at hs;obtain⟨i,_,rfl⟩:=aX.1 hs;exact .inl rfl
  | succ k ih=>
   intro s hs;have hs:s∈(Nw a b os (b.length - 1 - k) (oH a b os k)).2:=hs;unfold Nw at hs;split at hs
   .exact ih s hs
   rcases cK.1 hs with hs | hs
   .exact ih s hs
   simp only [gO] at hs;subst hs;show(if _ then(3:Int)else 2)=1\/_
   split <;> simp
 exact key _ _ _ _
theorem Zg(frm to:List Int):(kY frm to).length<=frm.length+to.length:=by
 have h1:=Jp (a:=cZ frm) (b:=cZ to) (os:=cZ (nI (cZ frm) (cZ to))) (cZ to).length;have h2:=vE frm;have h3:=vE to;unfold kY;omega
theorem aRa {k m M:Nat} {d:DS} {rk:Int->Nat} {σ:List (List D)} (h:IV k m M d rk σ)(i:Int):(aG d.l i).kids.length<=k+1:=by
 cases hl:eN d.l i with
 | false=>rw [jT hl];simp [Ud]
 | true=>
  obtain⟨n,h1,h2,h3⟩:=fE hl;rw [h3];have:=(h.ip.sz n h1).1;omega
inductive KR(p:Int):List ST->RD->List TOp->RD->List TOp->Prop
 | nil (x:RD) (ops:List TOp):KR p [] x ops x ops
 | snoc {ss:List ST} {s:ST} {x y z:RD} {ops ops':List TOp} {c:Int} (h:KR p ss x ops y ops') (hd:Doc y (Rx p s) z c) (hc:∀τ,Ct prog 161 [gB y,kF (Rx p s)] τ (fun r τ'=>r= .tup [gB z,D.int c]/\τ'=τ)):KR p (ss++ [s]) x ops z (Nv ops' c (Rx p s))
def aN5(d:DS)(rk:Int->Nat)(x:RD)(ops:List TOp)(p:Int)(S:List ST)(c:Int)(y:RD)(ops':List TOp):Prop:=
 (eN d.l p=false/\c=11/\y=x/\ops'=ops)\/(eN d.l p=true/\¬(aG d.l p).kind=2/\c=14/\y=x/\ops'=ops)\/
 (eN d.l p=true/\(aG d.l p).kind=2/\(((∃s∈S,De d.l (cF d.l rk) p s)/\c=1/\y=x/\ops'=ops)\/((∀s∈S,¬De d.l (cF d.l rk) p s)/\c=0/\KR p S x ops y ops')))
theorem KR.step {S:List ST} {j:Nat} {x y z:RD} {ops ops':List TOp} {c:Int} (hj:j<S.length)(h:KR p (S.take j) x ops y ops')(hd:Doc y (Rx p S[j]) z c)(hc:∀τ,Ct prog 161 [gB y,kF (Rx p S[j])] τ (fun r τ'=>r= .tup [gB z,D.int c]/\τ'=τ)):
  KR p (S.take (j+1)) x ops z (Nv ops' c (Rx p S[j])):=by
 rw [zF hj];exact h.snoc hd hc
end Go.Proofs.YtbgfljpnhhdkoaaGreat
