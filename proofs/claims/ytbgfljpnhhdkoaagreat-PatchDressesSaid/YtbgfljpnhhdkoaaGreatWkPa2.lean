import Derived.Test.YtbgfljpnhhdkoaaGreatPaKid
import Derived.Test.YtbgfljpnhhdkoaaGreatWvRef
import Derived.Test.YtbgfljpnhhdkoaaGreatWkWr3
set_option linter.all false
set_option maxRecDepth 20000
set_option maxHeartbeats 8000000
open Go.Proofs.Tryz
namespace Go.Proofs.YtbgfljpnhhdkoaaGreat
open Go Go.Vm
theorem Ou(acts:List Act)(G:Nat->RD->Prop)(hG0:G 0 (newX 20))(hGs:∀(k:Nat) (hk:k<acts.length) (x y:RD),G k x->DoS acts[k] x y->G (k+1) y)(σ:List (List D))(hl:acts.length<=9223372036854775807)(ha:∀a∈acts,a.name.size<=9223372036854775807/\a.value.size<=9223372036854775807):Ct prog 13 [.sl false (acts.map uA)] σ (fun r σ'=>∃k m M l d rk x,k<=30/\k<=acts.length/\(k<acts.length->k=30)/\r= .tup [.ref l 0,gB x]/\LX k m M l d rk x [] σ'/\G k x):=by
 refine zf func13 ?_;refine bE fun _ _ Z=>?_;simp(disch:=omega);apply Z;refine bE fun _ _ Z=>?_;refine aE fun _ Y=>?_;simp(disch:=omega);refine zcm (aQd 20 _) ?_;rintro _ τ0 ⟨hr9,hs9⟩;subst hr9;obtain⟨m,M,dd,rk0,hm0,hx0,hi0⟩:=aTu _ _ _ hs9;rw [hm0];clear hs9 hm0;apply Y;refine aE fun _ Y=>?_;simp(disch:=omega);refine cB (aQj 20 _) ?_;apply Y;simp(disch:=omega);apply Z;apply aF;refine bE fun _ _ Z=>?_;simp(disch:=omega);apply Z;refine zI ?_ ?_<;>intro c1<;>try simp at c1
 apply zA;apply aF;refine bE fun _ _ Z=>?_;simp(disch:=omega);apply Z;apply aS;refine zk [0,2,3,4,5,6] ?_;refine jR (fun(p:Nat×DS×(Int->Nat)×RD×List (List D))=> [(6,.d (.v (.int .i64 p.1)))]) (fun(p:Nat×DS×(Int->Nat)×RD×List (List D))=> [[D.int 0,D.int 0,.sl true []], [.v (.int .i64 p.2.2.2.1.most),.v (.int .i64 p.2.2.2.1.next),.sl false (p.2.2.2.1.l.map xE)]]) (fun(p:Nat×DS×(Int->Nat)×RD×List (List D))=>p.2.2.2.2) [6,12,13,14,15,16,17,18,19,20,21,22,23,24,25,26,27,28,29,30,31] (fun(p:Nat×DS×(Int->Nat)×RD×List (List D))=>p.1<=acts.length/\p.1<=30/\IX p.1 m M p.2.1 p.2.2.1 p.2.2.2.1 p.2.2.2.2/\G p.1 p.2.2.2.1) (fun(p:Nat×DS×(Int->Nat)×RD×List (List D))=>acts.length - p.1) ((0,dd,rk0,newX 20,τ0)) (by simp <;> rfl) ?_ (by simp) (by simp) ?_ ?_
 .simp
 .exact⟨gD _,gD _,hi0,hG0⟩
 rintro⟨k,d,rk,x,τ⟩ ⟨hk,hk3,hx,hg⟩;simp only [aP,aN];simp only at hk hk3 hx hg;apply aF;refine pB ⟨[],[],[],[],[]⟩ fun all hall _ Z=>?_;have ga4:aT all 4=some 16:=hall 4;refine zs 5 fun _ Y=>?_;simp(disch:=omega)[ga4];and_intros<;>(try omega);apply Y;refine zb 16 ?_ ?_<;>intro g2<;>try simp at g2
 .simp(disch:=omega)[ga4];apply Z;refine zI ?_ ?_<;>intro c3<;>try simp at c3
  .apply kR;refine zk [0,2,3,4,5,6] ?_;refine ze ⟨[],[],[],[],[]⟩ [.op {},.op {rL:=true},.op {},.op {},.op {},.op {},.det,.op {},.op {},.op {},.op {rL:=true,wL:=true}] fun all hall _ Z=>?_;refine iU 6 fun _ Y=>?_;simp(disch:=omega);and_intros<;>(try omega);apply Y;refine dL fun _ Y=>?_;simp(disch:=omega);obtain⟨d2,rk2,σ2,y2,hc2,hx2,hn2,fr2,hds⟩:=aO4 acts[k] hx (by omega) (aNz ha (by omega)).1 (aNz ha (by omega)).2;refine zdd (hc2) ?_;apply Y;simp(disch:=omega);apply Z;apply zB;refine zk [0,2,3,4,5,6] ?_;refine rB fun _ _ Z=>?_;simp(disch:=omega);and_intros<;>(try omega);apply Z;refine zq ((k+1,d2,rk2,y2,σ2)) ?_ ?_ ?_
   .exact⟨by simp only;omega,by simp only;omega,hx2,hGs k (by omega) _ _ hg hds⟩
   .try dsimp only
    omega
   simp(disch:=omega)
  apply zE;refine zk [2,3,4,5] ?_;refine zd ⟨[],[],[],[],[]⟩ [.op {},.det,.op {rL:=true},.op {},.op {rL:=true,wL:=true}] fun all hall _ Z=>?_;refine iU 1 fun _ Y=>?_;simp(disch:=omega);apply Y;refine dL fun _ Y=>?_;simp(disch:=omega);refine zdd (aNn m _) ?_;apply Y;simp(disch:=omega);apply Z;apply aD;simp [aK];exact⟨k,by omega,by omega,by omega,m,M,_,d,rk,x,⟨rfl,rfl,rfl,rfl⟩,LX.on hx,hg⟩
 simp(disch:=omega)[ga4];apply Z;refine bS (t:=false) (by simp) (fun h=>by cases h) (fun _=>?_);apply zE;refine zk [2,3,4,5] ?_;refine zd ⟨[],[],[],[],[]⟩ [.op {},.det,.op {rL:=true},.op {},.op {rL:=true,wL:=true}] fun all hall _ Z=>?_;refine iU 1 fun _ Y=>?_;simp(disch:=omega);apply Y;refine dL fun _ Y=>?_;simp(disch:=omega);refine zdd (aNn m _) ?_;apply Y;simp(disch:=omega);apply Z;apply aD;simp [aK];exact⟨k,by omega,by omega,by omega,m,M,_,d,rk,x,⟨rfl,rfl,rfl,rfl⟩,LX.on hx,hg⟩
theorem aKq(k m M l:Nat)(d:DS)(rk:Int->Nat)(x:RD)(ops:List TOp)(p i:Int)(σ:List (List D))(h:LX k m M l d rk x ops σ)(hk:k<=300):Ct prog 63 [.ref l 0,D.int p,D.int i] σ (fun r σ'=>r= .bool (oN d.l (cF d.l rk) p i)/\σ'=σ):=by
 refine zf func63 ?_;have hg:=h.at_;have hnb:=h.ix.iv.ip.NB (by omega);refine bE fun _ _ Z=>?_;simp(maxSteps:=999999)(disch:=omega)[hg];apply Z;refine bE fun _ _ Z=>?_;refine zs 5 fun _ Y=>?_;simp(maxSteps:=999999)(disch:=omega)[hg];apply Y;refine aE fun _ Y=>?_;simp(maxSteps:=999999)(disch:=omega)[hg];refine cB (Be m M d i _ h.ix.iv.ho hnb) ?_;apply Y;simp(maxSteps:=999999)(disch:=omega)[hg];apply Z;refine zk [0,1,2,6,7,8] ?_;refine pB ⟨[],[],[],[],[]⟩ fun all hall _ Z=>?_;have ga1:aT all 1=some 19:=hall 1;have ga5:aT all 5=some 23:=hall 5;have ga10:aT all 10=some 28:=hall 10;refine zs 2 fun _ Y=>?_;simp(maxSteps:=999999)(disch:=omega)[hg,ga1,ga5,ga10];apply Y;refine zb 19 ?_ ?_<;>intro g1<;>try simp at g1
 .refine zs 4 fun _ Y=>?_;simp(maxSteps:=999999)(disch:=omega)[hg,ga1,ga5,ga10];apply Y;refine zb 23 ?_ ?_<;>intro g2<;>try simp at g2
  .refine zs 5 fun _ Y=>?_;simp(maxSteps:=999999)(disch:=omega)[hg,ga1,ga5,ga10];apply Y;refine zb 28 ?_ ?_<;>intro g3<;>try simp at g3
   .refine zs 6 fun _ Y=>?_;simp(maxSteps:=999999)(disch:=omega)[hg,ga1,ga5,ga10];apply Y;refine zg ga10 fun _ Y=>?_;simp(maxSteps:=999999)(disch:=omega)[hg,ga1,ga5,ga10];refine cB (Oq m M d rk p i _ h.ix.iv.ho h.ix.iv.wt) ?_;apply Y;simp(maxSteps:=999999)(disch:=omega)[hg,ga1,ga5,ga10];apply Z;apply aD;simp [aK,oN,g1,g2,g3]
   refine zs 8 fun _ Y=>?_;simp(maxSteps:=999999)(disch:=omega)[hg,ga1,ga5,ga10];and_intros<;>try first|omega|exact rfl
   apply Y;simp(maxSteps:=999999)(disch:=omega)[hg,ga1,ga5,ga10];apply Z;apply aD;simp [aK,oN,g1,g2]
   intros;omega
  refine zs 5 fun _ Y=>?_;simp(maxSteps:=999999)(disch:=omega)[hg,ga1,ga5,ga10];apply Y;refine zs 8 fun _ Y=>?_;simp(maxSteps:=999999)(disch:=omega)[hg,ga1,ga5,ga10];and_intros<;>try first|omega|exact rfl
  apply Y;simp(maxSteps:=999999)(disch:=omega)[hg,ga1,ga5,ga10];apply Z;apply aD;simp [aK,oN,g1,g2]
 refine zs 4 fun _ Y=>?_;simp(maxSteps:=999999)(disch:=omega)[hg,ga1,ga5,ga10];apply Y;refine zs 5 fun _ Y=>?_;simp(maxSteps:=999999)(disch:=omega)[hg,ga1,ga5,ga10];apply Y;refine zs 8 fun _ Y=>?_;simp(maxSteps:=999999)(disch:=omega)[hg,ga1,ga5,ga10];and_intros<;>try first|omega|exact rfl
 apply Y;simp(maxSteps:=999999)(disch:=omega)[hg,ga1,ga5,ga10];apply Z;apply aD;simp [aK,oN,g1]
theorem aC1(k m M l:Nat)(d:DS)(rk:Int->Nat)(x:RD)(ops:List TOp)(p:Int)(to:List Int)(σ:List (List D))(h:LX k m M l d rk x ops σ)(hk:k<=300)(hto:to.length<=100):Ct prog 14 [.ref l 0,D.int p,.sl false (to.map D.int)] σ (fun r σ'=>∃c k' d' rk' y ops',r=D.int c/\k'<=2 * k+1+to.length/\LX k' m M l d' rk' y ops' σ'/\aN5 d rk x ops p (kY (aG d.l p).kids to) c y ops'/\Oth m (· =l) d d' σ σ'):=by
 refine zf func14 ?_;have hg:=h.at_;have hnb:=h.ix.iv.ip.NB (by omega);have hfk:=hnb.fk p;have hfl:=aRa h.ix.iv p;obtain⟨S,hS⟩:∃S,kY (aG d.l p).kids to=S:=⟨_,rfl⟩;have hSk:=Ww (aG d.l p).kids to;have hSl:=Zg (aG d.l p).kids to;rw [hS] at hSk hSl;refine bE fun _ _ Z=>?_;simp(maxSteps:=999999)(disch:=omega)[hg,hS];apply Z;refine bE fun _ _ Z=>?_;refine zs 5 fun _ Y=>?_;simp(maxSteps:=999999)(disch:=omega)[hg,hS];apply Y;refine aE fun _ Y=>?_;simp(maxSteps:=999999)(disch:=omega)[hg,hS];refine cB (Be m M d p _ h.ix.iv.ho hnb) ?_;apply Y;simp(maxSteps:=999999)(disch:=omega)[hg,hS];apply Z;apply Ea;refine zk [0,1,2,6,7,8] ?_;refine bE fun _ _ Z=>?_;simp(maxSteps:=999999)(disch:=omega)[hg,hS];apply Z;refine zI ?_ ?_<;>intro c1<;>try simp at c1
 .refine bE fun _ _ Z=>?_;simp(maxSteps:=999999)(disch:=omega)[hg,hS];apply Z;apply aD;simp [aK,hS];exact⟨k,by omega,d,rk,x,ops,h,.inl ⟨c1,rfl,rfl,rfl⟩,Oth.refl _ _ _ _⟩
 refine bE fun _ _ Z=>?_;simp(maxSteps:=999999)(disch:=omega)[hg,hS];apply Z;refine zI ?_ ?_<;>intro c2<;>try simp at c2
 .refine zk [0,1,2,6,7] ?_;refine bE fun _ _ Z=>?_;simp(maxSteps:=999999)(disch:=omega)[hg,hS];apply Z;apply aD;simp [aK,hS];exact⟨k,by omega,d,rk,x,ops,h,.inr (.inl ⟨c1,c2,rfl,rfl,rfl⟩),Oth.refl _ _ _ _⟩
 apply mM;refine zk [0,1,2,6,7] ?_;refine bE fun _ _ Z=>?_;refine zs 3 fun _ Y=>?_;simp(maxSteps:=999999)(disch:=omega)[hg,hS];apply Y;refine aE fun _ Y=>?_;simp(maxSteps:=999999)(disch:=omega)[hg,hS];refine cB (aKj (aG d.l p).kids to _ (by omega) (by omega)) ?_;rw [hS];apply Y;simp(maxSteps:=999999)(disch:=omega)[hg,hS];apply Z;apply aF;refine bE fun _ _ Z=>?_;simp(maxSteps:=999999)(disch:=omega)[hg,hS];and_intros<;>try first|omega|exact rfl
 apply Z;apply aS;refine zk [0,1,6,9,34,35,36] ?_;refine aZ (fun(j:Nat)=> [(36,.d (.v (.int .i64 (j:Int)))),(11,.d (.any))]) [6,11,36,37,38,39,40,41,42,43,44,45,46,47,48,49,50,51,52,53,54,55,56] (fun(j:Nat)=>j<=S.length/\∀s∈S.take j,¬De d.l (cF d.l rk) p s) (fun(j:Nat)=>S.length - j) (0) (by simp <;> rfl) ?_ ?_ ?_
 .simp
 .simp
 rintro j ⟨hj,hh⟩;simp only [aP,aN];refine bE fun _ _ Z=>?_;simp(maxSteps:=999999)(disch:=omega)[hg,hS];apply Z;apply aF;refine zI ?_ ?_<;>intro c3<;>try simp at c3
 .apply kR;refine bE fun _ _ Z=>?_;simp(maxSteps:=999999)(disch:=omega)[hg,hS];and_intros<;>try first|omega|exact rfl
  apply Z;refine zk [0,1,9,11,34,35,36] ?_;refine pB ⟨[],[],[],[],[]⟩ fun all hall _ Z=>?_;have ga3:aT all 3=some 43:=hall 3;have ga7:aT all 7=some 47:=hall 7;refine zs 4 fun _ Y=>?_;simp(maxSteps:=999999)(disch:=omega)[hg,ga3,ga7,hS];apply Y;refine zb 43 ?_ ?_<;>intro g4<;>try simp at g4
  .refine zs 8 fun _ Y=>?_;simp(maxSteps:=999999)(disch:=omega)[hg,ga3,ga7,hS];and_intros<;>try first|omega|exact rfl
   apply Y;simp(maxSteps:=999999)(disch:=omega)[hg,ga3,ga7,hS];apply Z;refine bS (t:=true) (by simp) (fun _=>?_) (fun h=>by cases h);refine zk [0,1,9,11,34,35,36] ?_;refine bE fun _ _ Z=>?_;simp(maxSteps:=999999)(disch:=omega)[hg,hS];apply Z;apply aD;simp [aK,hS];exact⟨k,by omega,d,rk,x,ops,h,.inr (.inr ⟨c1,c2,.inl ⟨⟨S[j],cN c3,.inl g4⟩,rfl,rfl,rfl⟩⟩),Oth.refl _ _ _ _⟩
  refine zs 4 fun _ Y=>?_;simp(maxSteps:=999999)(disch:=omega)[hg,ga3,ga7,hS];apply Y;refine zb 47 ?_ ?_<;>intro g5<;>try simp at g5
  .refine zs 4 fun _ Y=>?_;simp(maxSteps:=999999)(disch:=omega)[hg,ga3,ga7,hS];apply Y;refine zg ga7 fun _ Y=>?_;simp(maxSteps:=999999)(disch:=omega)[hg,ga3,ga7,hS];refine cB (aKq k m M l d rk x ops p S[j].ID _ h hk) ?_;apply Y;simp(maxSteps:=999999)(disch:=omega)[hg,ga3,ga7,hS];apply Z;refine zI ?_ ?_<;>intro c6<;>try simp at c6
   .refine zk [0,1,9,11,34,35,36] ?_;refine bE fun _ _ Z=>?_;simp(maxSteps:=999999)(disch:=omega)[hg,hS];apply Z;apply aD;simp [aK,hS];exact⟨k,by omega,d,rk,x,ops,h,.inr (.inr ⟨c1,c2,.inl ⟨⟨S[j],cN c3,aRp g5 c6⟩,rfl,rfl,rfl⟩⟩),Oth.refl _ _ _ _⟩
   have hfine:=Ju (l:=d.l) (bel:=cF d.l rk) (p:=p) g5 c6;apply mM;refine zk [0,1,9,11,34,35,36] ?_;refine rB fun _ _ Z=>?_;simp(maxSteps:=999999)(disch:=omega)[hg,hS];and_intros<;>try first|omega|exact rfl
   apply Z;refine zq (j+1) ?_ ?_ ?_
   .exact⟨by omega,Yw (by omega) hh hfine⟩
   .try dsimp only
    omega
   simp(maxSteps:=999999)(disch:=omega)[hg,hS]
  have hfine:=Ux (l:=d.l) (bel:=cF d.l rk) (p:=p) g4 g5;simp(maxSteps:=999999)(disch:=omega)[hg,ga3,ga7,hS];apply Z;refine bS (t:=false) (by simp) (fun h=>by cases h) (fun _=>?_);apply mM;refine zk [0,1,9,11,34,35,36] ?_;refine rB fun _ _ Z=>?_;simp(maxSteps:=999999)(disch:=omega)[hg,hS];and_intros<;>try first|omega|exact rfl
  apply Z;refine zq (j+1) ?_ ?_ ?_
  .exact⟨by omega,Yw (by omega) hh hfine⟩
  .try dsimp only
   omega
  simp(maxSteps:=999999)(disch:=omega)[hg,hS]
 obtain rfl:j=S.length:=by omega
 rw [eH] at hh;apply zE;apply aF;refine bE fun _ _ Z=>?_;simp(maxSteps:=999999)(disch:=omega)[hg,hS];and_intros<;>try first|omega|exact rfl
 apply Z;apply aS;refine zk [0,1,57,58,59] ?_;refine jR (fun(q:Nat×DS×(Int->Nat)×RD×List TOp×List (List D))=> [(59,.d (.v (.int .i64 (q.1:Int)))),(13,.d (.any))]) (fun(q:Nat×DS×(Int->Nat)×RD×List TOp×List (List D))=> [[.v (.int .i64 ((aG d.l p).ID)),.v (.int .i64 ((aG d.l p).kind)),.v (.string ((aG d.l p).tag)),.v (.string ((aG d.l p).text)),.sl false (((aG d.l p).classes).map D.str),.sl false (((aG d.l p).attrs).map dU),.sl false (((aG d.l p).styles).map cM),.v (.int .i64 ((aG d.l p).parent)),.sl false (((aG d.l p).kids).map D.int)]]) (fun(q:Nat×DS×(Int->Nat)×RD×List TOp×List (List D))=>q.2.2.2.2.2) [13,59,60,61,62,63,64,65,66,67,68,69,70,71,72,73,74,75,76,77,78,79] (fun(q:Nat×DS×(Int->Nat)×RD×List TOp×List (List D))=>q.1<=S.length/\LX (k+q.1) m M l q.2.1 q.2.2.1 q.2.2.2.1 q.2.2.2.2.1 q.2.2.2.2.2/\KR p (S.take q.1) x ops q.2.2.2.1 q.2.2.2.2.1/\Oth m (· =l) d q.2.1 σ q.2.2.2.2.2) (fun(q:Nat×DS×(Int->Nat)×RD×List TOp×List (List D))=>S.length - q.1) ((0,d,rk,x,ops,σ)) (by simp <;> rfl) ?_ (by simp) (by simp) ?_ ?_
 .simp
 .exact⟨gD _,h,.nil x ops,Oth.refl _ _ _ _⟩
 rintro⟨j,d1,rk1,y,ops1,σ1⟩ ⟨hj,hlx,hkr,hot⟩;simp only [aP,aN];dsimp only at hj hlx hkr hot;try dsimp only
 refine bE fun _ _ Z=>?_;simp(maxSteps:=999999)(disch:=omega)[hg,hS];apply Z;apply aF;refine zI ?_ ?_<;>intro c7<;>try simp at c7
 .apply kR;refine bE fun _ _ Z=>?_;simp(maxSteps:=999999)(disch:=omega)[hg,hS];and_intros<;>try first|omega|exact rfl
  apply Z;refine bE fun _ _ Z=>?_;simp(maxSteps:=999999)(disch:=omega)[hg,hS];apply Z;refine zI ?_ ?_<;>intro c8<;>try simp at c8
  .have hop:Rx p S[j]=⟨3,p,S[j].at_,S[j].ID,⟨#[]⟩,⟨#[]⟩⟩:=by unfold Rx;rw [aI c8]
   refine zk [0,1,13,57,58,59] ?_;refine rB fun _ _ Z=>?_;refine zs 6 fun _ Y=>?_;simp(maxSteps:=999999)(disch:=omega)[hg,hS];apply Y;refine aE fun _ Y=>?_;simp(maxSteps:=999999)(disch:=omega)[hg,hS];obtain⟨d2,rk2,y2,cc,σ2,hc2,hx2,hD2,hr2,ho2⟩:=aTx hlx (by omega) p S[j].at_ S[j].ID;rw [<- hop] at hx2 hD2 hr2;refine cB (hc2) ?_;apply Y;simp only [eE];apply Z;apply zB;refine zk [0,1,13,57,58,59] ?_;refine rB fun _ _ Z=>?_;simp(maxSteps:=999999)(disch:=omega)[hg,hS];and_intros<;>try first|omega|exact rfl
   apply Z;refine zq ((j+1,d2,rk2,y2,Nv ops1 cc (Rx p S[j]),σ2)) ?_ ?_ ?_
   .exact⟨by dsimp only;omega,hx2,hkr.step (by omega) hD2 hr2,hot.trans ho2⟩
   .dsimp only;omega
   simp(maxSteps:=999999)(disch:=omega)[hg,hS]
  have hop:Rx p S[j]=⟨4,S[j].ID,S[j].at_,0,⟨#[]⟩,⟨#[]⟩⟩:=by unfold Rx;rw [aC c8]
  refine zk [0,1,13,57,58,59] ?_;refine rB fun _ _ Z=>?_;refine zs 5 fun _ Y=>?_;simp(maxSteps:=999999)(disch:=omega)[hg,hS];apply Y;refine aE fun _ Y=>?_;simp(maxSteps:=999999)(disch:=omega)[hg,hS];obtain⟨d2,rk2,y2,cc,σ2,hc2,hx2,hD2,hr2,ho2⟩:=aTn hlx (by omega) S[j].ID S[j].at_;rw [<- hop] at hx2 hD2 hr2;refine cB (hc2) ?_;apply Y;simp only [eE];apply Z;apply zB;refine zk [0,1,13,57,58,59] ?_;refine rB fun _ _ Z=>?_;simp(maxSteps:=999999)(disch:=omega)[hg,hS];and_intros<;>try first|omega|exact rfl
  apply Z;refine zq ((j+1,d2,rk2,y2,Nv ops1 cc (Rx p S[j]),σ2)) ?_ ?_ ?_
  .exact⟨by dsimp only;omega,hx2,hkr.step (by omega) hD2 hr2,hot.trans ho2⟩
  .dsimp only;omega
  simp(maxSteps:=999999)(disch:=omega)[hg,hS]
 obtain rfl:j=S.length:=by omega
 rw [eH] at hkr;apply zE;refine bE fun _ _ Z=>?_;simp(maxSteps:=999999)(disch:=omega)[hg,hS];apply Z;apply aD;simp [aK,hS];exact⟨_,by omega,_,_,_,_,hlx,.inr (.inr ⟨c1,c2,.inr ⟨hh,rfl,hkr⟩⟩),hot⟩
end Go.Proofs.YtbgfljpnhhdkoaaGreat
