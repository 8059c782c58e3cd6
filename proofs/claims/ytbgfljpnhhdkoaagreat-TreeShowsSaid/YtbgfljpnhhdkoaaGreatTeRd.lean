import Derived.Test.YtbgfljpnhhdkoaaGreatWkTe3
import Derived.Test.YtbgfljpnhhdkoaaGreatVmX15
set_option linter.all false
set_option maxHeartbeats 8000000
set_option maxRecDepth 20000
open Go.Proofs.Tryz
namespace Go.Proofs.YtbgfljpnhhdkoaaGreat
open Go Go.Vm
variable {A:List ND}{i par:Int}{j:Nat}{n:ND}{v:VN}
section
variable {g:Bool} {l:List AT} {k:Nat}
end
section
variable {α:Type} {nm:α->ByteArray}
theorem Sorted.ext:∀ {A B:List α},Sorted nm A->Sorted nm B->(∀p,p∈A↔p∈B)->A=B
 | [], [],_,_,_=>rfl
 | [],b::B,_,_,h=>absurd ((h b).2 eH) (by simp)
 | a::A, [],_,_,h=>absurd ((h a).1 eH) (by simp)
 | a :: A, b :: B, hA, hB, h => by
  obtain⟨a1,a2⟩:=jB.1 hA;obtain⟨b1,b2⟩:=jB.1 hB;have e:a=b:=by
   rcases bP.1 ((h a).1 eH)with e | e
   .exact e
   rcases bP.1 ((h b).2 eH)with e' | e'
   .exact e'.symm
   have h1:=Kw (b1 a e);rw [a1 b e'] at h1;cases h1
  subst e;have ht:∀p,p∈A↔p∈B:=fun p=>by
   have hp:=h p;simp only [bP] at hp;constructor
   .intro q;rcases hp.1 (.inr q)with e | e
    .subst e;exact absurd rfl (qQ (a1 p q))
    exact e
   intro q;rcases hp.2 (.inr q)with e | e
   .subst e;exact absurd rfl (qQ (b1 p q))
   exact e
  rw [Sorted.ext a2 b2 ht]
end
def Ke(n:ND)(o:OW):ND:= { n with classes:=bK o.classes,attrs:=o.attrs,styles:=o.styles }
theorem Zl:∀(S:List Stp) (n:ND),bK n.classes=n.classes->okS n.classes S->sO n (S.map cOp)=some { n with classes:=S.foldl rK n.classes }
 | [],n,_,_=>rfl
 | s :: S, n, hc, ⟨h1, h2⟩ => by
  by_cases e:s.drop=true
  .rw [aM e] at h1;have hs:xA n (cOp s)=some { n with classes:=kO n.classes s.name } :=by
    unfold cOp;rw [aM e];show chN n 7 s.name _ _=_
    unfold chN;rw [aD (by decide),aD (by decide),aD (by decide),aD (by decide),aD (by decide),aD (by decide),aD (by decide),aM h1]
   have hst:rK n.classes s=kO n.classes s.name:=by unfold rK;rw [aM e]
   rw [cD,mF hs,Zl S _ (by show bK (kO n.classes s.name)=_;rw [To,hc]) (by rw [hst] at h2;exact h2),dJ,hst]
  rw [aD e] at h1;have hs:xA n (cOp s)=some { n with classes:=n.classes++ [s.name] } :=by
   unfold cOp;rw [aD e];show chN n 6 s.name _ _=_
   unfold chN;rw [aD (by decide),aD (by decide),aD (by decide),aD (by decide),aD (by decide),aD (by decide),aM rfl,aD h1]
  have hst:rK n.classes s=n.classes++ [s.name]:=by unfold rK;rw [aD e];unfold rC;rw [aD h1]
  rw [cD,mF hs,Zl S _ (by show bK (n.classes++ [s.name])=_;rw [mX,hc];unfold rC;rw [aD h1]) (by rw [hst] at h2;exact h2),dJ,hst]
theorem Xk {o:OW} (hc:bK n.classes=n.classes)(ho:OwOk o)(ha:Sorted nA n.attrs)(hs:Sorted nP n.styles):sO n (gL n o)=some (Ke n o):=by
 have x1:=Zl (jF n.classes o.classes) n hc (by have:=aLh n.classes o.classes;rw [hc] at this;exact this);have hx:(jF n.classes o.classes).foldl rK n.classes=bK o.classes:=by
  have:=Yi n.classes o.classes;unfold Ze at this;rw [hc] at this;exact this
 rw [hx] at x1;obtain⟨L,l1,l2,l3⟩:=aG6 (n.attrs.filter fun p=> !lQ nA o.attrs p.name) { n with classes:=bK o.classes } ha (ha.ne.filter _) fun p hp=>nZ.2 ⟨p,(dD.1 hp).1,rfl⟩;obtain⟨M,m1,m2,m3⟩:=aJ9 (o.attrs.filter fun p=> !decide (p∈n.attrs)) { n with classes:=bK o.classes,attrs:=L } l2 (ho.sa.ne.filter _);obtain⟨P,p1,p2,p3⟩:=aKp (n.styles.filter fun p=> !lQ nP o.styles p.name) { n with classes:=bK o.classes,attrs:=M } hs (hs.ne.filter _) fun p hp=>nZ.2 ⟨p,(dD.1 hp).1,rfl⟩;obtain⟨Q,q1,q2,q3⟩:=aJ6 (o.styles.filter fun p=> !decide (p∈n.styles)) { n with classes:=bK o.classes,attrs:=M,styles:=P } p2 (ho.ss.ne.filter _) fun p hp=>ho.sv p (dD.1 hp).1;have ea:(iS nA xG n.attrs o.attrs).map aOp=((n.attrs.filter fun p=> !lQ nA o.attrs p.name).map fun p=>DO_.da p.name)++((o.attrs.filter fun p=> !decide (p∈n.attrs)).map fun p=>DO_.sa p.name p.value):=by
  rw [wS ha ho.sa,cN,eT,eT];rfl
 have es:(iS nP zP n.styles o.styles).map sOp=((n.styles.filter fun p=> !lQ nP o.styles p.name).map fun p=>DO_.ds p.name)++((o.styles.filter fun p=> !decide (p∈n.styles)).map fun p=>DO_.ss p.name p.value):=by
  rw [wS hs ho.ss,cN,eT,eT];rfl
 have eM:M=o.attrs:=m2.ext ho.sa (Tm ha ho.sa l3 m3);have eQ:Q=o.styles:=q2.ext ho.ss (Tm hs ho.ss p3 q3);unfold gL;rw [ea,es,bU,wX x1,bU,wX l1,wX m1,wX p1,q1,eM,eQ];rfl
theorem Tj(l:List ND) {m:ND} (e:n.ID=m.ID):cX (cX l m) n=cX l n:=by
 rw [sN,sN,sN,eT];refine dE fun x _=>?_;show(if(if x.ID=m.ID then m else x).ID=n.ID then n else(if x.ID=m.ID then m else x))=_
 by_cases h:x.ID=m.ID
 .rw [aM h,aM e.symm,aM (h.trans e.symm)]
 rw [aD h]
theorem aA2:∀(O:List DO_) (n n':ND),sO n O=some n'->n'.ID=n.ID
 | [],n,n',h=>by simp [sO] at h;rw [h]
 | q :: O, n, n', h => by
  cases e:xA n q with
  | none=>simp [sO,e] at h
  | some m=>
   rw [mF e] at h;rw [aA2 O m n' h];exact(aH5 e).1
theorem aRf (h0:¬i=0):∀(O:List DO_) (x:Nat->RD) (c:Nat->Int) (n':ND),((x 0).l.map ND.ID).Nodup->eL (x 0).l i=true->(aH (x 0).l i).kind=2->(∀j (h:j<O.length),setX (x j) (O[j].kind - 6) i O[j].name O[j].value O[j].num=(x (j+1),c j))->(∀q∈O,dP q.name=true)->sO (aH (x 0).l i) O=some n'->
  x O.length=⟨(x 0).most,(x 0).next,cX (x 0).l n'⟩
 | [],x,c,n',hnd,h1,h2,hs,hn,hr=>by
  simp [sO] at hr;obtain⟨n,n1,n2,n3⟩:=eK h1;have e:cX (x 0).l n'=(x 0).l:=by rw [<- hr,n3];exact Er hnd n1
  rw [e];rfl
 | q :: O, x, c, n', hnd, h1, h2, hs, hn, hr => by
  cases e:xA (aH (x 0).l i) q with
  | none=>simp [sO,e] at hr
  | some m =>
   rw [mF e] at hr;obtain⟨id1,id2⟩:=aH5 e;have hk:=q.kind_ge;have hx:=oJ (x:=x 0) (kind:=q.kind - 6) (id:=i) h1 h0 (by rw [h2];constructor <;> intro h <;> omega) (.inr (hn q eH)) e;have hx0:setX (x 0) (q.kind - 6) i q.name q.value q.num=(x 1,c 0):=hs 0 (by simp);rw [hx] at hx0;obtain⟨y1,y2⟩:=gC .. ▸ hx0;obtain⟨n,n1,n2,n3⟩:=eK h1;have hp:=oW hnd (p:=n) (p':=m) n1 (by rw [id1,n3]) i;rw [aM n2.symm] at hp;have l1:(x 1).l=cX (x 0).l m:=by rw [<- y1]
   have hrec:=aRf h0 O (fun j=>x (j+1)) (fun j=>c (j+1)) n' (by show((x 1).l.map ND.ID).Nodup;rw [l1,nF];exact hnd) (by show eL (x 1).l i=true;rw [l1,yC];exact h1) (by show(aH (x 1).l i).kind=2;rw [l1,hp,id2];exact h2)
    (fun j h=>hs (j+1) (by simpa using h)) (fun q hq=>hn q (gG _ hq)) (by show sO (aH (x 1).l i) O=_;rw [l1,hp];exact hr)
   have hid:n'.ID=m.ID:=aA2 O m n' hr;show x (O.length+1)=_
   have h3:x (O.length+1)=⟨(x 1).most,(x 1).next,cX (x 1).l n'⟩:=hrec;rw [h3,l1,Tj _ hid,<- y1]
section
variable {k m M l:Nat}{d d':DS}{rk rk':Int->Nat}{σ σ2:List (List D)}{x y:RD}{ops:List TOp}{o:OW}
theorem aBp(h:LX k m M l d rk x ops σ)(i:Int)(o:OW)(hb:k+(gL (aH x.l i) o).length<=790)(h1:o.classes.length<=8)(h2:o.attrs.length<=8)(h3:o.styles.length<=8)(hs:∀s∈fD o,s.size<=9223372036854775807)(hv:∀p∈o.attrs,p.value.size<=1000)(ho:OwOk o)(hn:NmsOk x)
  (hm:Ka (aH x.l i) (eL x.l i) i o=0) (hc:bK (aH x.l i).classes=(aH x.l i).classes):
  ∃d' rk' ops' σ',Ct prog 55 [.ref l 0,D.int i,Cp o] σ (fun r τ=>r=D.int 0/\τ=σ')/\LX (k+(gL (aH x.l i) o).length) m M l d' rk' ⟨x.most,x.next,cX x.l (Ke (aH x.l i) o)⟩ ops' σ'/\Oth m (· =l) d d' σ σ':=by
 have hme:=aJv h.ix i o;obtain⟨b1,b2,b3,b4⟩:=aTb hm;have hsa:Sorted nA (aH x.l i).attrs:=by rw [Gq h.ix];exact aRk h.ix.iv i
 have hss:Sorted nP (aH x.l i).styles:=by rw [Gq h.ix];exact aQv h.ix.iv i
 obtain⟨n,n1,n2,n3⟩:=eK b1;have hq:=aL2 ho hsa hss (by rw [n3];exact hn n n1) b4 hv;have r1:=Xk hc ho hsa hss;obtain⟨st,cs,e0,e1,e2⟩:=aBt (i:=i) (gL (aH x.l i) o) k ⟨d,rk,x,ops,σ⟩ h hb fun q hq'=>⟨by have:=yA (hq q hq').1;omega,(hq q hq').2⟩;have es:(st 0).x=x:=by rw [e0]
 have hx:(st (gL (aH x.l i) o).length).x=⟨x.most,x.next,cX x.l (Ke (aH x.l i) o)⟩:=by
  have:=aRf b2 (gL (aH x.l i) o) (fun j=>(st j).x) cs (Ke (aH x.l i) o) (by show((st 0).x.l.map ND.ID).Nodup;rw [es];exact(aTo h.ix).nd) (by show eL (st 0).x.l i=true;rw [es];exact b1) (by show(aH (st 0).x.l i).kind=2;rw [es];exact b3)
   (fun j hj=>(e2 j hj).2.2.1) (fun q hq'=>(hq q hq').1) (by show sO (aH (st 0).x.l i) _=_;rw [es];exact r1)
  have h2:(st (gL (aH x.l i) o).length).x=⟨(st 0).x.most,(st 0).x.next,cX (st 0).x.l (Ke (aH x.l i) o)⟩:=this;rw [h2,es]
 obtain⟨hlx,hoth⟩:=e1 _ (bC _);rw [hx] at hlx;have hd:=Gq h.ix;obtain⟨c1,c2,c3⟩:=aX5 (O:=gL (aH x.l i) o) rfl;have hlen:(gL (aH x.l i) o).length=(jF (aH x.l i).classes o.classes).length+(iS nA xG (aH x.l i).attrs o.attrs).length+(iS nP zP (aH x.l i).styles o.styles).length:=by unfold gL;simp;omega
 have e3:∀j (h:j<(gL (aH x.l i) o).length),Ct prog (gL (aH x.l i) o)[j].lf (.ref l 0::(gL (aH x.l i) o)[j].la i) (st j).σ (fun r τ=>r=D.int (cs j)/\τ=(st (j+1)).σ):=fun j hj=>(e2 j hj).1;refine⟨_,_,_,_,?_,hlx,hoth⟩;have:=Pc k m M l d rk x ops i o (fun j=>(st j).σ) cs σ h (by omega) (by omega) (by omega) (by omega) hs (by rw [hme];exact hm) (by show(st 0).σ=σ;rw [e0])
  (by
   rw [<- hd];intro j hj;have q:=e3 j (by omega);have e:(gL (aH x.l i) o)[j]'(by omega)=cOp (jF (aH x.l i).classes o.classes)[j]:=c1 j hj _;rw [e] at q;exact q)
  (by
   rw [<- hd];intro j hj;have q:=e3 ((jF (aH x.l i).classes o.classes).length+j) (by omega);have e:(gL (aH x.l i) o)[(jF (aH x.l i).classes o.classes).length+j]'(by omega)=aOp (iS nA xG (aH x.l i).attrs o.attrs)[j]:=c2 j hj _;rw [e] at q;exact q)
  (by
   rw [<- hd];intro j hj;have q:=e3 ((jF (aH x.l i).classes o.classes).length+(iS nA xG (aH x.l i).attrs o.attrs).length+j) (by omega);have e:(gL (aH x.l i) o)[(jF (aH x.l i).classes o.classes).length+(iS nA xG (aH x.l i).attrs o.attrs).length+j]'(by omega)=sOp (iS nP zP (aH x.l i).styles o.styles)[j]:=c3 j hj _;rw [e] at q;exact q)
 rw [<- hd,<- hlen] at this;exact this
end
section
variable {k m M l:Nat} {d d':DS} {rk rk':Int->Nat} {σ σ2:List (List D)} {x y:RD} {ops:List TOp}
def Hj(x:RD)(kind:Int)(s:ByteArray):RD:=⟨x.most,x.next+1,x.l++ [gU x.next kind s]⟩
theorem aWa(h:LX k m M l d rk x ops σ)(hk:k<=800)(s:ByteArray)(hs:s.size<=1000)(hn:dP s=true)(hr:(x.l.length:Int)<=x.most):
  ∃d' rk' ops' σ',Ct prog 178 [.ref l 0,D.str s] σ (fun r τ=>r= .tup [D.int x.next,D.int 0]/\τ=σ')/\LX (k+1) m M l d' rk' (Hj x 2 s) ops' σ'/\Oth m (· =l) d d' σ σ':=by
 have hh:=h;obtain⟨⟨hi,hx⟩,hoff,hat,hlen⟩:=h;have hl:ops.length<=100000:=by omega
 obtain⟨d',rk',σ',hc,hi',e,fr⟩:=aTg k m M d rk s σ hi hk hs;obtain⟨p1,p2⟩:=hx.addX hi.ip.lt 2 s;have ex:addX x 2 s=(Hj x 2 s,x.next,0):=Hw (fun e=>by rw [hn] at e;cases e.2) (by omega);rw [ex] at p1 p2;rw [<- p1] at hc;obtain⟨o2,st⟩:=hh.step ⟨hi',by rw [e];exact p2⟩ fr;exact⟨d',rk',_,_,Wx l m ops s _ _ σ' σ hat hc o2 hl,st _ _,fr.othN l ops _ _⟩
theorem aVq(h:LX k m M l d rk x ops σ)(hk:k<=800)(s:ByteArray)(hr:(x.l.length:Int)<=x.most):
  ∃d' rk' ops' σ',Ct prog 177 [.ref l 0,D.str s] σ (fun r τ=>r= .tup [D.int x.next,D.int 0]/\τ=σ')/\LX (k+1) m M l d' rk' (Hj x 1 s) ops' σ'/\Oth m (· =l) d d' σ σ':=by
 have hh:=h;obtain⟨⟨hi,hx⟩,hoff,hat,hlen⟩:=h;have hl:ops.length<=100000:=by omega
 obtain⟨d',rk',σ',hc,hi',e,fr⟩:=aRn k m M d rk s σ hi hk;obtain⟨p1,p2⟩:=hx.addX hi.ip.lt 1 s;have ex:addX x 1 s=(Hj x 1 s,x.next,0):=Hw (fun e=>by cases e.1) (by omega);rw [ex] at p1 p2;rw [<- p1] at hc;obtain⟨o2,st⟩:=hh.step ⟨hi',by rw [e];exact p2⟩ fr;exact⟨d',rk',_,_,aKd l m ops s _ _ σ' σ hat hc o2 hl,st _ _,fr.othN l ops _ _⟩
def aLy(x:RD)(p:Int)(at_:Nat)(id:Int):RD:=⟨x.most,x.next,cX (cX x.l { aH x.l p with kids:=fM (aH x.l p).kids at_ id }) { aH x.l id with parent:=p }⟩
theorem aSn(h:LX k m M l d rk x ops σ)(hk:k<=800)(p:Int)(a:Nat)(i:Int)(h1:eL x.l p=true)(h2:eL x.l i=true)(h3:(aH x.l p).kind=2)(h4:¬i=0)(h5:(aH x.l i).parent<0)(h6:nY x.l (dQ d.l rk) p i=false)(h7:a<=(aH x.l p).kids.length):
  ∃d' rk' ops' σ',Ct prog 64 [.ref l 0,D.int p,D.int a,D.int i] σ (fun r τ=>r=D.int 0/\τ=σ')/\LX (k+1) m M l d' rk' (aLy x p a i) ops' σ'/\Oth m (· =l) d d' σ σ':=by
 have hh:=h;obtain⟨⟨hi,hx⟩,hoff,hat,hlen⟩:=h;have hl:ops.length<=100000:=by omega
 obtain⟨d',rk',σ',hc,hi',e,fr⟩:=aRv k m M d rk p a i σ hi hk;obtain⟨p1,p2⟩:=hx.insX (dQ d.l rk) p a i;have ex:insX x (dQ d.l rk) p a i=(aLy x p a i,0):=by
  unfold insX;rw [aD (by simp [h1,h2]),aD (by simp [h3]),aD (by simp [h4,h6];omega)];rfl
 rw [ex] at p1 p2;rw [<- p1] at hc;obtain⟨o2,st⟩:=hh.step ⟨hi',by rw [e];exact p2⟩ fr;exact⟨d',rk',_,_,Zh l m ops p a i _ σ' σ hat hc o2 hl,st _ _,fr.othN l ops _ _⟩
end
theorem aBl {l:List ND} (hup:∀id,∀c∈(aH l id).kids,id<c):∀(f:Nat) (i j:Int),j∈Bv f l i->i<=j
 | 0,i,j,h=>by simp [Bv] at h;omega
 | f+1,i,j,h=>by
  simp only [Bv,bP,mE] at h;rcases h with rfl | ⟨c,hc,hj⟩
  .omega
  have h1:=hup i c hc;have h2:=aBl hup f c j hj;omega
theorem aDp {l:List ND} (hup:∀id,∀c∈(aH l id).kids,id<c)(rk:Int->Nat) {p:Int} (h:p<i):nY l (dQ l rk) p i=false:=by
 unfold nY;have:(dQ l rk i).any (fun k=>decide (k=p))=false:=by
  rw [pY];intro k hk;have:=aBl hup _ i k hk;simp;omega
 rw [this];simp
def tB(i par:Int)(v:VN)(ks:List Int):ND:=if v.kind=1 then⟨i,1,⟨#[]⟩,v.text, [], [], [],par,ks⟩else⟨i,2,v.tag,⟨#[]⟩,v.classes,v.attrs,v.styles,par,ks⟩
theorem kR(i par:Int)(v:VN)(ks:List Int):(tB i par v ks).ID=i:=by unfold tB;split <;> rfl
theorem tY(i par:Int)(v:VN)(ks:List Int):(tB i par v ks).kids=ks:=by unfold tB;split <;> rfl
theorem aPx(i par:Int)(v:VN)(ks:List Int):(tB i par v ks).parent=par:=by unfold tB;split <;> rfl
def hY:Int->List VN->List Int
 | _, []=> []
 | i,k::ks=>i::hY (i+cT k) ks
theorem xC:∀(i:Int) (ks:List VN),(hY i ks).length=ks.length
 | _, []=>rfl
 | i,k::ks=>by simp [hY,xC]
theorem Ox:∀(i:Int) (ks:List VN) (k:VN),hY i (ks++ [k])=hY i ks++ [i+((ks.map cT).sum:Nat)]
 | i, [],k=>by simp [hY]
 | i,a::ks,k=>by
  simp only [aQ,hY,Ox,cD,jQ];congr 3;omega
theorem aCm:∀(i:Int) (ks:List VN),∀c∈hY i ks,i<=c
 | i, [],c,h=>by cases h
 | i,k::ks,c,h=>by
  simp only [hY,bP] at h;rcases h with rfl | h
  .omega
  have:=aCm _ ks c h;omega
def tH:Nat->Int->Int->VN->List ND
 | 0,_,_,_=> []
 | n+1,i,par,v=>tB i par v (hY (i+1) v.kids)::growKs (tH n) (i+1) i v.kids
where growKs (f:Int->Int->VN->List ND):Int->Int->List VN->List ND
 | _,_, []=> []
 | i,par,k::ks=>f i par k++growKs f (i+cT k) par ks
theorem Ha(f:Int->Int->VN->List ND):∀(i par:Int) (ks:List VN) (k:VN),tH.growKs f i par (ks++ [k])=tH.growKs f i par ks++f (i+((ks.map cT).sum:Nat)) par k
 | i,par, [],k=>by simp [tH.growKs]
 | i,par,a::ks,k=>by
  simp only [aQ,tH.growKs,Ha f,cD,jQ,bU];congr 3;omega
theorem Fg {f g:Int->Int->VN->List ND} :∀(ks:List VN),(∀k∈ks,∀i par,f i par k=g i par k)->∀(i par:Int),tH.growKs f i par ks=tH.growKs g i par ks
 | [],_,i,par=>rfl
 | k::ks,h,i,par=>by
  simp only [tH.growKs];rw [h k eH,Fg ks fun x hx=>h x (gG _ hx)]
theorem Kb:∀(n m:Nat) (v:VN),cT v<=n->cT v<=m->∀i par,tH n i par v=tH m i par v
 | 0,_,v,h,_,i,par=>by have:=mP v;omega
 | _,0,v,_,h,i,par=>by have:=mP v;omega
 | n+1,m+1,v,hn,hm,i,par=>by
  simp only [tH];rw [Fg v.kids fun k hk i par=>Kb n m k (by have:=dY hk;omega) (by have:=dY hk;omega) i par]
def jM(i par:Int)(v:VN):List ND:=tH (cT v) i par v
def mK(i par:Int)(ks:List VN):List ND:=tH.growKs jM i par ks
theorem oA(i par:Int)(v:VN):jM i par v=tB i par v (hY (i+1) v.kids)::mK (i+1) i v.kids:=by
 unfold jM mK;obtain⟨n,hn⟩:∃n,cT v=n+1:=⟨cT v - 1,by have:=mP v;omega⟩;rw [hn];simp only [tH];congr 1;exact Fg v.kids (fun k hk i par=>Kb n (cT k) k (by have:=dY hk;omega) (bC _) i par) _ _
theorem aEj(i par:Int):mK i par []= []:=rfl
theorem Zx(i par:Int)(ks:List VN)(k:VN):mK i par (ks++ [k])=mK i par ks++jM (i+((ks.map cT).sum:Nat)) par k:=Ha jM i par ks k
theorem sV(i par:Int)(k:VN)(ks:List VN):mK i par (k::ks)=jM i par k++mK (i+cT k) par ks:=rfl
theorem Ef:∀(v:VN) (i par:Int),(jM i par v).map ND.ID=(List.range (cT v)).map fun(n:Nat)=>i+(n:Int)
 | v, i, par => by
  have hk:∀(ks:List VN) (i par:Int),(∀k∈ks,k∈v.kids)->(mK i par ks).map ND.ID=(List.range (ks.map cT).sum).map fun(n:Nat)=>i+(n:Int):=by
   intro ks;induction ks with
   | nil=>intro i par _;rfl
   | cons k ks ih=>
    intro i par h;have hkv:=dY (h k eH);rw [sV,cN,Ef k i par,ih _ _ fun x hx=>h x (gG _ hx),cD,jQ,Fv,cN,eT];congr 1;refine dE fun n _=>?_;simp only [Function.comp];omega
  rw [oA,cD,kR,hk v.kids (i+1) i fun _ h=>h,jW v,Fv,cN,eT];show i::_= [i+((0:Nat):Int)]++_
  rw [show i+((0:Nat):Int)=i by omega];show i::_=i::_
  congr 1;refine dE fun n _=>?_;simp only [Function.comp];omega
termination_by v=>cT v
theorem Mu(v:VN)(i par:Int):(jM i par v).length=cT v:=by
 have:=congrArg List.length (Ef v i par);simpa using this
theorem Fs (h:n∈jM i par v):i<=n.ID/\n.ID<i+cT v:=by
 have:=yZ (f:=ND.ID) h;rw [Ef] at this;obtain⟨a,ha,e⟩:=aU.1 this;have:=fK.1 ha;omega
theorem tA {l:List ND} (h:∀m∈l,m.ID≠n.ID):cX l n=l:=by
 rw [sN]
 conv=>rhs;rw [<- List.map_id l]
 exact dE fun m hm=>by rw [aD (h m hm)];rfl
theorem wG(A B:List ND)(n:ND):cX (A++B) n=cX A n++cX B n:=by rw [sN,sN,sN,cN]
theorem xP(a:ND)(B:List ND)(n:ND):cX (a::B) n=(if a.ID=n.ID then n else a)::cX B n:=rfl
theorem Kt {B:List ND} (hA:∀m∈A,m.ID≠n.ID):aH (A++n::B) n.ID=n/\eL (A++n::B) n.ID=true:=by
 have h:(A++n::B).find? (fun m=>decide (m.ID=n.ID))=some n:=by
  rw [List.find?_append,rX.2 fun m hm=>by simpa using hA m hm];simp
 exact⟨by unfold aH kM;rw [h];rfl,by unfold eL kM;rw [h];rfl⟩
theorem aH6(i par par2:Int)(v:VN)(ks:List Int): { tB i par v ks with parent:=par2 } =tB i par2 v ks:=by unfold tB;split <;> rfl
theorem aC7(i par:Int)(v:VN)(ks ks2:List Int): { tB i par v ks with kids:=ks2 } =tB i par v ks2:=by unfold tB;split <;> rfl
theorem uM:∀ {ks:List VN} {i par:Int} {n:ND},n∈mK i par ks->i<=n.ID/\n.ID<i+((ks.map cT).sum:Nat)
 | [],i,par,n,h=>by cases h
 | k::ks,i,par,n,h=>by
  rw [sV] at h;simp only [cD,jQ];rcases bQ.1 h with h | h
  .have:=Fs h;omega
  have:=uM h;omega
def Mc(A:List ND)(i par:Int)(v:VN)(j:Nat):List ND:=A++tB i par v (hY (i+1) (v.kids.take j))::mK (i+1) i (v.kids.take j)
def pJ(i:Int)(v:VN)(j:Nat):Int:=i+1+(Ab v j:Nat)
theorem aWg(A:List ND)(i par:Int)(v:VN):Mc A i par v 0=A++ [tB i par v []]:=by unfold Mc;simp [hY,aEj]
theorem Tz (hA:∀m∈A,m.ID<i)(B:List ND):aH (Mc A i par v j++B) i=tB i par v (hY (i+1) (v.kids.take j))/\eL (Mc A i par v j++B) i=true:=by
 have:=Kt (A:=A) (B:=mK (i+1) i (v.kids.take j)++B) (n:=tB i par v (hY (i+1) (v.kids.take j))) (fun m hm=>by rw [kR];have:=hA m hm;omega);rw [kR] at this;unfold Mc;rw [bU,aQ];exact this
theorem Ws (hA:∀m∈A,m.ID<i)(hj:j<v.kids.length):aH (Mc A i par v j++jM (pJ i v j) (-1) v.kids[j]) (pJ i v j)=tB (pJ i v j) (-1) v.kids[j] (hY (pJ i v j+1) v.kids[j].kids)/\eL (Mc A i par v j++jM (pJ i v j) (-1) v.kids[j]) (pJ i v j)=true:=by
 rw [oA];have:=Kt (A:=Mc A i par v j) (B:=mK (pJ i v j+1) (pJ i v j) v.kids[j].kids) (n:=tB (pJ i v j) (-1) v.kids[j] (hY (pJ i v j+1) v.kids[j].kids)) (fun m hm=>by
  rw [kR];unfold Mc at hm;rcases bQ.1 hm with h | h
  .have:=hA m h;unfold pJ;omega
  rcases bP.1 h with rfl | h
  .rw [kR];unfold pJ;omega
  have:=uM h;unfold pJ Ab;omega)
 rw [kR] at this;exact this
theorem aIq {mo nx:Int} (hA:∀m∈A,m.ID<i)(hj:j<v.kids.length):
  aLy ⟨mo,nx,Mc A i par v j++jM (pJ i v j) (-1) v.kids[j]⟩ i j (pJ i v j)=⟨mo,nx,Mc A i par v (j+1)⟩:=by
 unfold aLy;obtain⟨f1, -⟩:=Tz (par:=par) (v:=v) (j:=j) hA (jM (pJ i v j) (-1) v.kids[j]);obtain⟨f2, -⟩:=Ws (par:=par) hA hj;simp only [];rw [f1,f2,aC7,aH6,tY];have hl:(hY (i+1) (v.kids.take j)).length=j:=by rw [xC,bE];omega
 have hins:fM (hY (i+1) (v.kids.take j)) j (pJ i v j)=hY (i+1) (v.kids.take (j+1)):=by
  rw [bN _ _ hj,Ox];unfold fM;rw [bX (by omega),uO (by omega)];rfl
 rw [hins];have hA1:∀q:ND,q.ID=i->cX A q=A:=fun q hq=>tA fun m hm=>by rw [hq];have:=hA m hm;omega
 have hA2:∀q:ND,q.ID=pJ i v j->cX A q=A:=fun q hq=>tA fun m hm=>by rw [hq];have:=hA m hm;unfold pJ;omega
 have hK1:∀q:ND,q.ID=i->cX (mK (i+1) i (v.kids.take j)) q=mK (i+1) i (v.kids.take j):=fun q hq=>tA fun m hm=>by rw [hq];have:=uM hm;omega
 have hK2:∀q:ND,q.ID=pJ i v j->cX (mK (i+1) i (v.kids.take j)) q=mK (i+1) i (v.kids.take j):=fun q hq=>tA fun m hm=>by rw [hq];have:=uM hm;unfold pJ Ab;omega
 have hR1:∀q:ND,q.ID=i->cX (jM (pJ i v j) (-1) v.kids[j]) q=jM (pJ i v j) (-1) v.kids[j]:=fun q hq=>tA fun m hm=>by rw [hq];have:=Fs hm;unfold pJ at this;omega
 have e1:cX (Mc A i par v j++jM (pJ i v j) (-1) v.kids[j]) (tB i par v (hY (i+1) (v.kids.take (j+1))))=(A++tB i par v (hY (i+1) (v.kids.take (j+1)))::mK (i+1) i (v.kids.take j))++jM (pJ i v j) (-1) v.kids[j]:=by
  unfold Mc;rw [wG,wG,xP,hA1 _ (kR ..),hK1 _ (kR ..),hR1 _ (kR ..),aM (by rw [kR,kR])]
 rw [e1,wG,wG,xP,hA2 _ (kR ..),hK2 _ (kR ..),aD (by rw [kR,kR];unfold pJ;omega)];have e2:cX (jM (pJ i v j) (-1) v.kids[j]) (tB (pJ i v j) i v.kids[j] (hY (pJ i v j+1) v.kids[j].kids))=jM (pJ i v j) i v.kids[j]:=by
  rw [oA,oA,xP,aM (by rw [kR,kR]),tA fun m hm=>by rw [kR];have:=uM hm;omega]
 rw [e2];unfold Mc;rw [bN _ _ hj,Zx,bU,aQ];rfl
def pA(v:VN):OW:=⟨v.classes,v.attrs,v.styles⟩
def aIl(v:VN):Prop:=(v.kind=1/\fD (pA v)= []/\v.kids= [])\/(2<=v.kind/\v.kind<=4/\dP v.tag=true/\(∀s∈fD (pA v),dP s=true)/\∀p∈v.styles, -2147483648<=p.value/\p.value<=2147483647)
theorem aVb (h:2<=v.kind)(h1:v.kind<=4)(h2:dP v.tag=true)(h3:∀s∈fD (pA v),dP s=true)(h4:∀p∈v.styles, -2147483648<=p.value/\p.value<=2147483647):aIl v:= .inr ⟨h,h1,h2,h3,h4⟩
theorem De {α:Type} {P:α->Prop} {l:List α} {k:Nat} (h:k<l.length)(hh:∀x∈l.take k,P x)(hx:P l[k]):∀x∈l.take (k+1),P x:=by
 intro x hm;rw [bN l k h] at hm;rcases bQ.1 hm with h | h
 .exact hh x h
 rw [fP.1 h];exact hx
theorem aVs {N:Ls} {k0 k2:Nat} (h:2<=v.kind)(h1:v.kind<=4)(h2:dP v.tag=true)(hN:fD (pA v)=N)(h3:∀s∈N.take k0,dP s=true)(e0:N.length<=k0)(h4:∀p∈v.styles.take k2, -2147483648<=p.value/\p.value<=2147483647)(e2:v.styles.length<=k2):aIl v:=by
 subst hN;rw [bX e0] at h3;rw [bX e2] at h4;exact aVb h h1 h2 h3 h4
def iA(v:VN)(b:Bool):Prop:=b=true->aIl v
@[simp] theorem aYw(v:VN):iA v false:=fun h=>by cases h
theorem eV {b:Bool} (h:v.kind=1)(h1:fD (pA v)= [])(h2:v.kids= []):iA v b:=fun _=> .inl ⟨h,h1,h2⟩
theorem eW {b:Bool} {N:Ls} {k0 k2:Nat} (h:2<=v.kind)(h1:v.kind<=4)(h2:dP v.tag=true)(hN:fD (pA v)=N)(h3:∀s∈N.take k0,dP s=true)(e0:N.length<=k0)(h4:∀p∈v.styles.take k2, -2147483648<=p.value/\p.value<=2147483647)(e2:v.styles.length<=k2):iA v b:=fun _=>aVs h h1 h2 hN h3 e0 h4 e2
theorem aNj(a b c:Int)(k:Nat):∃z:Int,k<3->([D.v (.int .i64 a),D.v (.int .i64 b),D.v (.int .i64 c)][k]?).getD D.any=D.v (.int .i64 z):=by
 match k with
 | 0=>exact⟨a,fun _=>rfl⟩
 | 1=>exact⟨b,fun _=>rfl⟩
 | 2=>exact⟨c,fun _=>rfl⟩
 | k+3=>exact⟨0,fun h=>absurd h (by omega)⟩
theorem aH7 (h:VF v):∀s∈fD (pA v),s.size<=20:=by
 obtain⟨-, -, -, -, -, -,h1,h2,h3⟩:=h;intro s hs;rcases bQ.1 hs with hs | hs
 .rcases bQ.1 hs with hs | hs
  .exact h1 s hs
  obtain⟨p,hp,rfl⟩:=aU.1 hs;exact(h2 p hp).1
 obtain⟨p,hp,rfl⟩:=aU.1 hs;exact h3 p hp
theorem aB3 (h:VF v):(fD (pA v)).length<=12:=by
 obtain⟨h1,h2,h3, -⟩:=h;simp [fD,pA];omega
@[simp] abbrev q4_1:Cfg:=⟨[2,3,19,32,38],[],[],[],[]⟩
theorem yY(v:VN)(σ:List (List D))(h1:v.classes.length<=9999)(h2:v.attrs.length<=9999)(h3:v.styles.length<=9999):Ct prog 172 [iH v] σ (fun r σ'=>r=dlo (fD (pA v))/\σ'=σ):=by
 refine zf func172 ?_;refine zr q4_1 fun _ _ Z=>?_;simp(disch:=omega);apply Z;refine zr q4_1 fun _ _ Z=>?_;simp(disch:=omega);and_intros<;>(try omega);apply Z;apply aF;refine zr q4_1 fun _ _ Z=>?_;simp(disch:=omega);and_intros<;>(try omega);apply Z;apply aR;refine zk [1,2,3,13,14,15] ?_;refine aY (fun(k:Nat)=> [(15,.d (.v (.int .i64 (k:Int)))),(3,.d (dlo (Ae (pA v) k))),(5,.d (.any))]) [3,5,15,16,17,18,19,20,21,22,23,24] (fun(k:Nat)=>k<=v.attrs.length) (fun(k:Nat)=>v.attrs.length - k) (0) (by simp <;> rfl) ?_ ?_ ?_
 .simp [Ae,pA]
 .simp
 rintro k hk;simp only [aQ,aP];have hnl:(Ae (pA v) k).length=v.classes.length+k:=Uk (pA v) k hk;refine zr q4_1 fun _ _ Z=>?_;simp(disch:=omega);apply Z;apply aF;refine zI ?_ ?_<;>intro c1<;>try simp at c1
 .have hnn:Ae (pA v) (k+1)=Ae (pA v) k++ [v.attrs[k].name]:=Pp (pA v) c1;apply jY;refine zr q4_1 fun _ _ Z=>?_;simp(disch:=omega);and_intros<;>(try omega);apply Z;refine zt q4_1 fun _ _ Z=>?_;simp(disch:=omega);and_intros<;>(try omega);apply Z;apply zB;refine zk [1,2,3,5,13,14,15] ?_;refine zt q4_1 fun _ _ Z=>?_;simp(disch:=omega);and_intros<;>(try omega);apply Z;refine zq (k+1) ?_ ?_ ?_
  .omega
  .try dsimp only
   omega
  simp(disch:=omega)[hnn]
 obtain rfl:k=v.attrs.length:=by omega
 rw [show Ae (pA v) v.attrs.length=zN (pA v) 0 from Va (pA v)];apply zE;apply aF;refine zr q4_1 fun _ _ Z=>?_;simp(disch:=omega);and_intros<;>(try omega);apply Z;apply aR;refine zk [2,3,26,27,28] ?_;refine aY (fun(j:Nat)=> [(28,.d (.v (.int .i64 (j:Int)))),(3,.d (dlo (zN (pA v) j))),(7,.d (.any))]) [3,7,28,29,30,31,32,33,34,35,36,37] (fun(j:Nat)=>j<=v.styles.length) (fun(j:Nat)=>v.styles.length - j) (0) (by simp <;> rfl) ?_ ?_ ?_
 .simp
 .simp
 rintro j hj;simp only [aQ,aP];have hnl:(zN (pA v) j).length=v.classes.length+v.attrs.length+j:=Wy (pA v) j hj;refine zr q4_1 fun _ _ Z=>?_;simp(disch:=omega);apply Z;apply aF;refine zI ?_ ?_<;>intro c2<;>try simp at c2
 .have hnn:zN (pA v) (j+1)=zN (pA v) j++ [v.styles[j].name]:=Nt (pA v) c2;apply jY;refine zr q4_1 fun _ _ Z=>?_;simp(disch:=omega);and_intros<;>(try omega);apply Z;refine zt q4_1 fun _ _ Z=>?_;simp(disch:=omega);and_intros<;>(try omega);apply Z;apply zB;refine zk [2,3,7,26,27,28] ?_;refine zt q4_1 fun _ _ Z=>?_;simp(disch:=omega);and_intros<;>(try omega);apply Z;refine zq (j+1) ?_ ?_ ?_
  .omega
  .try dsimp only
   omega
  simp(disch:=omega)[hnn]
 obtain rfl:j=v.styles.length:=by omega
 rw [show zN (pA v) v.styles.length=fD (pA v)from Vw (pA v)];apply zE;refine zr q4_1 fun _ _ Z=>?_;simp(disch:=omega);apply Z;apply aC;simp [aI]
theorem aL1(s:ByteArray)(σ:List (List D))(hs:s.size<=9999):Ct prog 218 [D.str s] σ (fun r σ'=>(∃b:Bool,r=D.bool b)/\σ'=σ):=by
 refine zf func218 ?_;refine aZ fun _ _ Z=>?_;simp(disch:=omega);apply Z;apply aF;refine aZ fun _ _ Z=>?_;simp(disch:=omega);apply Z;apply aR;refine zk [0,2,3] ?_;refine aY (fun(k:Nat)=> [(3,.d (.v (.int .i64 (k:Int))))]) [2,3,4,5,6,7,8,9,10,11,12,13,14,15,16,17,18,19,20,21,22,23,24,25] (fun(k:Nat)=>k<=s.size) (fun(k:Nat)=>s.size - k) (0) (by simp <;> rfl) ?_ ?_ ?_
 .simp
 .simp
 rintro k hk;simp only [aQ,aP];apply aF;refine aZ fun _ _ Z=>?_;simp(disch:=omega);and_intros<;>(try omega);apply Z;refine zI ?_ ?_<;>intro c1<;>try simp at c1
 .apply jY;refine zk [0,3] ?_;refine lS ⟨[],[],[],[],[]⟩ fun all hall _ Z=>?_;have ga4:aN all 4=some 14:=hall 4;have ga10:aN all 10=some 20:=hall 10;refine zs 5 fun _ Y=>?_;simp(disch:=omega)[ga4,ga10];and_intros<;>(try omega);apply Y;refine zb 14 ?_ ?_<;>intro g2<;>try simp at g2
  .refine zs 6 fun _ Y=>?_;simp(disch:=omega)[ga4,ga10];apply Y;simp(disch:=omega)[ga4,ga10];apply Z;refine aX (t:=true) (by simp) (fun _=>?_) (fun h=>by cases h);refine zk [0,3] ?_;refine aZ fun _ _ Z=>?_;simp(disch:=omega);apply Z;apply aC;simp [aI]
  refine zs 6 fun _ Y=>?_;simp(disch:=omega)[ga4,ga10];and_intros<;>(try omega);apply Y;refine zb 20 ?_ ?_<;>intro g3<;>try simp at g3
  .simp(disch:=omega)[ga4,ga10];apply Z;refine aX (t:=true) (by simp) (fun _=>?_) (fun h=>by cases h);refine zk [0,3] ?_;refine aZ fun _ _ Z=>?_;simp(disch:=omega);apply Z;apply aC;simp [aI]
  simp(disch:=omega)[ga4,ga10];and_intros<;>(try omega);apply Z;refine zI ?_ ?_<;>intro c4<;>try simp at c4
  .refine zk [0,3] ?_;refine aZ fun _ _ Z=>?_;simp(disch:=omega);apply Z;apply aC;simp [aI]
  apply nI;refine zk [0,3] ?_;refine pB fun _ _ Z=>?_;simp(disch:=omega);and_intros<;>(try omega);apply Z;refine zq (k+1) ?_ ?_ ?_
  .omega
  .try dsimp only
   omega
  simp(disch:=omega)
 apply zE;refine aZ fun _ _ Z=>?_;simp(disch:=omega);and_intros<;>(try omega);apply Z;apply aC;simp [aI]
theorem Nw(s:ByteArray)(σ:List (List D))(hs:s.size<=9999):Ct prog 219 [D.str s] σ (fun r σ'=>(∃b:Bool,r=D.bool b)/\σ'=σ):=by
 refine zf func219 ?_;refine aZ fun _ _ Z=>?_;simp(disch:=omega);apply Z;apply aF;refine aZ fun _ _ Z=>?_;simp(disch:=omega);apply Z;apply aR;refine zk [0,2,3] ?_;refine aY (fun(k:Nat)=> [(3,.d (.v (.int .i64 (k:Int))))]) [2,3,4,5,6,7,8,9,10,11,12,13,14,15,16,17,18,19,20,21,22,23,24,25,26,27,28,29,30,31,32,33,34,35,36,37] (fun(k:Nat)=>k<=s.size) (fun(k:Nat)=>s.size - k) (0) (by simp <;> rfl) ?_ ?_ ?_
 .simp
 .simp
 rintro k hk;simp only [aQ,aP];apply aF;refine aZ fun _ _ Z=>?_;simp(disch:=omega);and_intros<;>(try omega);apply Z;refine zI ?_ ?_<;>intro c1<;>try simp at c1
 .apply jY;refine zk [0,3] ?_;refine lS ⟨[],[],[],[],[]⟩ fun all hall _ Z=>?_;have ga4:aN all 4=some 14:=hall 4;have ga10:aN all 10=some 20:=hall 10;have ga16:aN all 16=some 26:=hall 16;have ga22:aN all 22=some 32:=hall 22;refine zs 5 fun _ Y=>?_;simp(disch:=omega)[ga4,ga10,ga16,ga22];and_intros<;>(try omega);apply Y;refine zb 14 ?_ ?_<;>intro g2<;>try simp at g2
  .refine zs 6 fun _ Y=>?_;simp(disch:=omega)[ga4,ga10,ga16,ga22];apply Y;refine zs 6 fun _ Y=>?_;simp(disch:=omega)[ga4,ga10,ga16,ga22];apply Y;refine zs 6 fun _ Y=>?_;simp(disch:=omega)[ga4,ga10,ga16,ga22];apply Y;simp(disch:=omega)[ga4,ga10,ga16,ga22];apply Z;refine aX (t:=true) (by simp) (fun _=>?_) (fun h=>by cases h);refine zk [0,3] ?_;refine aZ fun _ _ Z=>?_;simp(disch:=omega);apply Z;apply aC;simp [aI]
  refine zs 6 fun _ Y=>?_;simp(disch:=omega)[ga4,ga10,ga16,ga22];and_intros<;>(try omega);apply Y;refine zb 20 ?_ ?_<;>intro g3<;>try simp at g3
  .refine zs 6 fun _ Y=>?_;simp(disch:=omega)[ga4,ga10,ga16,ga22];apply Y;refine zs 6 fun _ Y=>?_;simp(disch:=omega)[ga4,ga10,ga16,ga22];apply Y;simp(disch:=omega)[ga4,ga10,ga16,ga22];apply Z;refine aX (t:=true) (by simp) (fun _=>?_) (fun h=>by cases h);refine zk [0,3] ?_;refine aZ fun _ _ Z=>?_;simp(disch:=omega);apply Z;apply aC;simp [aI]
  refine zs 6 fun _ Y=>?_;simp(disch:=omega)[ga4,ga10,ga16,ga22];and_intros<;>(try omega);apply Y;refine zb 26 ?_ ?_<;>intro g4<;>try simp at g4
  .refine zs 6 fun _ Y=>?_;simp(disch:=omega)[ga4,ga10,ga16,ga22];apply Y;simp(disch:=omega)[ga4,ga10,ga16,ga22];apply Z;refine aX (t:=true) (by simp) (fun _=>?_) (fun h=>by cases h);refine zk [0,3] ?_;refine aZ fun _ _ Z=>?_;simp(disch:=omega);apply Z;apply aC;simp [aI]
  refine zs 6 fun _ Y=>?_;simp(disch:=omega)[ga4,ga10,ga16,ga22];and_intros<;>(try omega);apply Y;refine zb 32 ?_ ?_<;>intro g5<;>try simp at g5
  .simp(disch:=omega)[ga4,ga10,ga16,ga22];apply Z;refine aX (t:=true) (by simp) (fun _=>?_) (fun h=>by cases h);refine zk [0,3] ?_;refine aZ fun _ _ Z=>?_;simp(disch:=omega);apply Z;apply aC;simp [aI]
  simp(disch:=omega)[ga4,ga10,ga16,ga22];and_intros<;>(try omega);apply Z;refine zI ?_ ?_<;>intro c6<;>try simp at c6
  .refine zk [0,3] ?_;refine aZ fun _ _ Z=>?_;simp(disch:=omega);apply Z;apply aC;simp [aI]
  apply nI;refine zk [0,3] ?_;refine pB fun _ _ Z=>?_;simp(disch:=omega);and_intros<;>(try omega);apply Z;refine zq (k+1) ?_ ?_ ?_
  .omega
  .try dsimp only
   omega
  simp(disch:=omega)
 apply zE;refine aZ fun _ _ Z=>?_;simp(disch:=omega);and_intros<;>(try omega);apply Z;apply aC;simp [aI]
theorem aQe(s:ByteArray)(σ:List (List D))(hs:s.size<=9999):Ct prog 173 [D.str s] σ (fun r σ'=>(∃b:Bool,r=D.bool b)/\σ'=σ):=by
 refine zf func173 ?_;refine aZ fun _ _ Z=>?_;simp(disch:=omega);apply Z;refine lS ⟨[],[],[],[],[]⟩ fun all hall _ Z=>?_;have ga3:aN all 3=some 6:=hall 3;refine zs 4 fun _ Y=>?_;simp(disch:=omega)[ga3];and_intros<;>(try omega);apply Y;refine zb 6 ?_ ?_<;>intro g1<;>try simp at g1
 .simp(disch:=omega)[ga3];and_intros<;>(try omega);apply Z;apply aC;simp [aI]
 simp(disch:=omega)[ga3];apply Z;apply aC;simp [aI]
theorem Ie(q:Nat)(v:VN)(id:Int)(a0 a1 a2 a3 a4 a5 a6 a7 a8 a9 a10 a11 a12 a13 b0 b1 b2 b3 b4 b5 b6 b7 b8 b9 b10 b11:D)(σ:List (List D))(hq:σ[q]?=some [D.int id,a0,a1,a2,a3,a4,a5,a6,a7,a8,a9,a10,a11,a12,a13,b0,b1,b2,b3,b4,b5,b6,b7,b8,b9,b10,b11]):Ct prog 105 [.ref q 0,iH v] σ (fun r σ'=>r= .tup []/\σ'=σ.set q [D.int id,D.int v.kind,D.str v.tag,D.str v.key,D.str v.text,.sl false (v.classes.map D.str),.sl false (v.attrs.map cW),.sl false (v.styles.map cQ),D.int v.opts.enter,D.int v.opts.leave,D.int v.opts.move,D.int v.opts.mode,D.bool v.opts.appear,D.bool v.opts.moves,.sl false [],b0,b1,b2,b3,b4,b5,b6,b7,b8,b9,b10,b11]):=by
 refine zf func105 ?_;refine aZ fun _ _ Z=>?_;simp(disch:=omega)[hq,aL hq];apply Z;refine aZ fun _ _ Z=>?_;simp(disch:=omega)[hq,aL hq];apply Z;refine pB fun _ _ Z=>?_;simp(disch:=omega)[hq,aL hq];apply Z;simp [aI]
theorem Fz(q l:Nat)(v:VN)(x:LK)(id:Int)(kk d0 d1 d2 d3 d4 d5 d6 d7:D)(σ2:List (List D))(σ:List (List D))(hq:σ[q]?=some [D.int id,D.int v.kind,D.str v.tag,D.str v.key,D.str v.text,.sl false (v.classes.map D.str),.sl false (v.attrs.map cW),.sl false (v.styles.map cQ),D.int v.opts.enter,D.int v.opts.leave,D.int v.opts.move,D.int v.opts.mode,D.bool v.opts.appear,D.bool v.opts.moves,kk,D.int x.kind,D.int x.move,D.int x.DX,D.int x.DY,d0,d1,d2,d3,d4,d5,d6,d7])(h1:v.classes.length<=9999)(h2:v.attrs.length<=9999)(h3:v.styles.length<=9999)(hk:¬v.kind=1)(hd:Ct prog 55 [.ref l 0,D.int id,Cp (Mq x (pA v))] σ (fun r τ=>r=D.int 0/\τ=σ2)):Ct prog 32 [.ref q 0,.ref l 0] σ (fun r σ'=>r= .tup []/\σ'=σ2):=by
 refine zf func32 ?_;have how:Cp (pA v)= .agg [.sl false (v.classes.map D.str),.sl false (v.attrs.map cW),.sl false (v.styles.map cQ)]:=rfl;refine aZ fun _ _ Z=>?_;simp(disch:=omega)[hq];apply Z;refine zI ?_ ?_<;>intro c1<;>try simp at c1
 .refine zk [0,1] ?_;refine ze ⟨[],[],[],[],[]⟩ [.op {},.op {},.op {},.op {},.op {rO:=true},.op {},.op {},.op {},.op {},.op {rO:=true},.op {},.op {},.op {},.op {},.op {rO:=true},.op {},.op {},.op {},.op {},.op {rO:=true},.op {},.op {},.op {},.op {},.op {rO:=true},.op {},.pure,.det] fun all hall _ Z=>?_;refine lM 8 fun _ Y=>?_;simp(disch:=omega)[hq];apply Y;refine lM 8 fun _ Y=>?_;simp(disch:=omega)[hq];apply Y;refine lM 8 fun _ Y=>?_;simp(disch:=omega)[hq];apply Y;refine lM 2 fun _ Y=>?_;simp(disch:=omega)[hq];apply Y;refine bV fun _ Y=>?_;simp(disch:=omega)[hq];refine xH (fun _=>(aOc x (pA v) _ h1 h2 h3)) ?_;apply Y;refine bV fun _ Y=>?_;simp(disch:=omega)[hq];refine zdd (hd) ?_;apply Y;simp only [qT];apply Z;simp [aI]
 exact absurd c1 hk
theorem aEu(q l:Nat)(v:VN)(x:LK)(id:Int)(kk d0 d1 d2 d3 d4 d5 d6 d7:D)(σ:List (List D))(hq:σ[q]?=some [D.int id,D.int v.kind,D.str v.tag,D.str v.key,D.str v.text,.sl false (v.classes.map D.str),.sl false (v.attrs.map cW),.sl false (v.styles.map cQ),D.int v.opts.enter,D.int v.opts.leave,D.int v.opts.move,D.int v.opts.mode,D.bool v.opts.appear,D.bool v.opts.moves,kk,D.int x.kind,D.int x.move,D.int x.DX,D.int x.DY,d0,d1,d2,d3,d4,d5,d6,d7])(hk:v.kind=1):Ct prog 32 [.ref q 0,.ref l 0] σ (fun r σ'=>r= .tup []/\σ'=σ):=by
 refine zf func32 ?_;refine aZ fun _ _ Z=>?_;simp(disch:=omega)[hq];apply Z;refine zI ?_ ?_<;>intro c1<;>try simp at c1
 .exact absurd hk c1
 apply xF;simp [aI]
def tkR(l:List Int)(rd:Int->TN)(k:Nat):List TN:=(l.take k).map rd
theorem aUo(l:List Int)(rd:Int->TN):tkR l rd 0= []:=rfl
theorem aMp(l:List Int)(rd:Int->TN)(k:Nat)(h:k<l.length):tkR l rd (k+1)=tkR l rd k++ [rd l[k]]:=by unfold tkR;rw [bN l k h,cN];rfl
theorem aOi(l:List Int)(rd:Int->TN)(k:Nat):(tkR l rd k).length<=k:=by unfold tkR;rw [bS,bE];omega
theorem aOu(l:List Int)(rd:Int->TN):tkR l rd l.length=l.map rd:=by unfold tkR;rw [dS]
def tnN(n:ND)(id:Int)(ks:List TN):TN:=⟨id,n.kind,n.tag,n.text,n.classes,n.attrs,n.styles,ks⟩
abbrev Vh(m:Nat)(c:Int)(t:TN)(σ:List (List D)):Prop:=Ct prog 33 [.ref m 0,D.int c] σ (fun r σ'=>r= .tup [rQ t,D.int 0]/\σ'=σ)
theorem Wf(m M:Nat)(d:DS)(id:Int)(n:ND)(rd:Int->TN)(σ:List (List D))(ho:DO m M d σ)(hx:NB d.l)(hl:eL d.l id=true)(hn:aH d.l id=n)(ih:∀c∈n.kids,Vh m c (rd c) σ):Ct prog 33 [.ref m 0,D.int id] σ (fun r σ'=>(r.plain=true/\r.strip= .tup [rQ (tnN n id (n.kids.map rd)),D.int 0])/\σ'=σ):=by
 refine zf func33 ?_;have b1:=hx.fk id;have b2:=hx.fc id;have b3:=hx.fa id;have b4:=hx.fs id;rw [hn] at b1 b2 b3 b4;refine zr ⟨[50],[],[],[],[]⟩ fun _ _ Z=>?_;simp(disch:=omega)[hl,hn];apply Z;refine zr ⟨[50],[],[],[],[]⟩ fun _ _ Z=>?_;refine zs 2 fun _ Y=>?_;simp(disch:=omega)[hl,hn];apply Y;refine aE fun _ Y=>?_;simp(disch:=omega)[hl,hn];refine cH (Ec m M d id _ ho hx) ?_;apply Y;simp(disch:=omega)[hl,hn];apply Z;apply aF;refine zr ⟨[50],[],[],[],[]⟩ fun _ _ Z=>?_;simp(disch:=omega)[hl,hn];apply Z;refine zI ?_ ?_<;>intro c1<;>try simp at c1
 apply zA;refine zk [0,1,4,5,6] ?_;refine zr ⟨[50],[],[],[],[]⟩ fun _ _ Z=>?_;refine zs 8 fun _ Y=>?_;simp(disch:=omega)[hl,hn];apply Y;simp(disch:=omega)[hl,hn];apply Z;apply aF;refine zk [0,4,5,6,8] ?_;refine zr ⟨[50],[],[],[],[]⟩ fun _ _ Z=>?_;simp(disch:=omega)[hl,hn];and_intros<;>(try omega);apply Z;apply aR;refine zk [0,4,5,8,37,38,39] ?_;refine kE (fun(k:Nat)=> [(39,.d (.v (.int .i64 (k:Int)))),(10,.d (.any)),(43,.d (.any)),(12,.d (.any))]) (fun(k:Nat)=> [(2, [D.int id,D.int n.kind,D.str n.tag,D.str n.text,.sl false (n.classes.map D.str),.sl false (n.attrs.map cW),.sl false (n.styles.map cQ),.sl true ((tkR n.kids rd k).map Mn)])]) (fun(k:Nat)=> []) [10,11,12,39,40,41,42,43,44,45,46,47,48,49,50,51,52,53,54,55] (fun(k:Nat)=>k<=n.kids.length) (fun(k:Nat)=>n.kids.length - k) (0) (by simp <;> rfl) ?_ (by simp [aUo]) (by simp) ?_ ?_
 .simp
 .simp
 rintro k hk;simp only [aQ,aP,lJ,jS,gE,fV];have htl:=aOi n.kids rd k;refine zr ⟨[50],[],[],[],[]⟩ fun _ _ Z=>?_;simp(disch:=omega)[hl,hn];apply Z;apply aF;refine zI ?_ ?_<;>intro c2<;>try simp at c2
 .apply jY;refine zr ⟨[50],[],[],[],[]⟩ fun _ _ Z=>?_;simp(disch:=omega)[hl,hn];and_intros<;>(try omega);apply Z;refine zk [0,4,5,8,10,12,37,38,39,43] ?_;refine zr ⟨[50],[],[],[],[]⟩ fun _ _ Z=>?_;refine zs 2 fun _ Y=>?_;simp(disch:=omega)[hl,hn];apply Y;refine aE fun _ Y=>?_;simp(disch:=omega)[hl,hn];refine cH (ih n.kids[k] (cB _)) ?_;apply Y;simp(disch:=omega)[hl,hn];apply Z;refine zk [0,4,5,8,10,11,12,37,38,39,43] ?_;refine zt ⟨[50],[],[],[],[]⟩ fun _ _ Z=>?_;simp(disch:=omega)[hl,hn];and_intros<;>(try omega);apply Z;apply zB;refine zk [0,4,5,8,10,12,37,38,39,43] ?_;refine zt ⟨[50],[],[],[],[]⟩ fun _ _ Z=>?_;simp(disch:=omega)[hl,hn];and_intros<;>(try omega);apply Z;refine fC (k+1) ?_ ?_ (dU rfl ?_ (by simp [aMp, *]) (by simp))
  .omega
  .try dsimp only
   omega
  simp(disch:=omega)[hl,hn]
 obtain rfl:k=n.kids.length:=by omega
 rw [aOu];apply zE;refine zr ⟨[50],[],[],[],[]⟩ fun _ _ Z=>?_;simp(disch:=omega)[hl,hn];apply Z;apply aC;simp [aI,tnN]
def jZ(l:List ND):Nat->Int->TN
 | 0,id=>tnN (aH l id) id []
 | f+1,id=>tnN (aH l id) id ((aH l id).kids.map (jZ l f))
theorem aBj {m M:Nat} {d:DS} {rk:Int->Nat} {σ:List (List D)} (ho:DO m M d σ)(hx:NB d.l)(hw:WT d.l rk):∀(f:Nat) (id:Int),rk id<=f->eL d.l id=true->Vh m id (jZ d.l f id) σ
 | 0, id, hf, hl => by
  have hk:(aH d.l id).kids= []:=by
   cases e:(aH d.l id).kids with
   | nil=>rfl
   | cons c cs=>
    have:=hw.Dec id c (by rw [e];exact eH);omega
  have:=(Wf m M d id (aH d.l id) (fun c=>jZ d.l 0 c) σ ho hx hl rfl fun c hc=>by rw [hk] at hc;cases hc).strip (Q':=fun r σ'=>r= .tup [rQ (jZ d.l 0 id),D.int 0]/\σ'=σ) fun r σ' h=>⟨h.1.1,by rw [h.1.2,hk];rfl,h.2⟩;exact this
 | f + 1, id, hf, hl => by
  have:=(Wf m M d id (aH d.l id) (fun c=>jZ d.l f c) σ ho hx hl rfl fun c hc=>aBj ho hx hw f c (by have:=hw.Dec id c hc;omega) (by
   obtain⟨n,n1,n2,n3⟩:=eK hl;rw [n3] at hc;obtain⟨c2,e1,e2, -⟩:=hw.kids n n1 c hc;unfold eL kM;rw [List.find?_isSome];exact⟨c2,e1,by simpa using e2⟩)).strip (Q':=fun r σ'=>r= .tup [rQ (jZ d.l (f+1) id),D.int 0]/\σ'=σ) fun r σ' h=>⟨h.1.1,h.1.2,h.2⟩
  exact this
def sQ(t:TN):TN:=⟨0,t.kind,t.tag,t.text,t.classes,t.attrs,t.styles,t.kids.attach.map fun k=>sQ k.1⟩
termination_by SizeOf.sizeOf t
decreasing_by
 have h:=nS k.2;cases t;simp at h |-;omega
theorem vO(t:TN):sQ t=⟨0,t.kind,t.tag,t.text,t.classes,t.attrs,t.styles,t.kids.map sQ⟩:=by rw [sQ];simp
theorem Wd:∀(a b:TN),TB a->sQ a=sQ b->aQ1 a b
 | a, b, hA, h => by
  rw [vO a,vO b] at h;simp only [TN.mk.injEq,true_and] at h;obtain⟨e1,e2,e3,e4,e5,e6,e7⟩:=h;have hl:b.kids.length=a.kids.length:=by have:=congrArg List.length e7;simpa using this.symm
  have hb:b= { a with ID:=b.ID,kids:=b.kids } :=by
   cases b;simp at e1 e2 e3 e4 e5 e6;simp [e1,e2,e3,e4,e5,e6]
  rw [hb];exact fun σ=>aK2 a b.ID b.kids σ hA.s hl fun j h1 h2=>Wd a.kids[j] b.kids[j] (hA.k _ (cB h1)) (by
   have:=congrArg (fun l=>l[j]?) e7;simpa [h1,h2] using this)
termination_by a=>Hm a
decreasing_by
 have:=Cn (cB h1);omega
inductive TK:VN->Prop
 | mk (v:VN) (h:v.kind=1->v.kids= []) (hk:∀k∈v.kids,TK k):TK v
theorem TK.t (h:TK v):v.kind=1->v.kids= []:=by cases h;assumption
theorem TK.k (h:TK v):∀k∈v.kids,TK k:=by cases h;assumption
theorem Dy {l:List ND} :∀(v:VN) (f:Nat) (i par:Int),TK v->cT v<=f+1->(∀n∈jM i par v,aH l n.ID=n)->sQ (jZ l f i)=Hb v
 | v, f, i, par, ht, hf, hl => by
  have hroot:aH l i=tB i par v (hY (i+1) v.kids):=by
   have:=hl (tB i par v (hY (i+1) v.kids)) (by rw [oA];exact eH)
   rwa [kR] at this
  have hkid:∀(g:Nat) (ks:List VN) (i':Int),(∀k∈ks,k∈v.kids/\cT k<=g+1)->(∀n∈mK i' i ks,aH l n.ID=n)->(hY i' ks).map (fun c=>sQ (jZ l g c))=ks.map Hb:=by
   intro g ks;induction ks with
   | nil=>intro i' _ _;rfl
   | cons k ks ih=>
    intro i' h1 h2;rw [sV] at h2;have hkv:=(h1 k eH).1;simp only [hY,cD];rw [Dy k g i' i (ht.k k hkv) (h1 k eH).2 fun n hn=>h2 n (gF _ hn),ih _ (fun x hx=>h1 x (gG _ hx)) fun n hn=>h2 n (oY _ hn)]
  have hgk:∀n∈mK (i+1) i v.kids,aH l n.ID=n:=fun n hn=>hl n (by rw [oA];exact gG _ hn);have key:∀ks:List TN,ks.map sQ=v.kids.map Hb->sQ (tnN (tB i par v (hY (i+1) v.kids)) i ks)=Hb v:=by
   intro ks hks;rw [vO,Jv];unfold tnN tB;by_cases hk:v.kind=1
   .rw [ht.t hk] at hks;have:ks= []:=by simpa using hks
    rw [aM hk,aM hk,this];rfl
   rw [aD hk,aD hk];simp only [TN.mk.injEq,true_and];exact hks
  cases f with
  | zero =>
   have hn:v.kids= []:=by
    have:=mP v;exact Ga.1 (by omega)
   simp only [jZ];rw [hroot];exact key [] (by rw [hn];rfl)
  | succ g=>
   simp only [jZ];rw [hroot];refine key _ ?_;rw [tY,eT];exact hkid g v.kids (i+1) (fun k hk=>⟨hk,by have:=dY hk;omega⟩) hgk
termination_by v=>cT v
decreasing_by
 have:=dY hkv;omega
end Go.Proofs.YtbgfljpnhhdkoaaGreat
