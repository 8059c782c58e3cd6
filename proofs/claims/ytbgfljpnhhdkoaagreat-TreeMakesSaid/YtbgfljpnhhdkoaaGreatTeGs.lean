import Derived.Test.YtbgfljpnhhdkoaaGreatWkTe3
import Derived.Test.YtbgfljpnhhdkoaaGreatVmX15
set_option maxHeartbeats 8000000
set_option linter.all false
set_option maxRecDepth 20000
open Go.Proofs.Tryz
namespace Go.Proofs.YtbgfljpnhhdkoaaGreat
open Go Go.Vm
variable {A:List ND}{i par:Int}{j:Nat}{n:ND}{v:VN}
section
variable {g:Bool} {l:List AT} {k:Nat}
end
section
variable {α:Type} {nm:α->ByteArray}
theorem Sorted.ext:∀ {A B:List α},Sorted nm A->Sorted nm B->(∀p,p∈A↔p∈B)->A=B
 | [], [],_,_,_=>rfl
 | [],b::B,_,_,h=>absurd ((h b).2 dH) (by simp)
 | a::A, [],_,_,h=>absurd ((h a).1 dH) (by simp)
 | a :: A, b :: B, hA, hB, h => by
  obtain⟨a1,a2⟩:=jB.1 hA;obtain⟨b1,b2⟩:=jB.1 hB;have e:a=b:=by
   rcases bM.1 ((h a).1 dH)with e | e
   .exact e
   rcases bM.1 ((h b).2 dH)with e' | e'
   .exact e'.symm
   have h1:=Kc (b1 a e);rw [a1 b e'] at h1;cases h1
  subst e;have ht:∀p,p∈A↔p∈B:=fun p=>by
   have hp:=h p;simp only [bM] at hp;constructor
   .intro q;rcases hp.1 (.inr q)with e | e
    .subst e;exact absurd rfl (qY (a1 p q))
    exact e
   intro q;rcases hp.2 (.inr q)with e | e
   .subst e;exact absurd rfl (qY (b1 p q))
   exact e
  rw [Sorted.ext a2 b2 ht]
end
def Vi(n:ND)(o:OW):ND:= { n with classes:=bU o.classes,attrs:=o.attrs,styles:=o.styles }
theorem Yg:∀(S:List Stp) (n:ND),bU n.classes=n.classes->okS n.classes S->tB n (S.map cOp)=some { n with classes:=S.foldl rU n.classes }
 | [],n,_,_=>rfl
 | s :: S, n, hc, ⟨h1, h2⟩ => by
  by_cases e:s.drop=true
  .rw [aK e] at h1;have hs:xG n (cOp s)=some { n with classes:=kS n.classes s.name } :=by
    unfold cOp;rw [aK e];show chN n 7 s.name _ _=_
    unfold chN;rw [aD (by decide),aD (by decide),aD (by decide),aD (by decide),aD (by decide),aD (by decide),aD (by decide),aK h1]
   have hst:rU n.classes s=kS n.classes s.name:=by unfold rU;rw [aK e]
   rw [cC,mO hs,Yg S _ (by show bU (kS n.classes s.name)=_;rw [Xk,hc]) (by rw [hst] at h2;exact h2),dO,hst]
  rw [aD e] at h1;have hs:xG n (cOp s)=some { n with classes:=n.classes++ [s.name] } :=by
   unfold cOp;rw [aD e];show chN n 6 s.name _ _=_
   unfold chN;rw [aD (by decide),aD (by decide),aD (by decide),aD (by decide),aD (by decide),aD (by decide),aK rfl,aD h1]
  have hst:rU n.classes s=n.classes++ [s.name]:=by unfold rU;rw [aD e];unfold rN;rw [aD h1]
  rw [cC,mO hs,Yg S _ (by show bU (n.classes++ [s.name])=_;rw [nF,hc];unfold rN;rw [aD h1]) (by rw [hst] at h2;exact h2),dO,hst]
theorem aAa {o:OW} (hc:bU n.classes=n.classes)(ho:OwOk o)(ha:Sorted nA n.attrs)(hs:Sorted nP n.styles):tB n (jW n o)=some (Vi n o):=by
 have x1:=Yg (jT n.classes o.classes) n hc (by have:=aKc n.classes o.classes;rw [hc] at this;exact this);have hx:(jT n.classes o.classes).foldl rU n.classes=bU o.classes:=by
  have:=aA9 n.classes o.classes;unfold Zw at this;rw [hc] at this;exact this
 rw [hx] at x1;obtain⟨L,l1,l2,l3⟩:=aLx (n.attrs.filter fun p=> !mA nA o.attrs p.name) { n with classes:=bU o.classes } ha (ha.ne.filter _) fun p hp=>pP.2 ⟨p,(cS.1 hp).1,rfl⟩;obtain⟨M,m1,m2,m3⟩:=aJ4 (o.attrs.filter fun p=> !decide (p∈n.attrs)) { n with classes:=bU o.classes,attrs:=L } l2 (ho.sa.ne.filter _);obtain⟨P,p1,p2,p3⟩:=aIj (n.styles.filter fun p=> !mA nP o.styles p.name) { n with classes:=bU o.classes,attrs:=M } hs (hs.ne.filter _) fun p hp=>pP.2 ⟨p,(cS.1 hp).1,rfl⟩;obtain⟨Q,q1,q2,q3⟩:=aMi (o.styles.filter fun p=> !decide (p∈n.styles)) { n with classes:=bU o.classes,attrs:=M,styles:=P } p2 (ho.ss.ne.filter _) fun p hp=>ho.sv p (cS.1 hp).1;have ea:(jJ nA Aj n.attrs o.attrs).map aOp=((n.attrs.filter fun p=> !mA nA o.attrs p.name).map fun p=>DO_.da p.name)++((o.attrs.filter fun p=> !decide (p∈n.attrs)).map fun p=>DO_.sa p.name p.value):=by
  rw [Dc ha ho.sa,cE,eA,eA];rfl
 have es:(jJ nP Dm n.styles o.styles).map sOp=((n.styles.filter fun p=> !mA nP o.styles p.name).map fun p=>DO_.ds p.name)++((o.styles.filter fun p=> !decide (p∈n.styles)).map fun p=>DO_.ss p.name p.value):=by
  rw [Dc hs ho.ss,cE,eA,eA];rfl
 have eM:M=o.attrs:=m2.ext ho.sa (Ww ha ho.sa l3 m3);have eQ:Q=o.styles:=q2.ext ho.ss (Ww hs ho.ss p3 q3);unfold jW;rw [ea,es,bW,wZ x1,bW,wZ l1,wZ m1,wZ p1,q1,eM,eQ];rfl
theorem aKj(l:List ND) {m:ND} (e:n.ID=m.ID):dK (dK l m) n=dK l n:=by
 rw [tH,tH,tH,eA];refine cW fun x _=>?_;show(if(if x.ID=m.ID then m else x).ID=n.ID then n else(if x.ID=m.ID then m else x))=_
 by_cases h:x.ID=m.ID
 .rw [aK h,aK e.symm,aK (h.trans e.symm)]
 rw [aD h]
theorem aC9:∀(O:List DO_) (n n':ND),tB n O=some n'->n'.ID=n.ID
 | [],n,n',h=>by simp [tB] at h;rw [h]
 | q :: O, n, n', h => by
  cases e:xG n q with
  | none=>simp [tB,e] at h
  | some m=>
   rw [mO e] at h;rw [aC9 O m n' h];exact(aJh e).1
theorem aSt (h0:¬i=0):∀(O:List DO_) (x:Nat->RD) (c:Nat->Int) (n':ND),((x 0).l.map ND.ID).Nodup->fP (x 0).l i=true->(aJ (x 0).l i).kind=2->(∀j (h:j<O.length),setX (x j) (O[j].kind - 6) i O[j].name O[j].value O[j].num=(x (j+1),c j))->(∀q∈O,dT q.name=true)->tB (aJ (x 0).l i) O=some n'->
  x O.length=⟨(x 0).most,(x 0).next,dK (x 0).l n'⟩
 | [],x,c,n',hnd,h1,h2,hs,hn,hr=>by
  simp [tB] at hr;obtain⟨n,n1,n2,n3⟩:=eX h1;have e:dK (x 0).l n'=(x 0).l:=by rw [<- hr,n3];exact aE9 hnd n1
  rw [e];rfl
 | q :: O, x, c, n', hnd, h1, h2, hs, hn, hr => by
  cases e:xG (aJ (x 0).l i) q with
  | none=>simp [tB,e] at hr
  | some m =>
   rw [mO e] at hr;obtain⟨id1,id2⟩:=aJh e;have hk:=q.kind_ge;have hx:=qZ (x:=x 0) (kind:=q.kind - 6) (id:=i) h1 h0 (by rw [h2];constructor <;> intro h <;> omega) (.inr (hn q dH)) e;have hx0:setX (x 0) (q.kind - 6) i q.name q.value q.num=(x 1,c 0):=hs 0 (by simp);rw [hx] at hx0;obtain⟨y1,y2⟩:=gI .. ▸ hx0;obtain⟨n,n1,n2,n3⟩:=eX h1;have hp:=sL hnd (p:=n) (p':=m) n1 (by rw [id1,n3]) i;rw [aK n2.symm] at hp;have l1:(x 1).l=dK (x 0).l m:=by rw [<- y1]
   have hrec:=aSt h0 O (fun j=>x (j+1)) (fun j=>c (j+1)) n' (by show((x 1).l.map ND.ID).Nodup;rw [l1,nC];exact hnd) (by show fP (x 1).l i=true;rw [l1,Is];exact h1) (by show(aJ (x 1).l i).kind=2;rw [l1,hp,id2];exact h2)
    (fun j h=>hs (j+1) (by simpa using h)) (fun q hq=>hn q (eV _ hq)) (by show tB (aJ (x 1).l i) O=_;rw [l1,hp];exact hr)
   have hid:n'.ID=m.ID:=aC9 O m n' hr;show x (O.length+1)=_
   have h3:x (O.length+1)=⟨(x 1).most,(x 1).next,dK (x 1).l n'⟩:=hrec;rw [h3,l1,aKj _ hid,<- y1]
section
variable {k m M l:Nat}{d d':DS}{rk rk':Int->Nat}{σ σ2:List (List D)}{x y:RD}{ops:List TOp}{o:OW}
theorem aP2(h:LX k m M l d rk x ops σ)(i:Int)(o:OW)(hb:k+(jW (aJ x.l i) o).length<=790)(h1:o.classes.length<=8)(h2:o.attrs.length<=8)(h3:o.styles.length<=8)(hs:∀s∈fK o,s.size<=9223372036854775807)(hv:∀p∈o.attrs,p.value.size<=1000)(ho:OwOk o)(hn:NmsOk x)
  (hm:Mz (aJ x.l i) (fP x.l i) i o=0) (hc:bU (aJ x.l i).classes=(aJ x.l i).classes):
  ∃d' rk' ops' σ',Ct prog 55 [.ref l 0,D.int i,Ey o] σ (fun r τ=>r=D.int 0/\τ=σ')/\LX (k+(jW (aJ x.l i) o).length) m M l d' rk' ⟨x.most,x.next,dK x.l (Vi (aJ x.l i) o)⟩ ops' σ'/\Oth m (· =l) d d' σ σ':=by
 have hme:=aVh h.ix i o;obtain⟨b1,b2,b3,b4⟩:=aVg hm;have hsa:Sorted nA (aJ x.l i).attrs:=by rw [aEi h.ix];exact aSg h.ix.iv i
 have hss:Sorted nP (aJ x.l i).styles:=by rw [aEi h.ix];exact aSr h.ix.iv i
 obtain⟨n,n1,n2,n3⟩:=eX b1;have hq:=aOd ho hsa hss (by rw [n3];exact hn n n1) b4 hv;have r1:=aAa hc ho hsa hss;obtain⟨st,cs,e0,e1,e2⟩:=aBm (i:=i) (jW (aJ x.l i) o) k ⟨d,rk,x,ops,σ⟩ h hb fun q hq'=>⟨by have:=Gk (hq q hq').1;omega,(hq q hq').2⟩;have es:(st 0).x=x:=by rw [e0]
 have hx:(st (jW (aJ x.l i) o).length).x=⟨x.most,x.next,dK x.l (Vi (aJ x.l i) o)⟩:=by
  have:=aSt b2 (jW (aJ x.l i) o) (fun j=>(st j).x) cs (Vi (aJ x.l i) o) (by show((st 0).x.l.map ND.ID).Nodup;rw [es];exact(aYd h.ix).nd) (by show fP (st 0).x.l i=true;rw [es];exact b1) (by show(aJ (st 0).x.l i).kind=2;rw [es];exact b3)
   (fun j hj=>(e2 j hj).2.2.1) (fun q hq'=>(hq q hq').1) (by show tB (aJ (st 0).x.l i) _=_;rw [es];exact r1)
  have h2:(st (jW (aJ x.l i) o).length).x=⟨(st 0).x.most,(st 0).x.next,dK (st 0).x.l (Vi (aJ x.l i) o)⟩:=this;rw [h2,es]
 obtain⟨hlx,hoth⟩:=e1 _ (aW _);rw [hx] at hlx;have hd:=aEi h.ix;obtain⟨c1,c2,c3⟩:=aZz (O:=jW (aJ x.l i) o) rfl;have hlen:(jW (aJ x.l i) o).length=(jT (aJ x.l i).classes o.classes).length+(jJ nA Aj (aJ x.l i).attrs o.attrs).length+(jJ nP Dm (aJ x.l i).styles o.styles).length:=by unfold jW;simp;omega
 have e3:∀j (h:j<(jW (aJ x.l i) o).length),Ct prog (jW (aJ x.l i) o)[j].lf (.ref l 0::(jW (aJ x.l i) o)[j].la i) (st j).σ (fun r τ=>r=D.int (cs j)/\τ=(st (j+1)).σ):=fun j hj=>(e2 j hj).1;refine⟨_,_,_,_,?_,hlx,hoth⟩;have:=aD7 k m M l d rk x ops i o (fun j=>(st j).σ) cs σ h (by omega) (by omega) (by omega) (by omega) hs (by rw [hme];exact hm) (by show(st 0).σ=σ;rw [e0])
  (by
   rw [<- hd];intro j hj;have q:=e3 j (by omega);have e:(jW (aJ x.l i) o)[j]'(by omega)=cOp (jT (aJ x.l i).classes o.classes)[j]:=c1 j hj _;rw [e] at q;exact q)
  (by
   rw [<- hd];intro j hj;have q:=e3 ((jT (aJ x.l i).classes o.classes).length+j) (by omega);have e:(jW (aJ x.l i) o)[(jT (aJ x.l i).classes o.classes).length+j]'(by omega)=aOp (jJ nA Aj (aJ x.l i).attrs o.attrs)[j]:=c2 j hj _;rw [e] at q;exact q)
  (by
   rw [<- hd];intro j hj;have q:=e3 ((jT (aJ x.l i).classes o.classes).length+(jJ nA Aj (aJ x.l i).attrs o.attrs).length+j) (by omega);have e:(jW (aJ x.l i) o)[(jT (aJ x.l i).classes o.classes).length+(jJ nA Aj (aJ x.l i).attrs o.attrs).length+j]'(by omega)=sOp (jJ nP Dm (aJ x.l i).styles o.styles)[j]:=c3 j hj _;rw [e] at q;exact q)
 rw [<- hd,<- hlen] at this;exact this
end
section
variable {k m M l:Nat} {d d':DS} {rk rk':Int->Nat} {σ σ2:List (List D)} {x y:RD} {ops:List TOp}
def Ik(x:RD)(kind:Int)(s:ByteArray):RD:=⟨x.most,x.next+1,x.l++ [gV x.next kind s]⟩
theorem aXt(h:LX k m M l d rk x ops σ)(hk:k<=800)(s:ByteArray)(hs:s.size<=1000)(hn:dT s=true)(hr:(x.l.length:Int)<=x.most):
  ∃d' rk' ops' σ',Ct prog 178 [.ref l 0,D.str s] σ (fun r τ=>r= .tup [D.int x.next,D.int 0]/\τ=σ')/\LX (k+1) m M l d' rk' (Ik x 2 s) ops' σ'/\Oth m (· =l) d d' σ σ':=by
 have hh:=h;obtain⟨⟨hi,hx⟩,hoff,hat,hlen⟩:=h;have hl:ops.length<=100000:=by omega
 obtain⟨d',rk',σ',hc,hi',e,fr⟩:=aU9 k m M d rk s σ hi hk hs;obtain⟨p1,p2⟩:=hx.addX hi.ip.lt 2 s;have ex:addX x 2 s=(Ik x 2 s,x.next,0):=Jd (fun e=>by rw [hn] at e;cases e.2) (by omega);rw [ex] at p1 p2;rw [<- p1] at hc;obtain⟨o2,st⟩:=hh.step ⟨hi',by rw [e];exact p2⟩ fr;exact⟨d',rk',_,_,Xd l m ops s _ _ σ' σ hat hc o2 hl,st _ _,fr.othN l ops _ _⟩
theorem aWc(h:LX k m M l d rk x ops σ)(hk:k<=800)(s:ByteArray)(hr:(x.l.length:Int)<=x.most):
  ∃d' rk' ops' σ',Ct prog 177 [.ref l 0,D.str s] σ (fun r τ=>r= .tup [D.int x.next,D.int 0]/\τ=σ')/\LX (k+1) m M l d' rk' (Ik x 1 s) ops' σ'/\Oth m (· =l) d d' σ σ':=by
 have hh:=h;obtain⟨⟨hi,hx⟩,hoff,hat,hlen⟩:=h;have hl:ops.length<=100000:=by omega
 obtain⟨d',rk',σ',hc,hi',e,fr⟩:=aUs k m M d rk s σ hi hk;obtain⟨p1,p2⟩:=hx.addX hi.ip.lt 1 s;have ex:addX x 1 s=(Ik x 1 s,x.next,0):=Jd (fun e=>by cases e.1) (by omega);rw [ex] at p1 p2;rw [<- p1] at hc;obtain⟨o2,st⟩:=hh.step ⟨hi',by rw [e];exact p2⟩ fr;exact⟨d',rk',_,_,aId l m ops s _ _ σ' σ hat hc o2 hl,st _ _,fr.othN l ops _ _⟩
def aI7(x:RD)(p:Int)(at_:Nat)(id:Int):RD:=⟨x.most,x.next,dK (dK x.l { aJ x.l p with kids:=fQ (aJ x.l p).kids at_ id }) { aJ x.l id with parent:=p }⟩
theorem aU3(h:LX k m M l d rk x ops σ)(hk:k<=800)(p:Int)(a:Nat)(i:Int)(h1:fP x.l p=true)(h2:fP x.l i=true)(h3:(aJ x.l p).kind=2)(h4:¬i=0)(h5:(aJ x.l i).parent<0)(h6:oH x.l (dU d.l rk) p i=false)(h7:a<=(aJ x.l p).kids.length):
  ∃d' rk' ops' σ',Ct prog 64 [.ref l 0,D.int p,D.int a,D.int i] σ (fun r τ=>r=D.int 0/\τ=σ')/\LX (k+1) m M l d' rk' (aI7 x p a i) ops' σ'/\Oth m (· =l) d d' σ σ':=by
 have hh:=h;obtain⟨⟨hi,hx⟩,hoff,hat,hlen⟩:=h;have hl:ops.length<=100000:=by omega
 obtain⟨d',rk',σ',hc,hi',e,fr⟩:=aUm k m M d rk p a i σ hi hk;obtain⟨p1,p2⟩:=hx.insX (dU d.l rk) p a i;have ex:insX x (dU d.l rk) p a i=(aI7 x p a i,0):=by
  unfold insX;rw [aD (by simp [h1,h2]),aD (by simp [h3]),aD (by simp [h4,h6];omega)];rfl
 rw [ex] at p1 p2;rw [<- p1] at hc;obtain⟨o2,st⟩:=hh.step ⟨hi',by rw [e];exact p2⟩ fr;exact⟨d',rk',_,_,Za l m ops p a i _ σ' σ hat hc o2 hl,st _ _,fr.othN l ops _ _⟩
end
theorem aCq {l:List ND} (hup:∀id,∀c∈(aJ l id).kids,id<c):∀(f:Nat) (i j:Int),j∈Cy f l i->i<=j
 | 0,i,j,h=>by simp [Cy] at h;omega
 | f+1,i,j,h=>by
  simp only [Cy,bM,mF] at h;rcases h with rfl | ⟨c,hc,hj⟩
  .omega
  have h1:=hup i c hc;have h2:=aCq hup f c j hj;omega
theorem aE7 {l:List ND} (hup:∀id,∀c∈(aJ l id).kids,id<c)(rk:Int->Nat) {p:Int} (h:p<i):oH l (dU l rk) p i=false:=by
 unfold oH;have:(dU l rk i).any (fun k=>decide (k=p))=false:=by
  rw [qI];intro k hk;have:=aCq hup _ i k hk;simp;omega
 rw [this];simp
def wT(i par:Int)(v:VN)(ks:List Int):ND:=if v.kind=1 then⟨i,1,⟨#[]⟩,v.text, [], [], [],par,ks⟩else⟨i,2,v.tag,⟨#[]⟩,v.classes,v.attrs,v.styles,par,ks⟩
theorem kH(i par:Int)(v:VN)(ks:List Int):(wT i par v ks).ID=i:=by unfold wT;split <;> rfl
theorem wU(i par:Int)(v:VN)(ks:List Int):(wT i par v ks).kids=ks:=by unfold wT;split <;> rfl
theorem aP9(i par:Int)(v:VN)(ks:List Int):(wT i par v ks).parent=par:=by unfold wT;split <;> rfl
def iD:Int->List VN->List Int
 | _, []=> []
 | i,k::ks=>i::iD (i+cB k) ks
theorem pQ:∀(i:Int) (ks:List VN),(iD i ks).length=ks.length
 | _, []=>rfl
 | i,k::ks=>by simp [iD,pQ]
theorem Qi:∀(i:Int) (ks:List VN) (k:VN),iD i (ks++ [k])=iD i ks++ [i+((ks.map cB).sum:Nat)]
 | i, [],k=>by simp [iD]
 | i,a::ks,k=>by
  simp only [aQ,iD,Qi,cC,iA];congr 3;omega
theorem aCk:∀(i:Int) (ks:List VN),∀c∈iD i ks,i<=c
 | i, [],c,h=>by cases h
 | i,k::ks,c,h=>by
  simp only [iD,bM] at h;rcases h with rfl | h
  .omega
  have:=aCk _ ks c h;omega
def tY:Nat->Int->Int->VN->List ND
 | 0,_,_,_=> []
 | n+1,i,par,v=>wT i par v (iD (i+1) v.kids)::growKs (tY n) (i+1) i v.kids
where growKs (f:Int->Int->VN->List ND):Int->Int->List VN->List ND
 | _,_, []=> []
 | i,par,k::ks=>f i par k++growKs f (i+cB k) par ks
theorem Hs(f:Int->Int->VN->List ND):∀(i par:Int) (ks:List VN) (k:VN),tY.growKs f i par (ks++ [k])=tY.growKs f i par ks++f (i+((ks.map cB).sum:Nat)) par k
 | i,par, [],k=>by simp [tY.growKs]
 | i,par,a::ks,k=>by
  simp only [aQ,tY.growKs,Hs f,cC,iA,bW];congr 3;omega
theorem Hc {f g:Int->Int->VN->List ND} :∀(ks:List VN),(∀k∈ks,∀i par,f i par k=g i par k)->∀(i par:Int),tY.growKs f i par ks=tY.growKs g i par ks
 | [],_,i,par=>rfl
 | k::ks,h,i,par=>by
  simp only [tY.growKs];rw [h k dH,Hc ks fun x hx=>h x (eV _ hx)]
theorem Kt:∀(n m:Nat) (v:VN),cB v<=n->cB v<=m->∀i par,tY n i par v=tY m i par v
 | 0,_,v,h,_,i,par=>by have:=jV v;omega
 | _,0,v,_,h,i,par=>by have:=jV v;omega
 | n+1,m+1,v,hn,hm,i,par=>by
  simp only [tY];rw [Hc v.kids fun k hk i par=>Kt n m k (by have:=dQ hk;omega) (by have:=dQ hk;omega) i par]
def jA(i par:Int)(v:VN):List ND:=tY (cB v) i par v
def nZ(i par:Int)(ks:List VN):List ND:=tY.growKs jA i par ks
theorem nE(i par:Int)(v:VN):jA i par v=wT i par v (iD (i+1) v.kids)::nZ (i+1) i v.kids:=by
 unfold jA nZ;obtain⟨n,hn⟩:∃n,cB v=n+1:=⟨cB v - 1,by have:=jV v;omega⟩;rw [hn];simp only [tY];congr 1;exact Hc v.kids (fun k hk i par=>Kt n (cB k) k (by have:=dQ hk;omega) (aW _) i par) _ _
theorem aFw(i par:Int):nZ i par []= []:=rfl
theorem Zc(i par:Int)(ks:List VN)(k:VN):nZ i par (ks++ [k])=nZ i par ks++jA (i+((ks.map cB).sum:Nat)) par k:=Hs jA i par ks k
theorem tE(i par:Int)(k:VN)(ks:List VN):nZ i par (k::ks)=jA i par k++nZ (i+cB k) par ks:=rfl
theorem Fs:∀(v:VN) (i par:Int),(jA i par v).map ND.ID=(List.range (cB v)).map fun(n:Nat)=>i+(n:Int)
 | v, i, par => by
  have hk:∀(ks:List VN) (i par:Int),(∀k∈ks,k∈v.kids)->(nZ i par ks).map ND.ID=(List.range (ks.map cB).sum).map fun(n:Nat)=>i+(n:Int):=by
   intro ks;induction ks with
   | nil=>intro i par _;rfl
   | cons k ks ih=>
    intro i par h;have hkv:=dQ (h k dH);rw [tE,cE,Fs k i par,ih _ _ fun x hx=>h x (eV _ hx),cC,iA,zR,cE,eA];congr 1;refine cW fun n _=>?_;simp only [Function.comp];omega
  rw [nE,cC,kH,hk v.kids (i+1) i fun _ h=>h,jC v,zR,cE,eA];show i::_= [i+((0:Nat):Int)]++_
  rw [show i+((0:Nat):Int)=i by omega];show i::_=i::_
  congr 1;refine cW fun n _=>?_;simp only [Function.comp];omega
termination_by v=>cB v
theorem Pm(v:VN)(i par:Int):(jA i par v).length=cB v:=by
 have:=congrArg List.length (Fs v i par);simpa using this
theorem Gr (h:n∈jA i par v):i<=n.ID/\n.ID<i+cB v:=by
 have:=yY (f:=ND.ID) h;rw [Fs] at this;obtain⟨a,ha,e⟩:=aV.1 this;have:=eG.1 ha;omega
theorem tJ {l:List ND} (h:∀m∈l,m.ID≠n.ID):dK l n=l:=by
 rw [tH]
 conv=>rhs;rw [<- List.map_id l]
 exact cW fun m hm=>by rw [aD (h m hm)];rfl
theorem xQ(A B:List ND)(n:ND):dK (A++B) n=dK A n++dK B n:=by rw [tH,tH,tH,cE]
theorem yG(a:ND)(B:List ND)(n:ND):dK (a::B) n=(if a.ID=n.ID then n else a)::dK B n:=rfl
theorem Jk {B:List ND} (hA:∀m∈A,m.ID≠n.ID):aJ (A++n::B) n.ID=n/\fP (A++n::B) n.ID=true:=by
 have h:(A++n::B).find? (fun m=>decide (m.ID=n.ID))=some n:=by
  rw [List.find?_append,nQ.2 fun m hm=>by simpa using hA m hm];simp
 exact⟨by unfold aJ kU;rw [h];rfl,by unfold fP kU;rw [h];rfl⟩
theorem aNr(i par par2:Int)(v:VN)(ks:List Int): { wT i par v ks with parent:=par2 } =wT i par2 v ks:=by unfold wT;split <;> rfl
theorem aGw(i par:Int)(v:VN)(ks ks2:List Int): { wT i par v ks with kids:=ks2 } =wT i par v ks2:=by unfold wT;split <;> rfl
theorem vE:∀ {ks:List VN} {i par:Int} {n:ND},n∈nZ i par ks->i<=n.ID/\n.ID<i+((ks.map cB).sum:Nat)
 | [],i,par,n,h=>by cases h
 | k::ks,i,par,n,h=>by
  rw [tE] at h;simp only [cC,iA];rcases bT.1 h with h | h
  .have:=Gr h;omega
  have:=vE h;omega
def Mr(A:List ND)(i par:Int)(v:VN)(j:Nat):List ND:=A++wT i par v (iD (i+1) (v.kids.take j))::nZ (i+1) i (v.kids.take j)
def pB(i:Int)(v:VN)(j:Nat):Int:=i+1+(vY v j:Nat)
theorem aWf(A:List ND)(i par:Int)(v:VN):Mr A i par v 0=A++ [wT i par v []]:=by unfold Mr;simp [iD,aFw]
theorem Wa (hA:∀m∈A,m.ID<i)(B:List ND):aJ (Mr A i par v j++B) i=wT i par v (iD (i+1) (v.kids.take j))/\fP (Mr A i par v j++B) i=true:=by
 have:=Jk (A:=A) (B:=nZ (i+1) i (v.kids.take j)++B) (n:=wT i par v (iD (i+1) (v.kids.take j))) (fun m hm=>by rw [kH];have:=hA m hm;omega);rw [kH] at this;unfold Mr;rw [bW,aQ];exact this
theorem Uw (hA:∀m∈A,m.ID<i)(hj:j<v.kids.length):aJ (Mr A i par v j++jA (pB i v j) (-1) v.kids[j]) (pB i v j)=wT (pB i v j) (-1) v.kids[j] (iD (pB i v j+1) v.kids[j].kids)/\fP (Mr A i par v j++jA (pB i v j) (-1) v.kids[j]) (pB i v j)=true:=by
 rw [nE];have:=Jk (A:=Mr A i par v j) (B:=nZ (pB i v j+1) (pB i v j) v.kids[j].kids) (n:=wT (pB i v j) (-1) v.kids[j] (iD (pB i v j+1) v.kids[j].kids)) (fun m hm=>by
  rw [kH];unfold Mr at hm;rcases bT.1 hm with h | h
  .have:=hA m h;unfold pB;omega
  rcases bM.1 h with rfl | h
  .rw [kH];unfold pB;omega
  have:=vE h;unfold pB vY;omega)
 rw [kH] at this;exact this
theorem aLp {mo nx:Int} (hA:∀m∈A,m.ID<i)(hj:j<v.kids.length):
  aI7 ⟨mo,nx,Mr A i par v j++jA (pB i v j) (-1) v.kids[j]⟩ i j (pB i v j)=⟨mo,nx,Mr A i par v (j+1)⟩:=by
 unfold aI7;obtain⟨f1, -⟩:=Wa (par:=par) (v:=v) (j:=j) hA (jA (pB i v j) (-1) v.kids[j]);obtain⟨f2, -⟩:=Uw (par:=par) hA hj;simp only [];rw [f1,f2,aGw,aNr,wU];have hl:(iD (i+1) (v.kids.take j)).length=j:=by rw [pQ,bG];omega
 have hins:fQ (iD (i+1) (v.kids.take j)) j (pB i v j)=iD (i+1) (v.kids.take (j+1)):=by
  rw [bL _ _ hj,Qi];unfold fQ;rw [bZ (by omega),vF (by omega)];rfl
 rw [hins];have hA1:∀q:ND,q.ID=i->dK A q=A:=fun q hq=>tJ fun m hm=>by rw [hq];have:=hA m hm;omega
 have hA2:∀q:ND,q.ID=pB i v j->dK A q=A:=fun q hq=>tJ fun m hm=>by rw [hq];have:=hA m hm;unfold pB;omega
 have hK1:∀q:ND,q.ID=i->dK (nZ (i+1) i (v.kids.take j)) q=nZ (i+1) i (v.kids.take j):=fun q hq=>tJ fun m hm=>by rw [hq];have:=vE hm;omega
 have hK2:∀q:ND,q.ID=pB i v j->dK (nZ (i+1) i (v.kids.take j)) q=nZ (i+1) i (v.kids.take j):=fun q hq=>tJ fun m hm=>by rw [hq];have:=vE hm;unfold pB vY;omega
 have hR1:∀q:ND,q.ID=i->dK (jA (pB i v j) (-1) v.kids[j]) q=jA (pB i v j) (-1) v.kids[j]:=fun q hq=>tJ fun m hm=>by rw [hq];have:=Gr hm;unfold pB at this;omega
 have e1:dK (Mr A i par v j++jA (pB i v j) (-1) v.kids[j]) (wT i par v (iD (i+1) (v.kids.take (j+1))))=(A++wT i par v (iD (i+1) (v.kids.take (j+1)))::nZ (i+1) i (v.kids.take j))++jA (pB i v j) (-1) v.kids[j]:=by
  unfold Mr;rw [xQ,xQ,yG,hA1 _ (kH ..),hK1 _ (kH ..),hR1 _ (kH ..),aK (by rw [kH,kH])]
 rw [e1,xQ,xQ,yG,hA2 _ (kH ..),hK2 _ (kH ..),aD (by rw [kH,kH];unfold pB;omega)];have e2:dK (jA (pB i v j) (-1) v.kids[j]) (wT (pB i v j) i v.kids[j] (iD (pB i v j+1) v.kids[j].kids))=jA (pB i v j) i v.kids[j]:=by
  rw [nE,nE,yG,aK (by rw [kH,kH]),tJ fun m hm=>by rw [kH];have:=vE hm;omega]
 rw [e2];unfold Mr;rw [bL _ _ hj,Zc,bW,aQ];rfl
end Go.Proofs.YtbgfljpnhhdkoaaGreat
