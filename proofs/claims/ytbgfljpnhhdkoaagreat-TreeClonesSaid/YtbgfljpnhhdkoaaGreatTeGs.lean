import Derived.Test.YtbgfljpnhhdkoaaGreatWkTe3
import Derived.Test.YtbgfljpnhhdkoaaGreatVmX15
set_option linter.all false
set_option maxHeartbeats 8000000
set_option maxRecDepth 20000
open Go.Proofs.Tryz
namespace Go.Proofs.YtbgfljpnhhdkoaaGreat
open Go Go.Vm
variable {A:List ND}{i par:Int}{j:Nat}{n:ND}{v:VN}
section
variable {g:Bool} {l:List AT} {k:Nat}
end
section
variable {α:Type} {nm:α->ByteArray}
theorem Sorted.ext:∀ {A B:List α},Sorted nm A->Sorted nm B->(∀p,p∈A↔p∈B)->A=B
 | [], [],_,_,_=>rfl
 | [],b::B,_,_,h=>absurd ((h b).2 dY) (by simp)
 | a::A, [],_,_,h=>absurd ((h a).1 dY) (by simp)
 | a :: A, b :: B, hA, hB, h => by
  obtain⟨a1,a2⟩:=jB.1 hA;obtain⟨b1,b2⟩:=jB.1 hB;have e:a=b:=by
   rcases bN.1 ((h a).1 dY)with e | e
   .exact e
   rcases bN.1 ((h b).2 dY)with e' | e'
   .exact e'.symm
   have h1:=Jk (b1 a e);rw [a1 b e'] at h1;cases h1
  subst e;have ht:∀p,p∈A↔p∈B:=fun p=>by
   have hp:=h p;simp only [bN] at hp;constructor
   .intro q;rcases hp.1 (.inr q)with e | e
    .subst e;exact absurd rfl (qS (a1 p q))
    exact e
   intro q;rcases hp.2 (.inr q)with e | e
   .subst e;exact absurd rfl (qS (b1 p q))
   exact e
  rw [Sorted.ext a2 b2 ht]
end
def Ug(n:ND)(o:OW):ND:= { n with classes:=bV o.classes,attrs:=o.attrs,styles:=o.styles }
theorem Xl:∀(S:List Stp) (n:ND),bV n.classes=n.classes->okS n.classes S->sL n (S.map cOp)=some { n with classes:=S.foldl rP n.classes }
 | [],n,_,_=>rfl
 | s :: S, n, hc, ⟨h1, h2⟩ => by
  by_cases e:s.drop=true
  .rw [aL e] at h1;have hs:wP n (cOp s)=some { n with classes:=kM n.classes s.name } :=by
    unfold cOp;rw [aL e];show chN n 7 s.name _ _=_
    unfold chN;rw [aD (by decide),aD (by decide),aD (by decide),aD (by decide),aD (by decide),aD (by decide),aD (by decide),aL h1]
   have hst:rP n.classes s=kM n.classes s.name:=by unfold rP;rw [aL e]
   rw [cE,mC hs,Xl S _ (by show bV (kM n.classes s.name)=_;rw [Ts,hc]) (by rw [hst] at h2;exact h2),dM,hst]
  rw [aD e] at h1;have hs:wP n (cOp s)=some { n with classes:=n.classes++ [s.name] } :=by
   unfold cOp;rw [aD e];show chN n 6 s.name _ _=_
   unfold chN;rw [aD (by decide),aD (by decide),aD (by decide),aD (by decide),aD (by decide),aD (by decide),aL rfl,aD h1]
  have hst:rP n.classes s=n.classes++ [s.name]:=by unfold rP;rw [aD e];unfold rF;rw [aD h1]
  rw [cE,mC hs,Xl S _ (by show bV (n.classes++ [s.name])=_;rw [mT,hc];unfold rF;rw [aD h1]) (by rw [hst] at h2;exact h2),dM,hst]
theorem Zq {o:OW} (hc:bV n.classes=n.classes)(ho:OwOk o)(ha:Sorted nA n.attrs)(hs:Sorted nP n.styles):sL n (jS n o)=some (Ug n o):=by
 have x1:=Xl (jN n.classes o.classes) n hc (by have:=aKy n.classes o.classes;rw [hc] at this;exact this);have hx:(jN n.classes o.classes).foldl rP n.classes=bV o.classes:=by
  have:=aAc n.classes o.classes;unfold Yl at this;rw [hc] at this;exact this
 rw [hx] at x1;obtain⟨L,l1,l2,l3⟩:=aL6 (n.attrs.filter fun p=> !lQ nA o.attrs p.name) { n with classes:=bV o.classes } ha (ha.ne.filter _) fun p hp=>pG.2 ⟨p,(cX.1 hp).1,rfl⟩;obtain⟨M,m1,m2,m3⟩:=aGr (o.attrs.filter fun p=> !decide (p∈n.attrs)) { n with classes:=bV o.classes,attrs:=L } l2 (ho.sa.ne.filter _);obtain⟨P,p1,p2,p3⟩:=aLj (n.styles.filter fun p=> !lQ nP o.styles p.name) { n with classes:=bV o.classes,attrs:=M } hs (hs.ne.filter _) fun p hp=>pG.2 ⟨p,(cX.1 hp).1,rfl⟩;obtain⟨Q,q1,q2,q3⟩:=aLi (o.styles.filter fun p=> !decide (p∈n.styles)) { n with classes:=bV o.classes,attrs:=M,styles:=P } p2 (ho.ss.ne.filter _) fun p hp=>ho.sv p (cX.1 hp).1;have ea:(jF nA zU n.attrs o.attrs).map aOp=((n.attrs.filter fun p=> !lQ nA o.attrs p.name).map fun p=>DO_.da p.name)++((o.attrs.filter fun p=> !decide (p∈n.attrs)).map fun p=>DO_.sa p.name p.value):=by
  rw [Cx ha ho.sa,cN,fJ,fJ];rfl
 have es:(jF nP Cm n.styles o.styles).map sOp=((n.styles.filter fun p=> !lQ nP o.styles p.name).map fun p=>DO_.ds p.name)++((o.styles.filter fun p=> !decide (p∈n.styles)).map fun p=>DO_.ss p.name p.value):=by
  rw [Cx hs ho.ss,cN,fJ,fJ];rfl
 have eM:M=o.attrs:=m2.ext ho.sa (Tg ha ho.sa l3 m3);have eQ:Q=o.styles:=q2.ext ho.ss (Tg hs ho.ss p3 q3);unfold jS;rw [ea,es,bW,xH x1,bW,xH l1,xH m1,xH p1,q1,eM,eQ];rfl
theorem aHe(l:List ND) {m:ND} (e:n.ID=m.ID):dJ (dJ l m) n=dJ l n:=by
 rw [sV,sV,sV,fJ];refine dH fun x _=>?_;show(if(if x.ID=m.ID then m else x).ID=n.ID then n else(if x.ID=m.ID then m else x))=_
 by_cases h:x.ID=m.ID
 .rw [aL h,aL e.symm,aL (h.trans e.symm)]
 rw [aD h]
theorem aAo:∀(O:List DO_) (n n':ND),sL n O=some n'->n'.ID=n.ID
 | [],n,n',h=>by simp [sL] at h;rw [h]
 | q :: O, n, n', h => by
  cases e:wP n q with
  | none=>simp [sL,e] at h
  | some m=>
   rw [mC e] at h;rw [aAo O m n' h];exact(aMe e).1
theorem aQ1 (h0:¬i=0):∀(O:List DO_) (x:Nat->RD) (c:Nat->Int) (n':ND),((x 0).l.map ND.ID).Nodup->fO (x 0).l i=true->(aI (x 0).l i).kind=2->(∀j (h:j<O.length),setX (x j) (O[j].kind - 6) i O[j].name O[j].value O[j].num=(x (j+1),c j))->(∀q∈O,dR q.name=true)->sL (aI (x 0).l i) O=some n'->
  x O.length=⟨(x 0).most,(x 0).next,dJ (x 0).l n'⟩
 | [],x,c,n',hnd,h1,h2,hs,hn,hr=>by
  simp [sL] at hr;obtain⟨n,n1,n2,n3⟩:=eV h1;have e:dJ (x 0).l n'=(x 0).l:=by rw [<- hr,n3];exact aE5 hnd n1
  rw [e];rfl
 | q :: O, x, c, n', hnd, h1, h2, hs, hn, hr => by
  cases e:wP (aI (x 0).l i) q with
  | none=>simp [sL,e] at hr
  | some m =>
   rw [mC e] at hr;obtain⟨id1,id2⟩:=aMe e;have hk:=q.kind_ge;have hx:=qR (x:=x 0) (kind:=q.kind - 6) (id:=i) h1 h0 (by rw [h2];constructor <;> intro h <;> omega) (.inr (hn q dY)) e;have hx0:setX (x 0) (q.kind - 6) i q.name q.value q.num=(x 1,c 0):=hs 0 (by simp);rw [hx] at hx0;obtain⟨y1,y2⟩:=gF .. ▸ hx0;obtain⟨n,n1,n2,n3⟩:=eV h1;have hp:=sG hnd (p:=n) (p':=m) n1 (by rw [id1,n3]) i;rw [aL n2.symm] at hp;have l1:(x 1).l=dJ (x 0).l m:=by rw [<- y1]
   have hrec:=aQ1 h0 O (fun j=>x (j+1)) (fun j=>c (j+1)) n' (by show((x 1).l.map ND.ID).Nodup;rw [l1,mX];exact hnd) (by show fO (x 1).l i=true;rw [l1,Ib];exact h1) (by show(aI (x 1).l i).kind=2;rw [l1,hp,id2];exact h2)
    (fun j h=>hs (j+1) (by simpa using h)) (fun q hq=>hn q (fW _ hq)) (by show sL (aI (x 1).l i) O=_;rw [l1,hp];exact hr)
   have hid:n'.ID=m.ID:=aAo O m n' hr;show x (O.length+1)=_
   have h3:x (O.length+1)=⟨(x 1).most,(x 1).next,dJ (x 1).l n'⟩:=hrec;rw [h3,l1,aHe _ hid,<- y1]
section
variable {k m M l:Nat}{d d':DS}{rk rk':Int->Nat}{σ σ2:List (List D)}{x y:RD}{ops:List TOp}{o:OW}
theorem aNb(h:LX k m M l d rk x ops σ)(i:Int)(o:OW)(hb:k+(jS (aI x.l i) o).length<=790)(h1:o.classes.length<=8)(h2:o.attrs.length<=8)(h3:o.styles.length<=8)(hs:∀s∈fG o,s.size<=9223372036854775807)(hv:∀p∈o.attrs,p.value.size<=1000)(ho:OwOk o)(hn:NmsOk x)
  (hm:Lw (aI x.l i) (fO x.l i) i o=0) (hc:bV (aI x.l i).classes=(aI x.l i).classes):
  ∃d' rk' ops' σ',Ct prog 55 [.ref l 0,D.int i,El o] σ (fun r τ=>r=D.int 0/\τ=σ')/\LX (k+(jS (aI x.l i) o).length) m M l d' rk' ⟨x.most,x.next,dJ x.l (Ug (aI x.l i) o)⟩ ops' σ'/\Oth m (· =l) d d' σ σ':=by
 have hme:=aTy h.ix i o;obtain⟨b1,b2,b3,b4⟩:=aSg hm;have hsa:Sorted nA (aI x.l i).attrs:=by rw [aFr h.ix];exact aQv h.ix.iv i
 have hss:Sorted nP (aI x.l i).styles:=by rw [aFr h.ix];exact aQy h.ix.iv i
 obtain⟨n,n1,n2,n3⟩:=eV b1;have hq:=aJ4 ho hsa hss (by rw [n3];exact hn n n1) b4 hv;have r1:=Zq hc ho hsa hss;obtain⟨st,cs,e0,e1,e2⟩:=aBy (i:=i) (jS (aI x.l i) o) k ⟨d,rk,x,ops,σ⟩ h hb fun q hq'=>⟨by have:=Fa (hq q hq').1;omega,(hq q hq').2⟩;have es:(st 0).x=x:=by rw [e0]
 have hx:(st (jS (aI x.l i) o).length).x=⟨x.most,x.next,dJ x.l (Ug (aI x.l i) o)⟩:=by
  have:=aQ1 b2 (jS (aI x.l i) o) (fun j=>(st j).x) cs (Ug (aI x.l i) o) (by show((st 0).x.l.map ND.ID).Nodup;rw [es];exact(aX0 h.ix).nd) (by show fO (st 0).x.l i=true;rw [es];exact b1) (by show(aI (st 0).x.l i).kind=2;rw [es];exact b3)
   (fun j hj=>(e2 j hj).2.2.1) (fun q hq'=>(hq q hq').1) (by show sL (aI (st 0).x.l i) _=_;rw [es];exact r1)
  have h2:(st (jS (aI x.l i) o).length).x=⟨(st 0).x.most,(st 0).x.next,dJ (st 0).x.l (Ug (aI x.l i) o)⟩:=this;rw [h2,es]
 obtain⟨hlx,hoth⟩:=e1 _ (aV _);rw [hx] at hlx;have hd:=aFr h.ix;obtain⟨c1,c2,c3⟩:=aX5 (O:=jS (aI x.l i) o) rfl;have hlen:(jS (aI x.l i) o).length=(jN (aI x.l i).classes o.classes).length+(jF nA zU (aI x.l i).attrs o.attrs).length+(jF nP Cm (aI x.l i).styles o.styles).length:=by unfold jS;simp;omega
 have e3:∀j (h:j<(jS (aI x.l i) o).length),Ct prog (jS (aI x.l i) o)[j].lf (.ref l 0::(jS (aI x.l i) o)[j].la i) (st j).σ (fun r τ=>r=D.int (cs j)/\τ=(st (j+1)).σ):=fun j hj=>(e2 j hj).1;refine⟨_,_,_,_,?_,hlx,hoth⟩;have:=aFk k m M l d rk x ops i o (fun j=>(st j).σ) cs σ h (by omega) (by omega) (by omega) (by omega) hs (by rw [hme];exact hm) (by show(st 0).σ=σ;rw [e0])
  (by
   rw [<- hd];intro j hj;have q:=e3 j (by omega);have e:(jS (aI x.l i) o)[j]'(by omega)=cOp (jN (aI x.l i).classes o.classes)[j]:=c1 j hj _;rw [e] at q;exact q)
  (by
   rw [<- hd];intro j hj;have q:=e3 ((jN (aI x.l i).classes o.classes).length+j) (by omega);have e:(jS (aI x.l i) o)[(jN (aI x.l i).classes o.classes).length+j]'(by omega)=aOp (jF nA zU (aI x.l i).attrs o.attrs)[j]:=c2 j hj _;rw [e] at q;exact q)
  (by
   rw [<- hd];intro j hj;have q:=e3 ((jN (aI x.l i).classes o.classes).length+(jF nA zU (aI x.l i).attrs o.attrs).length+j) (by omega);have e:(jS (aI x.l i) o)[(jN (aI x.l i).classes o.classes).length+(jF nA zU (aI x.l i).attrs o.attrs).length+j]'(by omega)=sOp (jF nP Cm (aI x.l i).styles o.styles)[j]:=c3 j hj _;rw [e] at q;exact q)
 rw [<- hd,<- hlen] at this;exact this
end
section
variable {k m M l:Nat} {d d':DS} {rk rk':Int->Nat} {σ σ2:List (List D)} {x y:RD} {ops:List TOp}
def Hs(x:RD)(kind:Int)(s:ByteArray):RD:=⟨x.most,x.next+1,x.l++ [gV x.next kind s]⟩
theorem aU6(h:LX k m M l d rk x ops σ)(hk:k<=800)(s:ByteArray)(hs:s.size<=1000)(hn:dR s=true)(hr:(x.l.length:Int)<=x.most):
  ∃d' rk' ops' σ',Ct prog 178 [.ref l 0,D.str s] σ (fun r τ=>r= .tup [D.int x.next,D.int 0]/\τ=σ')/\LX (k+1) m M l d' rk' (Hs x 2 s) ops' σ'/\Oth m (· =l) d d' σ σ':=by
 have hh:=h;obtain⟨⟨hi,hx⟩,hoff,hat,hlen⟩:=h;have hl:ops.length<=100000:=by omega
 obtain⟨d',rk',σ',hc,hi',e,fr⟩:=aRz k m M d rk s σ hi hk hs;obtain⟨p1,p2⟩:=hx.addX hi.ip.lt 2 s;have ex:addX x 2 s=(Hs x 2 s,x.next,0):=Hw (fun e=>by rw [hn] at e;cases e.2) (by omega);rw [ex] at p1 p2;rw [<- p1] at hc;obtain⟨o2,st⟩:=hh.step ⟨hi',by rw [e];exact p2⟩ fr;exact⟨d',rk',_,_,Uf l m ops s _ _ σ' σ hat hc o2 hl,st _ _,fr.othN l ops _ _⟩
theorem aVn(h:LX k m M l d rk x ops σ)(hk:k<=800)(s:ByteArray)(hr:(x.l.length:Int)<=x.most):
  ∃d' rk' ops' σ',Ct prog 177 [.ref l 0,D.str s] σ (fun r τ=>r= .tup [D.int x.next,D.int 0]/\τ=σ')/\LX (k+1) m M l d' rk' (Hs x 1 s) ops' σ'/\Oth m (· =l) d d' σ σ':=by
 have hh:=h;obtain⟨⟨hi,hx⟩,hoff,hat,hlen⟩:=h;have hl:ops.length<=100000:=by omega
 obtain⟨d',rk',σ',hc,hi',e,fr⟩:=aSt k m M d rk s σ hi hk;obtain⟨p1,p2⟩:=hx.addX hi.ip.lt 1 s;have ex:addX x 1 s=(Hs x 1 s,x.next,0):=Hw (fun e=>by cases e.1) (by omega);rw [ex] at p1 p2;rw [<- p1] at hc;obtain⟨o2,st⟩:=hh.step ⟨hi',by rw [e];exact p2⟩ fr;exact⟨d',rk',_,_,aGv l m ops s _ _ σ' σ hat hc o2 hl,st _ _,fr.othN l ops _ _⟩
def aLh(x:RD)(p:Int)(at_:Nat)(id:Int):RD:=⟨x.most,x.next,dJ (dJ x.l { aI x.l p with kids:=fL (aI x.l p).kids at_ id }) { aI x.l id with parent:=p }⟩
theorem aR8(h:LX k m M l d rk x ops σ)(hk:k<=800)(p:Int)(a:Nat)(i:Int)(h1:fO x.l p=true)(h2:fO x.l i=true)(h3:(aI x.l p).kind=2)(h4:¬i=0)(h5:(aI x.l i).parent<0)(h6:nW x.l (dS d.l rk) p i=false)(h7:a<=(aI x.l p).kids.length):
  ∃d' rk' ops' σ',Ct prog 64 [.ref l 0,D.int p,D.int a,D.int i] σ (fun r τ=>r=D.int 0/\τ=σ')/\LX (k+1) m M l d' rk' (aLh x p a i) ops' σ'/\Oth m (· =l) d d' σ σ':=by
 have hh:=h;obtain⟨⟨hi,hx⟩,hoff,hat,hlen⟩:=h;have hl:ops.length<=100000:=by omega
 obtain⟨d',rk',σ',hc,hi',e,fr⟩:=aSd k m M d rk p a i σ hi hk;obtain⟨p1,p2⟩:=hx.insX (dS d.l rk) p a i;have ex:insX x (dS d.l rk) p a i=(aLh x p a i,0):=by
  unfold insX;rw [aD (by simp [h1,h2]),aD (by simp [h3]),aD (by simp [h4,h6];omega)];rfl
 rw [ex] at p1 p2;rw [<- p1] at hc;obtain⟨o2,st⟩:=hh.step ⟨hi',by rw [e];exact p2⟩ fr;exact⟨d',rk',_,_,Ye l m ops p a i _ σ' σ hat hc o2 hl,st _ _,fr.othN l ops _ _⟩
end
theorem aB3 {l:List ND} (hup:∀id,∀c∈(aI l id).kids,id<c):∀(f:Nat) (i j:Int),j∈Cn f l i->i<=j
 | 0,i,j,h=>by simp [Cn] at h;omega
 | f+1,i,j,h=>by
  simp only [Cn,bN,lU] at h;rcases h with rfl | ⟨c,hc,hj⟩
  .omega
  have h1:=hup i c hc;have h2:=aB3 hup f c j hj;omega
theorem aD0 {l:List ND} (hup:∀id,∀c∈(aI l id).kids,id<c)(rk:Int->Nat) {p:Int} (h:p<i):nW l (dS l rk) p i=false:=by
 unfold nW;have:(dS l rk i).any (fun k=>decide (k=p))=false:=by
  rw [qB];intro k hk;have:=aB3 hup _ i k hk;simp;omega
 rw [this];simp
def Bg(i par:Int)(v:VN)(ks:List Int):ND:=if v.kind=1 then⟨i,1,⟨#[]⟩,v.text, [], [], [],par,ks⟩else⟨i,2,v.tag,⟨#[]⟩,v.classes,v.attrs,v.styles,par,ks⟩
theorem lK(i par:Int)(v:VN)(ks:List Int):(Bg i par v ks).ID=i:=by unfold Bg;split <;> rfl
theorem Jt(i par:Int)(v:VN)(ks:List Int):(Bg i par v ks).kids=ks:=by unfold Bg;split <;> rfl
theorem aNl(i par:Int)(v:VN)(ks:List Int):(Bg i par v ks).parent=par:=by unfold Bg;split <;> rfl
def gL:Int->List VN->List Int
 | _, []=> []
 | i,k::ks=>i::gL (i+cJ k) ks
theorem mW:∀(i:Int) (ks:List VN),(gL i ks).length=ks.length
 | _, []=>rfl
 | i,k::ks=>by simp [gL,mW]
theorem Om:∀(i:Int) (ks:List VN) (k:VN),gL i (ks++ [k])=gL i ks++ [i+((ks.map cJ).sum:Nat)]
 | i, [],k=>by simp [gL]
 | i,a::ks,k=>by
  simp only [aQ,gL,Om,cE,iX];congr 3;omega
theorem aBj:∀(i:Int) (ks:List VN),∀c∈gL i ks,i<=c
 | i, [],c,h=>by cases h
 | i,k::ks,c,h=>by
  simp only [gL,bN] at h;rcases h with rfl | h
  .omega
  have:=aBj _ ks c h;omega
def tD:Nat->Int->Int->VN->List ND
 | 0,_,_,_=> []
 | n+1,i,par,v=>Bg i par v (gL (i+1) v.kids)::growKs (tD n) (i+1) i v.kids
where growKs (f:Int->Int->VN->List ND):Int->Int->List VN->List ND
 | _,_, []=> []
 | i,par,k::ks=>f i par k++growKs f (i+cJ k) par ks
theorem Hc(f:Int->Int->VN->List ND):∀(i par:Int) (ks:List VN) (k:VN),tD.growKs f i par (ks++ [k])=tD.growKs f i par ks++f (i+((ks.map cJ).sum:Nat)) par k
 | i,par, [],k=>by simp [tD.growKs]
 | i,par,a::ks,k=>by
  simp only [aQ,tD.growKs,Hc f,cE,iX,bW];congr 3;omega
theorem Eg {f g:Int->Int->VN->List ND} :∀(ks:List VN),(∀k∈ks,∀i par,f i par k=g i par k)->∀(i par:Int),tD.growKs f i par ks=tD.growKs g i par ks
 | [],_,i,par=>rfl
 | k::ks,h,i,par=>by
  simp only [tD.growKs];rw [h k dY,Eg ks fun x hx=>h x (fW _ hx)]
theorem It:∀(n m:Nat) (v:VN),cJ v<=n->cJ v<=m->∀i par,tD n i par v=tD m i par v
 | 0,_,v,h,_,i,par=>by have:=lP v;omega
 | _,0,v,_,h,i,par=>by have:=lP v;omega
 | n+1,m+1,v,hn,hm,i,par=>by
  simp only [tD];rw [Eg v.kids fun k hk i par=>It n m k (by have:=eL hk;omega) (by have:=eL hk;omega) i par]
def jW(i par:Int)(v:VN):List ND:=tD (cJ v) i par v
def pO(i par:Int)(ks:List VN):List ND:=tD.growKs jW i par ks
theorem uY(i par:Int)(v:VN):jW i par v=Bg i par v (gL (i+1) v.kids)::pO (i+1) i v.kids:=by
 unfold jW pO;obtain⟨n,hn⟩:∃n,cJ v=n+1:=⟨cJ v - 1,by have:=lP v;omega⟩;rw [hn];simp only [tD];congr 1;exact Eg v.kids (fun k hk i par=>It n (cJ k) k (by have:=eL hk;omega) (aV _) i par) _ _
theorem aEw(i par:Int):pO i par []= []:=rfl
theorem aAg(i par:Int)(ks:List VN)(k:VN):pO i par (ks++ [k])=pO i par ks++jW (i+((ks.map cJ).sum:Nat)) par k:=Hc jW i par ks k
theorem Bc(i par:Int)(k:VN)(ks:List VN):pO i par (k::ks)=jW i par k++pO (i+cJ k) par ks:=rfl
theorem Fc:∀(v:VN) (i par:Int),(jW i par v).map ND.ID=(List.range (cJ v)).map fun(n:Nat)=>i+(n:Int)
 | v, i, par => by
  have hk:∀(ks:List VN) (i par:Int),(∀k∈ks,k∈v.kids)->(pO i par ks).map ND.ID=(List.range (ks.map cJ).sum).map fun(n:Nat)=>i+(n:Int):=by
   intro ks;induction ks with
   | nil=>intro i par _;rfl
   | cons k ks ih=>
    intro i par h;have hkv:=eL (h k dY);rw [Bc,cN,Fc k i par,ih _ _ fun x hx=>h x (fW _ hx),cE,iX,Gj,cN,fJ];congr 1;refine dH fun n _=>?_;simp only [Function.comp];omega
  rw [uY,cE,lK,hk v.kids (i+1) i fun _ h=>h,jI v,Gj,cN,fJ];show i::_= [i+((0:Nat):Int)]++_
  rw [show i+((0:Nat):Int)=i by omega];show i::_=i::_
  congr 1;refine dH fun n _=>?_;simp only [Function.comp];omega
termination_by v=>cJ v
theorem Oh(v:VN)(i par:Int):(jW i par v).length=cJ v:=by
 have:=congrArg List.length (Fc v i par);simpa using this
theorem Ea (h:n∈jW i par v):i<=n.ID/\n.ID<i+cJ v:=by
 have:=Fu (f:=ND.ID) h;rw [Fc] at this;obtain⟨a,ha,e⟩:=aX.1 this;have:=dZ.1 ha;omega
theorem sQ {l:List ND} (h:∀m∈l,m.ID≠n.ID):dJ l n=l:=by
 rw [sV]
 conv=>rhs;rw [<- List.map_id l]
 exact dH fun m hm=>by rw [aD (h m hm)];rfl
theorem wD(A B:List ND)(n:ND):dJ (A++B) n=dJ A n++dJ B n:=by rw [sV,sV,sV,cN]
theorem yQ(a:ND)(B:List ND)(n:ND):dJ (a::B) n=(if a.ID=n.ID then n else a)::dJ B n:=rfl
theorem Kg {B:List ND} (hA:∀m∈A,m.ID≠n.ID):aI (A++n::B) n.ID=n/\fO (A++n::B) n.ID=true:=by
 have h:(A++n::B).find? (fun m=>decide (m.ID=n.ID))=some n:=by
  rw [List.find?_append,oU.2 fun m hm=>by simpa using hA m hm];simp
 exact⟨by unfold aI kJ;rw [h];rfl,by unfold fO kJ;rw [h];rfl⟩
theorem aMm(i par par2:Int)(v:VN)(ks:List Int): { Bg i par v ks with parent:=par2 } =Bg i par2 v ks:=by unfold Bg;split <;> rfl
theorem aDc(i par:Int)(v:VN)(ks ks2:List Int): { Bg i par v ks with kids:=ks2 } =Bg i par v ks2:=by unfold Bg;split <;> rfl
theorem tO:∀ {ks:List VN} {i par:Int} {n:ND},n∈pO i par ks->i<=n.ID/\n.ID<i+((ks.map cJ).sum:Nat)
 | [],i,par,n,h=>by cases h
 | k::ks,i,par,n,h=>by
  rw [Bc] at h;simp only [cE,iX];rcases bR.1 h with h | h
  .have:=Ea h;omega
  have:=tO h;omega
def Lz(A:List ND)(i par:Int)(v:VN)(j:Nat):List ND:=A++Bg i par v (gL (i+1) (v.kids.take j))::pO (i+1) i (v.kids.take j)
def nO(i:Int)(v:VN)(j:Nat):Int:=i+1+(uB v j:Nat)
theorem aV9(A:List ND)(i par:Int)(v:VN):Lz A i par v 0=A++ [Bg i par v []]:=by unfold Lz;simp [gL,aEw]
theorem Uz (hA:∀m∈A,m.ID<i)(B:List ND):aI (Lz A i par v j++B) i=Bg i par v (gL (i+1) (v.kids.take j))/\fO (Lz A i par v j++B) i=true:=by
 have:=Kg (A:=A) (B:=pO (i+1) i (v.kids.take j)++B) (n:=Bg i par v (gL (i+1) (v.kids.take j))) (fun m hm=>by rw [lK];have:=hA m hm;omega);rw [lK] at this;unfold Lz;rw [bW,aQ];exact this
theorem Vr (hA:∀m∈A,m.ID<i)(hj:j<v.kids.length):aI (Lz A i par v j++jW (nO i v j) (-1) v.kids[j]) (nO i v j)=Bg (nO i v j) (-1) v.kids[j] (gL (nO i v j+1) v.kids[j].kids)/\fO (Lz A i par v j++jW (nO i v j) (-1) v.kids[j]) (nO i v j)=true:=by
 rw [uY];have:=Kg (A:=Lz A i par v j) (B:=pO (nO i v j+1) (nO i v j) v.kids[j].kids) (n:=Bg (nO i v j) (-1) v.kids[j] (gL (nO i v j+1) v.kids[j].kids)) (fun m hm=>by
  rw [lK];unfold Lz at hm;rcases bR.1 hm with h | h
  .have:=hA m h;unfold nO;omega
  rcases bN.1 h with rfl | h
  .rw [lK];unfold nO;omega
  have:=tO h;unfold nO uB;omega)
 rw [lK] at this;exact this
theorem aIx {mo nx:Int} (hA:∀m∈A,m.ID<i)(hj:j<v.kids.length):
  aLh ⟨mo,nx,Lz A i par v j++jW (nO i v j) (-1) v.kids[j]⟩ i j (nO i v j)=⟨mo,nx,Lz A i par v (j+1)⟩:=by
 unfold aLh;obtain⟨f1, -⟩:=Uz (par:=par) (v:=v) (j:=j) hA (jW (nO i v j) (-1) v.kids[j]);obtain⟨f2, -⟩:=Vr (par:=par) hA hj;simp only [];rw [f1,f2,aDc,aMm,Jt];have hl:(gL (i+1) (v.kids.take j)).length=j:=by rw [mW,bG];omega
 have hins:fL (gL (i+1) (v.kids.take j)) j (nO i v j)=gL (i+1) (v.kids.take (j+1)):=by
  rw [bS _ _ hj,Om];unfold fL;rw [cC (by omega),uE (by omega)];rfl
 rw [hins];have hA1:∀q:ND,q.ID=i->dJ A q=A:=fun q hq=>sQ fun m hm=>by rw [hq];have:=hA m hm;omega
 have hA2:∀q:ND,q.ID=nO i v j->dJ A q=A:=fun q hq=>sQ fun m hm=>by rw [hq];have:=hA m hm;unfold nO;omega
 have hK1:∀q:ND,q.ID=i->dJ (pO (i+1) i (v.kids.take j)) q=pO (i+1) i (v.kids.take j):=fun q hq=>sQ fun m hm=>by rw [hq];have:=tO hm;omega
 have hK2:∀q:ND,q.ID=nO i v j->dJ (pO (i+1) i (v.kids.take j)) q=pO (i+1) i (v.kids.take j):=fun q hq=>sQ fun m hm=>by rw [hq];have:=tO hm;unfold nO uB;omega
 have hR1:∀q:ND,q.ID=i->dJ (jW (nO i v j) (-1) v.kids[j]) q=jW (nO i v j) (-1) v.kids[j]:=fun q hq=>sQ fun m hm=>by rw [hq];have:=Ea hm;unfold nO at this;omega
 have e1:dJ (Lz A i par v j++jW (nO i v j) (-1) v.kids[j]) (Bg i par v (gL (i+1) (v.kids.take (j+1))))=(A++Bg i par v (gL (i+1) (v.kids.take (j+1)))::pO (i+1) i (v.kids.take j))++jW (nO i v j) (-1) v.kids[j]:=by
  unfold Lz;rw [wD,wD,yQ,hA1 _ (lK ..),hK1 _ (lK ..),hR1 _ (lK ..),aL (by rw [lK,lK])]
 rw [e1,wD,wD,yQ,hA2 _ (lK ..),hK2 _ (lK ..),aD (by rw [lK,lK];unfold nO;omega)];have e2:dJ (jW (nO i v j) (-1) v.kids[j]) (Bg (nO i v j) i v.kids[j] (gL (nO i v j+1) v.kids[j].kids))=jW (nO i v j) i v.kids[j]:=by
  rw [uY,uY,yQ,aL (by rw [lK,lK]),sQ fun m hm=>by rw [lK];have:=tO hm;omega]
 rw [e2];unfold Lz;rw [bS _ _ hj,aAg,bW,aQ];rfl
end Go.Proofs.YtbgfljpnhhdkoaaGreat
