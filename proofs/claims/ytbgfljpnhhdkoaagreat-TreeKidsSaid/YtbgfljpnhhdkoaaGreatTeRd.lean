import Derived.Test.YtbgfljpnhhdkoaaGreatWkTe3
import Derived.Test.YtbgfljpnhhdkoaaGreatVmX15
set_option maxHeartbeats 8000000
set_option linter.all false
set_option maxRecDepth 20000
open Go.Proofs.Tryz
namespace Go.Proofs.YtbgfljpnhhdkoaaGreat
open Go Go.Vm
variable {A:List ND}{i par:Int}{j:Nat}{n:ND}{v:VN}
section
variable {g:Bool} {l:List AT} {k:Nat}
end
section
variable {α:Type} {nm:α->ByteArray}
theorem Sorted.ext:∀ {A B:List α},Sorted nm A->Sorted nm B->(∀p,p∈A↔p∈B)->A=B
 | [], [],_,_,_=>rfl
 | [],b::B,_,_,h=>absurd ((h b).2 fA) (by simp)
 | a::A, [],_,_,h=>absurd ((h a).1 fA) (by simp)
 | a :: A, b :: B, hA, hB, h => by
  obtain⟨a1,a2⟩:=iS.1 hA;obtain⟨b1,b2⟩:=iS.1 hB;have e:a=b:=by
   rcases bM.1 ((h a).1 fA)with e | e
   .exact e
   rcases bM.1 ((h b).2 fA)with e' | e'
   .exact e'.symm
   have h1:=Jj (b1 a e);rw [a1 b e'] at h1;cases h1
  subst e;have ht:∀p,p∈A↔p∈B:=fun p=>by
   have hp:=h p;simp only [bM] at hp;constructor
   .intro q;rcases hp.1 (.inr q)with e | e
    .subst e;exact absurd rfl (qG (a1 p q))
    exact e
   intro q;rcases hp.2 (.inr q)with e | e
   .subst e;exact absurd rfl (qG (b1 p q))
   exact e
  rw [Sorted.ext a2 b2 ht]
end
def Ud(n:ND)(o:OW):ND:= { n with classes:=bS o.classes,attrs:=o.attrs,styles:=o.styles }
theorem Xp:∀(S:List Stp) (n:ND),bS n.classes=n.classes->okS n.classes S->sE n (S.map cOp)=some { n with classes:=S.foldl rD n.classes }
 | [],n,_,_=>rfl
 | s :: S, n, hc, ⟨h1, h2⟩ => by
  by_cases e:s.drop=true
  .rw [aJ e] at h1;have hs:wW n (cOp s)=some { n with classes:=kG n.classes s.name } :=by
    unfold cOp;rw [aJ e];show chN n 7 s.name _ _=_
    unfold chN;rw [aD (by decide),aD (by decide),aD (by decide),aD (by decide),aD (by decide),aD (by decide),aD (by decide),aJ h1]
   have hst:rD n.classes s=kG n.classes s.name:=by unfold rD;rw [aJ e]
   rw [cK,lY hs,Xp S _ (by show bS (kG n.classes s.name)=_;rw [Sz,hc]) (by rw [hst] at h2;exact h2),dQ,hst]
  rw [aD e] at h1;have hs:wW n (cOp s)=some { n with classes:=n.classes++ [s.name] } :=by
   unfold cOp;rw [aD e];show chN n 6 s.name _ _=_
   unfold chN;rw [aD (by decide),aD (by decide),aD (by decide),aD (by decide),aD (by decide),aD (by decide),aJ rfl,aD h1]
  have hst:rD n.classes s=n.classes++ [s.name]:=by unfold rD;rw [aD e];unfold sP;rw [aD h1]
  rw [cK,lY hs,Xp S _ (by show bS (n.classes++ [s.name])=_;rw [mK,hc];unfold sP;rw [aD h1]) (by rw [hst] at h2;exact h2),dQ,hst]
theorem Ww {o:OW} (hc:bS n.classes=n.classes)(ho:OwOk o)(ha:Sorted nA n.attrs)(hs:Sorted nP n.styles):sE n (jK n o)=some (Ud n o):=by
 have x1:=Xp (jM n.classes o.classes) n hc (by have:=aHy n.classes o.classes;rw [hc] at this;exact this);have hx:(jM n.classes o.classes).foldl rD n.classes=bS o.classes:=by
  have:=Zp n.classes o.classes;unfold Zs at this;rw [hc] at this;exact this
 rw [hx] at x1;obtain⟨L,l1,l2,l3⟩:=aKc (n.attrs.filter fun p=> !lL nA o.attrs p.name) { n with classes:=bS o.classes } ha (ha.ne.filter _) fun p hp=>oQ.2 ⟨p,(cS.1 hp).1,rfl⟩;obtain⟨M,m1,m2,m3⟩:=aMj (o.attrs.filter fun p=> !decide (p∈n.attrs)) { n with classes:=bS o.classes,attrs:=L } l2 (ho.sa.ne.filter _);obtain⟨P,p1,p2,p3⟩:=aIa (n.styles.filter fun p=> !lL nP o.styles p.name) { n with classes:=bS o.classes,attrs:=M } hs (hs.ne.filter _) fun p hp=>oQ.2 ⟨p,(cS.1 hp).1,rfl⟩;obtain⟨Q,q1,q2,q3⟩:=aJ1 (o.styles.filter fun p=> !decide (p∈n.styles)) { n with classes:=bS o.classes,attrs:=M,styles:=P } p2 (ho.ss.ne.filter _) fun p hp=>ho.sv p (cS.1 hp).1;have ea:(iW nA zD n.attrs o.attrs).map aOp=((n.attrs.filter fun p=> !lL nA o.attrs p.name).map fun p=>DO_.da p.name)++((o.attrs.filter fun p=> !decide (p∈n.attrs)).map fun p=>DO_.sa p.name p.value):=by
  rw [Aw ha ho.sa,cO,fN,fN];rfl
 have es:(iW nP Be n.styles o.styles).map sOp=((n.styles.filter fun p=> !lL nP o.styles p.name).map fun p=>DO_.ds p.name)++((o.styles.filter fun p=> !decide (p∈n.styles)).map fun p=>DO_.ss p.name p.value):=by
  rw [Aw hs ho.ss,cO,fN,fN];rfl
 have eM:M=o.attrs:=m2.ext ho.sa (Ta ha ho.sa l3 m3);have eQ:Q=o.styles:=q2.ext ho.ss (Ta hs ho.ss p3 q3);unfold jK;rw [ea,es,bU,wF x1,bU,wF l1,wF m1,wF p1,q1,eM,eQ];rfl
theorem aKb(l:List ND) {m:ND} (e:n.ID=m.ID):dF (dF l m) n=dF l n:=by
 rw [sN,sN,sN,fN];refine dC fun x _=>?_;show(if(if x.ID=m.ID then m else x).ID=n.ID then n else(if x.ID=m.ID then m else x))=_
 by_cases h:x.ID=m.ID
 .rw [aJ h,aJ e.symm,aJ (h.trans e.symm)]
 rw [aD h]
theorem aBq:∀(O:List DO_) (n n':ND),sE n O=some n'->n'.ID=n.ID
 | [],n,n',h=>by simp [sE] at h;rw [h]
 | q :: O, n, n', h => by
  cases e:wW n q with
  | none=>simp [sE,e] at h
  | some m=>
   rw [lY e] at h;rw [aBq O m n' h];exact(aF3 e).1
theorem aP5 (h0:¬i=0):∀(O:List DO_) (x:Nat->RD) (c:Nat->Int) (n':ND),((x 0).l.map ND.ID).Nodup->fK (x 0).l i=true->(aI (x 0).l i).kind=2->(∀j (h:j<O.length),setX (x j) (O[j].kind - 6) i O[j].name O[j].value O[j].num=(x (j+1),c j))->(∀q∈O,dO q.name=true)->sE (aI (x 0).l i) O=some n'->
  x O.length=⟨(x 0).most,(x 0).next,dF (x 0).l n'⟩
 | [],x,c,n',hnd,h1,h2,hs,hn,hr=>by
  simp [sE] at hr;obtain⟨n,n1,n2,n3⟩:=eN h1;have e:dF (x 0).l n'=(x 0).l:=by rw [<- hr,n3];exact aBz hnd n1
  rw [e];rfl
 | q :: O, x, c, n', hnd, h1, h2, hs, hn, hr => by
  cases e:wW (aI (x 0).l i) q with
  | none=>simp [sE,e] at hr
  | some m =>
   rw [lY e] at hr;obtain⟨id1,id2⟩:=aF3 e;have hk:=q.kind_ge;have hx:=qJ (x:=x 0) (kind:=q.kind - 6) (id:=i) h1 h0 (by rw [h2];constructor <;> intro h <;> omega) (.inr (hn q fA)) e;have hx0:setX (x 0) (q.kind - 6) i q.name q.value q.num=(x 1,c 0):=hs 0 (by simp);rw [hx] at hx0;obtain⟨y1,y2⟩:=gA .. ▸ hx0;obtain⟨n,n1,n2,n3⟩:=eN h1;have hp:=sA hnd (p:=n) (p':=m) n1 (by rw [id1,n3]) i;rw [aJ n2.symm] at hp;have l1:(x 1).l=dF (x 0).l m:=by rw [<- y1]
   have hrec:=aP5 h0 O (fun j=>x (j+1)) (fun j=>c (j+1)) n' (by show((x 1).l.map ND.ID).Nodup;rw [l1,mJ];exact hnd) (by show fK (x 1).l i=true;rw [l1,Hp];exact h1) (by show(aI (x 1).l i).kind=2;rw [l1,hp,id2];exact h2)
    (fun j h=>hs (j+1) (by simpa using h)) (fun q hq=>hn q (gK _ hq)) (by show sE (aI (x 1).l i) O=_;rw [l1,hp];exact hr)
   have hid:n'.ID=m.ID:=aBq O m n' hr;show x (O.length+1)=_
   have h3:x (O.length+1)=⟨(x 1).most,(x 1).next,dF (x 1).l n'⟩:=hrec;rw [h3,l1,aKb _ hid,<- y1]
section
variable {k m M l:Nat}{d d':DS}{rk rk':Int->Nat}{σ σ2:List (List D)}{x y:RD}{ops:List TOp}{o:OW}
theorem aN1(h:LX k m M l d rk x ops σ)(i:Int)(o:OW)(hb:k+(jK (aI x.l i) o).length<=790)(h1:o.classes.length<=8)(h2:o.attrs.length<=8)(h3:o.styles.length<=8)(hs:∀s∈fF o,s.size<=9223372036854775807)(hv:∀p∈o.attrs,p.value.size<=1000)(ho:OwOk o)(hn:NmsOk x)
  (hm:Lw (aI x.l i) (fK x.l i) i o=0) (hc:bS (aI x.l i).classes=(aI x.l i).classes):
  ∃d' rk' ops' σ',Ct prog 55 [.ref l 0,D.int i,Fk o] σ (fun r τ=>r=D.int 0/\τ=σ')/\LX (k+(jK (aI x.l i) o).length) m M l d' rk' ⟨x.most,x.next,dF x.l (Ud (aI x.l i) o)⟩ ops' σ'/\Oth m (· =l) d d' σ σ':=by
 have hme:=aSp h.ix i o;obtain⟨b1,b2,b3,b4⟩:=aRo hm;have hsa:Sorted nA (aI x.l i).attrs:=by rw [aDv h.ix];exact aP1 h.ix.iv i
 have hss:Sorted nP (aI x.l i).styles:=by rw [aDv h.ix];exact aP0 h.ix.iv i
 obtain⟨n,n1,n2,n3⟩:=eN b1;have hq:=aKe ho hsa hss (by rw [n3];exact hn n n1) b4 hv;have r1:=Ww hc ho hsa hss;obtain⟨st,cs,e0,e1,e2⟩:=aAt (i:=i) (jK (aI x.l i) o) k ⟨d,rk,x,ops,σ⟩ h hb fun q hq'=>⟨by have:=Do (hq q hq').1;omega,(hq q hq').2⟩;have es:(st 0).x=x:=by rw [e0]
 have hx:(st (jK (aI x.l i) o).length).x=⟨x.most,x.next,dF x.l (Ud (aI x.l i) o)⟩:=by
  have:=aP5 b2 (jK (aI x.l i) o) (fun j=>(st j).x) cs (Ud (aI x.l i) o) (by show((st 0).x.l.map ND.ID).Nodup;rw [es];exact(aXf h.ix).nd) (by show fK (st 0).x.l i=true;rw [es];exact b1) (by show(aI (st 0).x.l i).kind=2;rw [es];exact b3)
   (fun j hj=>(e2 j hj).2.2.1) (fun q hq'=>(hq q hq').1) (by show sE (aI (st 0).x.l i) _=_;rw [es];exact r1)
  have h2:(st (jK (aI x.l i) o).length).x=⟨(st 0).x.most,(st 0).x.next,dF (st 0).x.l (Ud (aI x.l i) o)⟩:=this;rw [h2,es]
 obtain⟨hlx,hoth⟩:=e1 _ (aX _);rw [hx] at hlx;have hd:=aDv h.ix;obtain⟨c1,c2,c3⟩:=aWi (O:=jK (aI x.l i) o) rfl;have hlen:(jK (aI x.l i) o).length=(jM (aI x.l i).classes o.classes).length+(iW nA zD (aI x.l i).attrs o.attrs).length+(iW nP Be (aI x.l i).styles o.styles).length:=by unfold jK;simp;omega
 have e3:∀j (h:j<(jK (aI x.l i) o).length),Ct prog (jK (aI x.l i) o)[j].lf (.ref l 0::(jK (aI x.l i) o)[j].la i) (st j).σ (fun r τ=>r=D.int (cs j)/\τ=(st (j+1)).σ):=fun j hj=>(e2 j hj).1;refine⟨_,_,_,_,?_,hlx,hoth⟩;have:=aEc k m M l d rk x ops i o (fun j=>(st j).σ) cs σ h (by omega) (by omega) (by omega) (by omega) hs (by rw [hme];exact hm) (by show(st 0).σ=σ;rw [e0])
  (by
   rw [<- hd];intro j hj;have q:=e3 j (by omega);have e:(jK (aI x.l i) o)[j]'(by omega)=cOp (jM (aI x.l i).classes o.classes)[j]:=c1 j hj _;rw [e] at q;exact q)
  (by
   rw [<- hd];intro j hj;have q:=e3 ((jM (aI x.l i).classes o.classes).length+j) (by omega);have e:(jK (aI x.l i) o)[(jM (aI x.l i).classes o.classes).length+j]'(by omega)=aOp (iW nA zD (aI x.l i).attrs o.attrs)[j]:=c2 j hj _;rw [e] at q;exact q)
  (by
   rw [<- hd];intro j hj;have q:=e3 ((jM (aI x.l i).classes o.classes).length+(iW nA zD (aI x.l i).attrs o.attrs).length+j) (by omega);have e:(jK (aI x.l i) o)[(jM (aI x.l i).classes o.classes).length+(iW nA zD (aI x.l i).attrs o.attrs).length+j]'(by omega)=sOp (iW nP Be (aI x.l i).styles o.styles)[j]:=c3 j hj _;rw [e] at q;exact q)
 rw [<- hd,<- hlen] at this;exact this
end
section
variable {k m M l:Nat} {d d':DS} {rk rk':Int->Nat} {σ σ2:List (List D)} {x y:RD} {ops:List TOp}
def Hh(x:RD)(kind:Int)(s:ByteArray):RD:=⟨x.most,x.next+1,x.l++ [gT x.next kind s]⟩
theorem aT7(h:LX k m M l d rk x ops σ)(hk:k<=800)(s:ByteArray)(hs:s.size<=1000)(hn:dO s=true)(hr:(x.l.length:Int)<=x.most):
  ∃d' rk' ops' σ',Ct prog 178 [.ref l 0,D.str s] σ (fun r τ=>r= .tup [D.int x.next,D.int 0]/\τ=σ')/\LX (k+1) m M l d' rk' (Hh x 2 s) ops' σ'/\Oth m (· =l) d d' σ σ':=by
 have hh:=h;obtain⟨⟨hi,hx⟩,hoff,hat,hlen⟩:=h;have hl:ops.length<=100000:=by omega
 obtain⟨d',rk',σ',hc,hi',e,fr⟩:=aQ3 k m M d rk s σ hi hk hs;obtain⟨p1,p2⟩:=hx.addX hi.ip.lt 2 s;have ex:addX x 2 s=(Hh x 2 s,x.next,0):=Hu (fun e=>by rw [hn] at e;cases e.2) (by omega);rw [ex] at p1 p2;rw [<- p1] at hc;obtain⟨o2,st⟩:=hh.step ⟨hi',by rw [e];exact p2⟩ fr;exact⟨d',rk',_,_,Vo l m ops s _ _ σ' σ hat hc o2 hl,st _ _,fr.othN l ops _ _⟩
theorem aUh(h:LX k m M l d rk x ops σ)(hk:k<=800)(s:ByteArray)(hr:(x.l.length:Int)<=x.most):
  ∃d' rk' ops' σ',Ct prog 177 [.ref l 0,D.str s] σ (fun r τ=>r= .tup [D.int x.next,D.int 0]/\τ=σ')/\LX (k+1) m M l d' rk' (Hh x 1 s) ops' σ'/\Oth m (· =l) d d' σ σ':=by
 have hh:=h;obtain⟨⟨hi,hx⟩,hoff,hat,hlen⟩:=h;have hl:ops.length<=100000:=by omega
 obtain⟨d',rk',σ',hc,hi',e,fr⟩:=aTa k m M d rk s σ hi hk;obtain⟨p1,p2⟩:=hx.addX hi.ip.lt 1 s;have ex:addX x 1 s=(Hh x 1 s,x.next,0):=Hu (fun e=>by cases e.1) (by omega);rw [ex] at p1 p2;rw [<- p1] at hc;obtain⟨o2,st⟩:=hh.step ⟨hi',by rw [e];exact p2⟩ fr;exact⟨d',rk',_,_,aGu l m ops s _ _ σ' σ hat hc o2 hl,st _ _,fr.othN l ops _ _⟩
def aG5(x:RD)(p:Int)(at_:Nat)(id:Int):RD:=⟨x.most,x.next,dF (dF x.l { aI x.l p with kids:=fI (aI x.l p).kids at_ id }) { aI x.l id with parent:=p }⟩
theorem aRb(h:LX k m M l d rk x ops σ)(hk:k<=800)(p:Int)(a:Nat)(i:Int)(h1:fK x.l p=true)(h2:fK x.l i=true)(h3:(aI x.l p).kind=2)(h4:¬i=0)(h5:(aI x.l i).parent<0)(h6:nO x.l (dP d.l rk) p i=false)(h7:a<=(aI x.l p).kids.length):
  ∃d' rk' ops' σ',Ct prog 64 [.ref l 0,D.int p,D.int a,D.int i] σ (fun r τ=>r=D.int 0/\τ=σ')/\LX (k+1) m M l d' rk' (aG5 x p a i) ops' σ'/\Oth m (· =l) d d' σ σ':=by
 have hh:=h;obtain⟨⟨hi,hx⟩,hoff,hat,hlen⟩:=h;have hl:ops.length<=100000:=by omega
 obtain⟨d',rk',σ',hc,hi',e,fr⟩:=aRc k m M d rk p a i σ hi hk;obtain⟨p1,p2⟩:=hx.insX (dP d.l rk) p a i;have ex:insX x (dP d.l rk) p a i=(aG5 x p a i,0):=by
  unfold insX;rw [aD (by simp [h1,h2]),aD (by simp [h3]),aD (by simp [h4,h6];omega)];rfl
 rw [ex] at p1 p2;rw [<- p1] at hc;obtain⟨o2,st⟩:=hh.step ⟨hi',by rw [e];exact p2⟩ fr;exact⟨d',rk',_,_,Ze l m ops p a i _ σ' σ hat hc o2 hl,st _ _,fr.othN l ops _ _⟩
end
theorem aBd {l:List ND} (hup:∀id,∀c∈(aI l id).kids,id<c):∀(f:Nat) (i j:Int),j∈Ci f l i->i<=j
 | 0,i,j,h=>by simp [Ci] at h;omega
 | f+1,i,j,h=>by
  simp only [Ci,bM,lW] at h;rcases h with rfl | ⟨c,hc,hj⟩
  .omega
  have h1:=hup i c hc;have h2:=aBd hup f c j hj;omega
theorem aFz {l:List ND} (hup:∀id,∀c∈(aI l id).kids,id<c)(rk:Int->Nat) {p:Int} (h:p<i):nO l (dP l rk) p i=false:=by
 unfold nO;have:(dP l rk i).any (fun k=>decide (k=p))=false:=by
  rw [qE];intro k hk;have:=aBd hup _ i k hk;simp;omega
 rw [this];simp
def Au(i par:Int)(v:VN)(ks:List Int):ND:=if v.kind=1 then⟨i,1,⟨#[]⟩,v.text, [], [], [],par,ks⟩else⟨i,2,v.tag,⟨#[]⟩,v.classes,v.attrs,v.styles,par,ks⟩
theorem lH(i par:Int)(v:VN)(ks:List Int):(Au i par v ks).ID=i:=by unfold Au;split <;> rfl
theorem Jt(i par:Int)(v:VN)(ks:List Int):(Au i par v ks).kids=ks:=by unfold Au;split <;> rfl
theorem aN0(i par:Int)(v:VN)(ks:List Int):(Au i par v ks).parent=par:=by unfold Au;split <;> rfl
def gG:Int->List VN->List Int
 | _, []=> []
 | i,k::ks=>i::gG (i+cT k) ks
theorem lN:∀(i:Int) (ks:List VN),(gG i ks).length=ks.length
 | _, []=>rfl
 | i,k::ks=>by simp [gG,lN]
theorem Mp:∀(i:Int) (ks:List VN) (k:VN),gG i (ks++ [k])=gG i ks++ [i+((ks.map cT).sum:Nat)]
 | i, [],k=>by simp [gG]
 | i,a::ks,k=>by
  simp only [aQ,gG,Mp,cK,jG];congr 3;omega
theorem Pg:∀(i:Int) (ks:List VN),∀c∈gG i ks,i<=c
 | i, [],c,h=>by cases h
 | i,k::ks,c,h=>by
  simp only [gG,bM] at h;rcases h with rfl | h
  .omega
  have:=Pg _ ks c h;omega
def tC:Nat->Int->Int->VN->List ND
 | 0,_,_,_=> []
 | n+1,i,par,v=>Au i par v (gG (i+1) v.kids)::growKs (tC n) (i+1) i v.kids
where growKs (f:Int->Int->VN->List ND):Int->Int->List VN->List ND
 | _,_, []=> []
 | i,par,k::ks=>f i par k++growKs f (i+cT k) par ks
theorem Gy(f:Int->Int->VN->List ND):∀(i par:Int) (ks:List VN) (k:VN),tC.growKs f i par (ks++ [k])=tC.growKs f i par ks++f (i+((ks.map cT).sum:Nat)) par k
 | i,par, [],k=>by simp [tC.growKs]
 | i,par,a::ks,k=>by
  simp only [aQ,tC.growKs,Gy f,cK,jG,bU];congr 3;omega
theorem Df {f g:Int->Int->VN->List ND} :∀(ks:List VN),(∀k∈ks,∀i par,f i par k=g i par k)->∀(i par:Int),tC.growKs f i par ks=tC.growKs g i par ks
 | [],_,i,par=>rfl
 | k::ks,h,i,par=>by
  simp only [tC.growKs];rw [h k fA,Df ks fun x hx=>h x (gK _ hx)]
theorem Ia:∀(n m:Nat) (v:VN),cT v<=n->cT v<=m->∀i par,tC n i par v=tC m i par v
 | 0,_,v,h,_,i,par=>by have:=lK v;omega
 | _,0,v,_,h,i,par=>by have:=lK v;omega
 | n+1,m+1,v,hn,hm,i,par=>by
  simp only [tC];rw [Df v.kids fun k hk i par=>Ia n m k (by have:=fV hk;omega) (by have:=fV hk;omega) i par]
def jP(i par:Int)(v:VN):List ND:=tC (cT v) i par v
def pB(i par:Int)(ks:List VN):List ND:=tC.growKs jP i par ks
theorem uR(i par:Int)(v:VN):jP i par v=Au i par v (gG (i+1) v.kids)::pB (i+1) i v.kids:=by
 unfold jP pB;obtain⟨n,hn⟩:∃n,cT v=n+1:=⟨cT v - 1,by have:=lK v;omega⟩;rw [hn];simp only [tC];congr 1;exact Df v.kids (fun k hk i par=>Ia n (cT k) k (by have:=fV hk;omega) (aX _) i par) _ _
theorem aBx(i par:Int):pB i par []= []:=rfl
theorem Yr(i par:Int)(ks:List VN)(k:VN):pB i par (ks++ [k])=pB i par ks++jP (i+((ks.map cT).sum:Nat)) par k:=Gy jP i par ks k
theorem zV(i par:Int)(k:VN)(ks:List VN):pB i par (k::ks)=jP i par k++pB (i+cT k) par ks:=rfl
theorem Fs:∀(v:VN) (i par:Int),(jP i par v).map ND.ID=(List.range (cT v)).map fun(n:Nat)=>i+(n:Int)
 | v, i, par => by
  have hk:∀(ks:List VN) (i par:Int),(∀k∈ks,k∈v.kids)->(pB i par ks).map ND.ID=(List.range (ks.map cT).sum).map fun(n:Nat)=>i+(n:Int):=by
   intro ks;induction ks with
   | nil=>intro i par _;rfl
   | cons k ks ih=>
    intro i par h;have hkv:=fV (h k fA);rw [zV,cO,Fs k i par,ih _ _ fun x hx=>h x (gK _ hx),cK,jG,Et,cO,fN];congr 1;refine dC fun n _=>?_;simp only [Function.comp];omega
  rw [uR,cK,lH,hk v.kids (i+1) i fun _ h=>h,jA v,Et,cO,fN];show i::_= [i+((0:Nat):Int)]++_
  rw [show i+((0:Nat):Int)=i by omega];show i::_=i::_
  congr 1;refine dC fun n _=>?_;simp only [Function.comp];omega
termination_by v=>cT v
theorem Mu(v:VN)(i par:Int):(jP i par v).length=cT v:=by
 have:=congrArg List.length (Fs v i par);simpa using this
theorem Dt (h:n∈jP i par v):i<=n.ID/\n.ID<i+cT v:=by
 have:=Ee (f:=ND.ID) h;rw [Fs] at this;obtain⟨a,ha,e⟩:=aW.1 this;have:=dS.1 ha;omega
theorem sM {l:List ND} (h:∀m∈l,m.ID≠n.ID):dF l n=l:=by
 rw [sN]
 conv=>rhs;rw [<- List.map_id l]
 exact dC fun m hm=>by rw [aD (h m hm)];rfl
theorem vS(A B:List ND)(n:ND):dF (A++B) n=dF A n++dF B n:=by rw [sN,sN,sN,cO]
theorem xK(a:ND)(B:List ND)(n:ND):dF (a::B) n=(if a.ID=n.ID then n else a)::dF B n:=rfl
theorem Kq {B:List ND} (hA:∀m∈A,m.ID≠n.ID):aI (A++n::B) n.ID=n/\fK (A++n::B) n.ID=true:=by
 have h:(A++n::B).find? (fun m=>decide (m.ID=n.ID))=some n:=by
  rw [List.find?_append,sB.2 fun m hm=>by simpa using hA m hm];simp
 exact⟨by unfold aI kF;rw [h];rfl,by unfold fK kF;rw [h];rfl⟩
theorem aKl(i par par2:Int)(v:VN)(ks:List Int): { Au i par v ks with parent:=par2 } =Au i par2 v ks:=by unfold Au;split <;> rfl
theorem aDn(i par:Int)(v:VN)(ks ks2:List Int): { Au i par v ks with kids:=ks2 } =Au i par v ks2:=by unfold Au;split <;> rfl
theorem uB:∀ {ks:List VN} {i par:Int} {n:ND},n∈pB i par ks->i<=n.ID/\n.ID<i+((ks.map cT).sum:Nat)
 | [],i,par,n,h=>by cases h
 | k::ks,i,par,n,h=>by
  rw [zV] at h;simp only [cK,jG];rcases bN.1 h with h | h
  .have:=Dt h;omega
  have:=uB h;omega
def Lp(A:List ND)(i par:Int)(v:VN)(j:Nat):List ND:=A++Au i par v (gG (i+1) (v.kids.take j))::pB (i+1) i (v.kids.take j)
def oS(i:Int)(v:VN)(j:Nat):Int:=i+1+(zO v j:Nat)
theorem aVe(A:List ND)(i par:Int)(v:VN):Lp A i par v 0=A++ [Au i par v []]:=by unfold Lp;simp [gG,aBx]
theorem Se (hA:∀m∈A,m.ID<i)(B:List ND):aI (Lp A i par v j++B) i=Au i par v (gG (i+1) (v.kids.take j))/\fK (Lp A i par v j++B) i=true:=by
 have:=Kq (A:=A) (B:=pB (i+1) i (v.kids.take j)++B) (n:=Au i par v (gG (i+1) (v.kids.take j))) (fun m hm=>by rw [lH];have:=hA m hm;omega);rw [lH] at this;unfold Lp;rw [bU,aQ];exact this
theorem Vy (hA:∀m∈A,m.ID<i)(hj:j<v.kids.length):aI (Lp A i par v j++jP (oS i v j) (-1) v.kids[j]) (oS i v j)=Au (oS i v j) (-1) v.kids[j] (gG (oS i v j+1) v.kids[j].kids)/\fK (Lp A i par v j++jP (oS i v j) (-1) v.kids[j]) (oS i v j)=true:=by
 rw [uR];have:=Kq (A:=Lp A i par v j) (B:=pB (oS i v j+1) (oS i v j) v.kids[j].kids) (n:=Au (oS i v j) (-1) v.kids[j] (gG (oS i v j+1) v.kids[j].kids)) (fun m hm=>by
  rw [lH];unfold Lp at hm;rcases bN.1 hm with h | h
  .have:=hA m h;unfold oS;omega
  rcases bM.1 h with rfl | h
  .rw [lH];unfold oS;omega
  have:=uB h;unfold oS zO;omega)
 rw [lH] at this;exact this
theorem aGq {mo nx:Int} (hA:∀m∈A,m.ID<i)(hj:j<v.kids.length):
  aG5 ⟨mo,nx,Lp A i par v j++jP (oS i v j) (-1) v.kids[j]⟩ i j (oS i v j)=⟨mo,nx,Lp A i par v (j+1)⟩:=by
 unfold aG5;obtain⟨f1, -⟩:=Se (par:=par) (v:=v) (j:=j) hA (jP (oS i v j) (-1) v.kids[j]);obtain⟨f2, -⟩:=Vy (par:=par) hA hj;simp only [];rw [f1,f2,aDn,aKl,Jt];have hl:(gG (i+1) (v.kids.take j)).length=j:=by rw [lN,bF];omega
 have hins:fI (gG (i+1) (v.kids.take j)) j (oS i v j)=gG (i+1) (v.kids.take (j+1)):=by
  rw [bR _ _ hj,Mp];unfold fI;rw [bV (by omega),uC (by omega)];rfl
 rw [hins];have hA1:∀q:ND,q.ID=i->dF A q=A:=fun q hq=>sM fun m hm=>by rw [hq];have:=hA m hm;omega
 have hA2:∀q:ND,q.ID=oS i v j->dF A q=A:=fun q hq=>sM fun m hm=>by rw [hq];have:=hA m hm;unfold oS;omega
 have hK1:∀q:ND,q.ID=i->dF (pB (i+1) i (v.kids.take j)) q=pB (i+1) i (v.kids.take j):=fun q hq=>sM fun m hm=>by rw [hq];have:=uB hm;omega
 have hK2:∀q:ND,q.ID=oS i v j->dF (pB (i+1) i (v.kids.take j)) q=pB (i+1) i (v.kids.take j):=fun q hq=>sM fun m hm=>by rw [hq];have:=uB hm;unfold oS zO;omega
 have hR1:∀q:ND,q.ID=i->dF (jP (oS i v j) (-1) v.kids[j]) q=jP (oS i v j) (-1) v.kids[j]:=fun q hq=>sM fun m hm=>by rw [hq];have:=Dt hm;unfold oS at this;omega
 have e1:dF (Lp A i par v j++jP (oS i v j) (-1) v.kids[j]) (Au i par v (gG (i+1) (v.kids.take (j+1))))=(A++Au i par v (gG (i+1) (v.kids.take (j+1)))::pB (i+1) i (v.kids.take j))++jP (oS i v j) (-1) v.kids[j]:=by
  unfold Lp;rw [vS,vS,xK,hA1 _ (lH ..),hK1 _ (lH ..),hR1 _ (lH ..),aJ (by rw [lH,lH])]
 rw [e1,vS,vS,xK,hA2 _ (lH ..),hK2 _ (lH ..),aD (by rw [lH,lH];unfold oS;omega)];have e2:dF (jP (oS i v j) (-1) v.kids[j]) (Au (oS i v j) i v.kids[j] (gG (oS i v j+1) v.kids[j].kids))=jP (oS i v j) i v.kids[j]:=by
  rw [uR,uR,xK,aJ (by rw [lH,lH]),sM fun m hm=>by rw [lH];have:=uB hm;omega]
 rw [e2];unfold Lp;rw [bR _ _ hj,Yr,bU,aQ];rfl
def qK(v:VN):OW:=⟨v.classes,v.attrs,v.styles⟩
def aLf(v:VN):Prop:=(v.kind=1/\fF (qK v)= []/\v.kids= [])\/(2<=v.kind/\v.kind<=4/\dO v.tag=true/\(∀s∈fF (qK v),dO s=true)/\∀p∈v.styles, -2147483648<=p.value/\p.value<=2147483647)
theorem aU0 (h:2<=v.kind)(h1:v.kind<=4)(h2:dO v.tag=true)(h3:∀s∈fF (qK v),dO s=true)(h4:∀p∈v.styles, -2147483648<=p.value/\p.value<=2147483647):aLf v:= .inr ⟨h,h1,h2,h3,h4⟩
theorem Cw {α:Type} {P:α->Prop} {l:List α} {k:Nat} (h:k<l.length)(hh:∀x∈l.take k,P x)(hx:P l[k]):∀x∈l.take (k+1),P x:=by
 intro x hm;rw [bR l k h] at hm;rcases bN.1 hm with h | h
 .exact hh x h
 rw [fO.1 h];exact hx
theorem aUp {N:Ls} {k0 k2:Nat} (h:2<=v.kind)(h1:v.kind<=4)(h2:dO v.tag=true)(hN:fF (qK v)=N)(h3:∀s∈N.take k0,dO s=true)(e0:N.length<=k0)(h4:∀p∈v.styles.take k2, -2147483648<=p.value/\p.value<=2147483647)(e2:v.styles.length<=k2):aLf v:=by
 subst hN;rw [bV e0] at h3;rw [bV e2] at h4;exact aU0 h h1 h2 h3 h4
def gX(v:VN)(b:Bool):Prop:=b=true->aLf v
@[simp] theorem aX6(v:VN):gX v false:=fun h=>by cases h
theorem eS {b:Bool} (h:v.kind=1)(h1:fF (qK v)= [])(h2:v.kids= []):gX v b:=fun _=> .inl ⟨h,h1,h2⟩
theorem eP {b:Bool} {N:Ls} {k0 k2:Nat} (h:2<=v.kind)(h1:v.kind<=4)(h2:dO v.tag=true)(hN:fF (qK v)=N)(h3:∀s∈N.take k0,dO s=true)(e0:N.length<=k0)(h4:∀p∈v.styles.take k2, -2147483648<=p.value/\p.value<=2147483647)(e2:v.styles.length<=k2):gX v b:=fun _=>aUp h h1 h2 hN h3 e0 h4 e2
theorem aNd(a b c:Int)(k:Nat):∃z:Int,k<3->([D.v (.int .i64 a),D.v (.int .i64 b),D.v (.int .i64 c)][k]?).getD D.any=D.v (.int .i64 z):=by
 match k with
 | 0=>exact⟨a,fun _=>rfl⟩
 | 1=>exact⟨b,fun _=>rfl⟩
 | 2=>exact⟨c,fun _=>rfl⟩
 | k+3=>exact⟨0,fun h=>absurd h (by omega)⟩
theorem aJ3 (h:VF v):∀s∈fF (qK v),s.size<=20:=by
 obtain⟨-, -, -, -, -, -,h1,h2,h3⟩:=h;intro s hs;rcases bN.1 hs with hs | hs
 .rcases bN.1 hs with hs | hs
  .exact h1 s hs
  obtain⟨p,hp,rfl⟩:=aW.1 hs;exact(h2 p hp).1
 obtain⟨p,hp,rfl⟩:=aW.1 hs;exact h3 p hp
theorem aAr (h:VF v):(fF (qK v)).length<=12:=by
 obtain⟨h1,h2,h3, -⟩:=h;simp [fF,qK];omega
@[simp] abbrev q5_1:Cfg:=⟨[2,3,19,32,38],[],[],[],[]⟩
theorem xN(v:VN)(σ:List (List D))(h1:v.classes.length<=9999)(h2:v.attrs.length<=9999)(h3:v.styles.length<=9999):Ct prog 172 [lF v] σ (fun r σ'=>r=dlo (fF (qK v))/\σ'=σ):=by
 refine zf func172 ?_;refine zr q5_1 fun _ _ Z=>?_;simp(disch:=omega);apply Z;refine zr q5_1 fun _ _ Z=>?_;simp(disch:=omega);and_intros<;>(try omega);apply Z;apply aE;refine zr q5_1 fun _ _ Z=>?_;simp(disch:=omega);and_intros<;>(try omega);apply Z;apply aR;refine zk [1,2,3,13,14,15] ?_;refine aY (fun(k:Nat)=> [(15,.d (.v (.int .i64 (k:Int)))),(3,.d (dlo (zY (qK v) k))),(5,.d (.any))]) [3,5,15,16,17,18,19,20,21,22,23,24] (fun(k:Nat)=>k<=v.attrs.length) (fun(k:Nat)=>v.attrs.length - k) (0) (by simp <;> rfl) ?_ ?_ ?_
 .simp [zY,qK]
 .simp
 rintro k hk;simp only [aQ,aP];have hnl:(zY (qK v) k).length=v.classes.length+k:=Sk (qK v) k hk;refine zr q5_1 fun _ _ Z=>?_;simp(disch:=omega);apply Z;apply aE;refine zI ?_ ?_<;>intro c1<;>try simp at c1
 .have hnn:zY (qK v) (k+1)=zY (qK v) k++ [v.attrs[k].name]:=Ms (qK v) c1;apply kO;refine zr q5_1 fun _ _ Z=>?_;simp(disch:=omega);and_intros<;>(try omega);apply Z;refine zt q5_1 fun _ _ Z=>?_;simp(disch:=omega);and_intros<;>(try omega);apply Z;apply zB;refine zk [1,2,3,5,13,14,15] ?_;refine zt q5_1 fun _ _ Z=>?_;simp(disch:=omega);and_intros<;>(try omega);apply Z;refine zq (k+1) ?_ ?_ ?_
  .omega
  .try dsimp only
   omega
  simp(disch:=omega)[hnn]
 obtain rfl:k=v.attrs.length:=by omega
 rw [show zY (qK v) v.attrs.length=yY (qK v) 0 from Uf (qK v)];apply zE;apply aE;refine zr q5_1 fun _ _ Z=>?_;simp(disch:=omega);and_intros<;>(try omega);apply Z;apply aR;refine zk [2,3,26,27,28] ?_;refine aY (fun(j:Nat)=> [(28,.d (.v (.int .i64 (j:Int)))),(3,.d (dlo (yY (qK v) j))),(7,.d (.any))]) [3,7,28,29,30,31,32,33,34,35,36,37] (fun(j:Nat)=>j<=v.styles.length) (fun(j:Nat)=>v.styles.length - j) (0) (by simp <;> rfl) ?_ ?_ ?_
 .simp
 .simp
 rintro j hj;simp only [aQ,aP];have hnl:(yY (qK v) j).length=v.classes.length+v.attrs.length+j:=Uq (qK v) j hj;refine zr q5_1 fun _ _ Z=>?_;simp(disch:=omega);apply Z;apply aE;refine zI ?_ ?_<;>intro c2<;>try simp at c2
 .have hnn:yY (qK v) (j+1)=yY (qK v) j++ [v.styles[j].name]:=Mo (qK v) c2;apply kO;refine zr q5_1 fun _ _ Z=>?_;simp(disch:=omega);and_intros<;>(try omega);apply Z;refine zt q5_1 fun _ _ Z=>?_;simp(disch:=omega);and_intros<;>(try omega);apply Z;apply zB;refine zk [2,3,7,26,27,28] ?_;refine zt q5_1 fun _ _ Z=>?_;simp(disch:=omega);and_intros<;>(try omega);apply Z;refine zq (j+1) ?_ ?_ ?_
  .omega
  .try dsimp only
   omega
  simp(disch:=omega)[hnn]
 obtain rfl:j=v.styles.length:=by omega
 rw [show yY (qK v) v.styles.length=fF (qK v)from Sp (qK v)];apply zE;refine zr q5_1 fun _ _ Z=>?_;simp(disch:=omega);apply Z;apply aC;simp [aG]
theorem aF8(s:ByteArray)(σ:List (List D))(hs:s.size<=9999):Ct prog 218 [D.str s] σ (fun r σ'=>(∃b:Bool,r=D.bool b)/\σ'=σ):=by
 refine zf func218 ?_;refine bC fun _ _ Z=>?_;simp(disch:=omega);apply Z;apply aE;refine bC fun _ _ Z=>?_;simp(disch:=omega);apply Z;apply aR;refine zk [0,2,3] ?_;refine aY (fun(k:Nat)=> [(3,.d (.v (.int .i64 (k:Int))))]) [2,3,4,5,6,7,8,9,10,11,12,13,14,15,16,17,18,19,20,21,22,23,24,25] (fun(k:Nat)=>k<=s.size) (fun(k:Nat)=>s.size - k) (0) (by simp <;> rfl) ?_ ?_ ?_
 .simp
 .simp
 rintro k hk;simp only [aQ,aP];apply aE;refine bC fun _ _ Z=>?_;simp(disch:=omega);and_intros<;>(try omega);apply Z;refine zI ?_ ?_<;>intro c1<;>try simp at c1
 .apply kO;refine zk [0,3] ?_;refine mE ⟨[],[],[],[],[]⟩ fun all hall _ Z=>?_;have ga4:aO all 4=some 14:=hall 4;have ga10:aO all 10=some 20:=hall 10;refine zs 5 fun _ Y=>?_;simp(disch:=omega)[ga4,ga10];and_intros<;>(try omega);apply Y;refine zb 14 ?_ ?_<;>intro g2<;>try simp at g2
  .refine zs 6 fun _ Y=>?_;simp(disch:=omega)[ga4,ga10];apply Y;simp(disch:=omega)[ga4,ga10];apply Z;refine aZ (t:=true) (by simp) (fun _=>?_) (fun h=>by cases h);refine zk [0,3] ?_;refine bC fun _ _ Z=>?_;simp(disch:=omega);apply Z;apply aC;simp [aG]
  refine zs 6 fun _ Y=>?_;simp(disch:=omega)[ga4,ga10];and_intros<;>(try omega);apply Y;refine zb 20 ?_ ?_<;>intro g3<;>try simp at g3
  .simp(disch:=omega)[ga4,ga10];apply Z;refine aZ (t:=true) (by simp) (fun _=>?_) (fun h=>by cases h);refine zk [0,3] ?_;refine bC fun _ _ Z=>?_;simp(disch:=omega);apply Z;apply aC;simp [aG]
  simp(disch:=omega)[ga4,ga10];and_intros<;>(try omega);apply Z;refine zI ?_ ?_<;>intro c4<;>try simp at c4
  .refine zk [0,3] ?_;refine bC fun _ _ Z=>?_;simp(disch:=omega);apply Z;apply aC;simp [aG]
  apply nM;refine zk [0,3] ?_;refine qF fun _ _ Z=>?_;simp(disch:=omega);and_intros<;>(try omega);apply Z;refine zq (k+1) ?_ ?_ ?_
  .omega
  .try dsimp only
   omega
  simp(disch:=omega)
 apply zE;refine bC fun _ _ Z=>?_;simp(disch:=omega);and_intros<;>(try omega);apply Z;apply aC;simp [aG]
theorem Ox(s:ByteArray)(σ:List (List D))(hs:s.size<=9999):Ct prog 219 [D.str s] σ (fun r σ'=>(∃b:Bool,r=D.bool b)/\σ'=σ):=by
 refine zf func219 ?_;refine bC fun _ _ Z=>?_;simp(disch:=omega);apply Z;apply aE;refine bC fun _ _ Z=>?_;simp(disch:=omega);apply Z;apply aR;refine zk [0,2,3] ?_;refine aY (fun(k:Nat)=> [(3,.d (.v (.int .i64 (k:Int))))]) [2,3,4,5,6,7,8,9,10,11,12,13,14,15,16,17,18,19,20,21,22,23,24,25,26,27,28,29,30,31,32,33,34,35,36,37] (fun(k:Nat)=>k<=s.size) (fun(k:Nat)=>s.size - k) (0) (by simp <;> rfl) ?_ ?_ ?_
 .simp
 .simp
 rintro k hk;simp only [aQ,aP];apply aE;refine bC fun _ _ Z=>?_;simp(disch:=omega);and_intros<;>(try omega);apply Z;refine zI ?_ ?_<;>intro c1<;>try simp at c1
 .apply kO;refine zk [0,3] ?_;refine mE ⟨[],[],[],[],[]⟩ fun all hall _ Z=>?_;have ga4:aO all 4=some 14:=hall 4;have ga10:aO all 10=some 20:=hall 10;have ga16:aO all 16=some 26:=hall 16;have ga22:aO all 22=some 32:=hall 22;refine zs 5 fun _ Y=>?_;simp(disch:=omega)[ga4,ga10,ga16,ga22];and_intros<;>(try omega);apply Y;refine zb 14 ?_ ?_<;>intro g2<;>try simp at g2
  .refine zs 6 fun _ Y=>?_;simp(disch:=omega)[ga4,ga10,ga16,ga22];apply Y;refine zs 6 fun _ Y=>?_;simp(disch:=omega)[ga4,ga10,ga16,ga22];apply Y;refine zs 6 fun _ Y=>?_;simp(disch:=omega)[ga4,ga10,ga16,ga22];apply Y;simp(disch:=omega)[ga4,ga10,ga16,ga22];apply Z;refine aZ (t:=true) (by simp) (fun _=>?_) (fun h=>by cases h);refine zk [0,3] ?_;refine bC fun _ _ Z=>?_;simp(disch:=omega);apply Z;apply aC;simp [aG]
  refine zs 6 fun _ Y=>?_;simp(disch:=omega)[ga4,ga10,ga16,ga22];and_intros<;>(try omega);apply Y;refine zb 20 ?_ ?_<;>intro g3<;>try simp at g3
  .refine zs 6 fun _ Y=>?_;simp(disch:=omega)[ga4,ga10,ga16,ga22];apply Y;refine zs 6 fun _ Y=>?_;simp(disch:=omega)[ga4,ga10,ga16,ga22];apply Y;simp(disch:=omega)[ga4,ga10,ga16,ga22];apply Z;refine aZ (t:=true) (by simp) (fun _=>?_) (fun h=>by cases h);refine zk [0,3] ?_;refine bC fun _ _ Z=>?_;simp(disch:=omega);apply Z;apply aC;simp [aG]
  refine zs 6 fun _ Y=>?_;simp(disch:=omega)[ga4,ga10,ga16,ga22];and_intros<;>(try omega);apply Y;refine zb 26 ?_ ?_<;>intro g4<;>try simp at g4
  .refine zs 6 fun _ Y=>?_;simp(disch:=omega)[ga4,ga10,ga16,ga22];apply Y;simp(disch:=omega)[ga4,ga10,ga16,ga22];apply Z;refine aZ (t:=true) (by simp) (fun _=>?_) (fun h=>by cases h);refine zk [0,3] ?_;refine bC fun _ _ Z=>?_;simp(disch:=omega);apply Z;apply aC;simp [aG]
  refine zs 6 fun _ Y=>?_;simp(disch:=omega)[ga4,ga10,ga16,ga22];and_intros<;>(try omega);apply Y;refine zb 32 ?_ ?_<;>intro g5<;>try simp at g5
  .simp(disch:=omega)[ga4,ga10,ga16,ga22];apply Z;refine aZ (t:=true) (by simp) (fun _=>?_) (fun h=>by cases h);refine zk [0,3] ?_;refine bC fun _ _ Z=>?_;simp(disch:=omega);apply Z;apply aC;simp [aG]
  simp(disch:=omega)[ga4,ga10,ga16,ga22];and_intros<;>(try omega);apply Z;refine zI ?_ ?_<;>intro c6<;>try simp at c6
  .refine zk [0,3] ?_;refine bC fun _ _ Z=>?_;simp(disch:=omega);apply Z;apply aC;simp [aG]
  apply nM;refine zk [0,3] ?_;refine qF fun _ _ Z=>?_;simp(disch:=omega);and_intros<;>(try omega);apply Z;refine zq (k+1) ?_ ?_ ?_
  .omega
  .try dsimp only
   omega
  simp(disch:=omega)
 apply zE;refine bC fun _ _ Z=>?_;simp(disch:=omega);and_intros<;>(try omega);apply Z;apply aC;simp [aG]
theorem aO2(s:ByteArray)(σ:List (List D))(hs:s.size<=9999):Ct prog 173 [D.str s] σ (fun r σ'=>(∃b:Bool,r=D.bool b)/\σ'=σ):=by
 refine zf func173 ?_;refine bC fun _ _ Z=>?_;simp(disch:=omega);apply Z;refine mE ⟨[],[],[],[],[]⟩ fun all hall _ Z=>?_;have ga3:aO all 3=some 6:=hall 3;refine zs 4 fun _ Y=>?_;simp(disch:=omega)[ga3];and_intros<;>(try omega);apply Y;refine zb 6 ?_ ?_<;>intro g1<;>try simp at g1
 .simp(disch:=omega)[ga3];and_intros<;>(try omega);apply Z;apply aC;simp [aG]
 simp(disch:=omega)[ga3];apply Z;apply aC;simp [aG]
theorem aAk(q:Nat)(v:VN)(id:Int)(a0 a1 a2 a3 a4 a5 a6 a7 a8 a9 a10 a11 a12 a13 b0 b1 b2 b3 b4 b5 b6 b7 b8 b9 b10 b11:D)(σ:List (List D))(hq:σ[q]?=some [D.int id,a0,a1,a2,a3,a4,a5,a6,a7,a8,a9,a10,a11,a12,a13,b0,b1,b2,b3,b4,b5,b6,b7,b8,b9,b10,b11]):Ct prog 105 [.ref q 0,lF v] σ (fun r σ'=>r= .tup []/\σ'=σ.set q [D.int id,D.int v.kind,D.str v.tag,D.str v.key,D.str v.text,.sl false (v.classes.map D.str),.sl false (v.attrs.map cZ),.sl false (v.styles.map cL),D.int v.opts.enter,D.int v.opts.leave,D.int v.opts.move,D.int v.opts.mode,D.bool v.opts.appear,D.bool v.opts.moves,.sl false [],b0,b1,b2,b3,b4,b5,b6,b7,b8,b9,b10,b11]):=by
 refine zf func105 ?_;refine bC fun _ _ Z=>?_;simp(disch:=omega)[hq,aM hq];apply Z;refine bC fun _ _ Z=>?_;simp(disch:=omega)[hq,aM hq];apply Z;refine qF fun _ _ Z=>?_;simp(disch:=omega)[hq,aM hq];apply Z;simp [aG]
theorem aCl(q l:Nat)(v:VN)(x:LK)(id:Int)(kk d0 d1 d2 d3 d4 d5 d6 d7:D)(σ2:List (List D))(σ:List (List D))(hq:σ[q]?=some [D.int id,D.int v.kind,D.str v.tag,D.str v.key,D.str v.text,.sl false (v.classes.map D.str),.sl false (v.attrs.map cZ),.sl false (v.styles.map cL),D.int v.opts.enter,D.int v.opts.leave,D.int v.opts.move,D.int v.opts.mode,D.bool v.opts.appear,D.bool v.opts.moves,kk,D.int x.kind,D.int x.move,D.int x.DX,D.int x.DY,d0,d1,d2,d3,d4,d5,d6,d7])(h1:v.classes.length<=9999)(h2:v.attrs.length<=9999)(h3:v.styles.length<=9999)(hk:¬v.kind=1)(hd:Ct prog 55 [.ref l 0,D.int id,Fk (Lj x (qK v))] σ (fun r τ=>r=D.int 0/\τ=σ2)):Ct prog 32 [.ref q 0,.ref l 0] σ (fun r σ'=>r= .tup []/\σ'=σ2):=by
 refine zf func32 ?_;have how:Fk (qK v)= .agg [.sl false (v.classes.map D.str),.sl false (v.attrs.map cZ),.sl false (v.styles.map cL)]:=rfl;refine bC fun _ _ Z=>?_;simp(disch:=omega)[hq];apply Z;refine zI ?_ ?_<;>intro c1<;>try simp at c1
 .refine zk [0,1] ?_;refine ze ⟨[],[],[],[],[]⟩ [.op {},.op {},.op {},.op {},.op {rO:=true},.op {},.op {},.op {},.op {},.op {rO:=true},.op {},.op {},.op {},.op {},.op {rO:=true},.op {},.op {},.op {},.op {},.op {rO:=true},.op {},.op {},.op {},.op {},.op {rO:=true},.op {},.pure,.det] fun all hall _ Z=>?_;refine nI 8 fun _ Y=>?_;simp(disch:=omega)[hq];apply Y;refine nI 8 fun _ Y=>?_;simp(disch:=omega)[hq];apply Y;refine nI 8 fun _ Y=>?_;simp(disch:=omega)[hq];apply Y;refine nI 2 fun _ Y=>?_;simp(disch:=omega)[hq];apply Y;refine cH fun _ Y=>?_;simp(disch:=omega)[hq];refine At (fun _=>(aMt x (qK v) _ h1 h2 h3)) ?_;apply Y;refine cH fun _ Y=>?_;simp(disch:=omega)[hq];refine zdd (hd) ?_;apply Y;simp only [uA];apply Z;simp [aG]
 exact absurd c1 hk
theorem aB6(q l:Nat)(v:VN)(x:LK)(id:Int)(kk d0 d1 d2 d3 d4 d5 d6 d7:D)(σ:List (List D))(hq:σ[q]?=some [D.int id,D.int v.kind,D.str v.tag,D.str v.key,D.str v.text,.sl false (v.classes.map D.str),.sl false (v.attrs.map cZ),.sl false (v.styles.map cL),D.int v.opts.enter,D.int v.opts.leave,D.int v.opts.move,D.int v.opts.mode,D.bool v.opts.appear,D.bool v.opts.moves,kk,D.int x.kind,D.int x.move,D.int x.DX,D.int x.DY,d0,d1,d2,d3,d4,d5,d6,d7])(hk:v.kind=1):Ct prog 32 [.ref q 0,.ref l 0] σ (fun r σ'=>r= .tup []/\σ'=σ):=by
 refine zf func32 ?_;refine bC fun _ _ Z=>?_;simp(disch:=omega)[hq];apply Z;refine zI ?_ ?_<;>intro c1<;>try simp at c1
 .exact absurd hk c1
 apply wG;simp [aG]
def tkR(l:List Int)(rd:Int->TN)(k:Nat):List TN:=(l.take k).map rd
theorem aVh(l:List Int)(rd:Int->TN):tkR l rd 0= []:=rfl
theorem aHk(l:List Int)(rd:Int->TN)(k:Nat)(h:k<l.length):tkR l rd (k+1)=tkR l rd k++ [rd l[k]]:=by unfold tkR;rw [bR l k h,cO];rfl
theorem aOw(l:List Int)(rd:Int->TN)(k:Nat):(tkR l rd k).length<=k:=by unfold tkR;rw [bQ,bF];omega
theorem aN6(l:List Int)(rd:Int->TN):tkR l rd l.length=l.map rd:=by unfold tkR;rw [fJ]
def tnN(n:ND)(id:Int)(ks:List TN):TN:=⟨id,n.kind,n.tag,n.text,n.classes,n.attrs,n.styles,ks⟩
abbrev aJa(m:Nat)(c:Int)(t:TN)(σ:List (List D)):Prop:=Ct prog 33 [.ref m 0,D.int c] σ (fun r σ'=>r= .tup [aKk t,D.int 0]/\σ'=σ)
theorem Vn(m M:Nat)(d:DS)(id:Int)(n:ND)(rd:Int->TN)(σ:List (List D))(ho:DO m M d σ)(hx:NB d.l)(hl:fK d.l id=true)(hn:aI d.l id=n)(ih:∀c∈n.kids,aJa m c (rd c) σ):Ct prog 33 [.ref m 0,D.int id] σ (fun r σ'=>(r.plain=true/\r.strip= .tup [aKk (tnN n id (n.kids.map rd)),D.int 0])/\σ'=σ):=by
 refine zf func33 ?_;have b1:=hx.fk id;have b2:=hx.fc id;have b3:=hx.fa id;have b4:=hx.fs id;rw [hn] at b1 b2 b3 b4;refine zr ⟨[50],[],[],[],[]⟩ fun _ _ Z=>?_;simp(disch:=omega)[hl,hn];apply Z;refine zr ⟨[50],[],[],[],[]⟩ fun _ _ Z=>?_;refine zs 2 fun _ Y=>?_;simp(disch:=omega)[hl,hn];apply Y;refine aF fun _ Y=>?_;simp(disch:=omega)[hl,hn];refine cN (aK3 m M d id _ ho hx) ?_;apply Y;simp(disch:=omega)[hl,hn];apply Z;apply aE;refine zr ⟨[50],[],[],[],[]⟩ fun _ _ Z=>?_;simp(disch:=omega)[hl,hn];apply Z;refine zI ?_ ?_<;>intro c1<;>try simp at c1
 apply zA;refine zk [0,1,4,5,6] ?_;refine zr ⟨[50],[],[],[],[]⟩ fun _ _ Z=>?_;refine zs 8 fun _ Y=>?_;simp(disch:=omega)[hl,hn];apply Y;simp(disch:=omega)[hl,hn];apply Z;apply aE;refine zk [0,4,5,6,8] ?_;refine zr ⟨[50],[],[],[],[]⟩ fun _ _ Z=>?_;simp(disch:=omega)[hl,hn];and_intros<;>(try omega);apply Z;apply aR;refine zk [0,4,5,8,37,38,39] ?_;refine oB (fun(k:Nat)=> [(39,.d (.v (.int .i64 (k:Int)))),(10,.d (.any)),(43,.d (.any)),(12,.d (.any))]) (fun(k:Nat)=> [(2, [D.int id,D.int n.kind,D.str n.tag,D.str n.text,.sl false (n.classes.map D.str),.sl false (n.attrs.map cZ),.sl false (n.styles.map cL),.sl true ((tkR n.kids rd k).map aDw)])]) (fun(k:Nat)=> []) [10,11,12,39,40,41,42,43,44,45,46,47,48,49,50,51,52,53,54,55] (fun(k:Nat)=>k<=n.kids.length) (fun(k:Nat)=>n.kids.length - k) (0) (by simp <;> rfl) ?_ (by simp [aVh]) (by simp) ?_ ?_
 .simp
 .simp
 rintro k hk;simp only [aQ,aP,oU,mT,jE,iR];have htl:=aOw n.kids rd k;refine zr ⟨[50],[],[],[],[]⟩ fun _ _ Z=>?_;simp(disch:=omega)[hl,hn];apply Z;apply aE;refine zI ?_ ?_<;>intro c2<;>try simp at c2
 .apply kO;refine zr ⟨[50],[],[],[],[]⟩ fun _ _ Z=>?_;simp(disch:=omega)[hl,hn];and_intros<;>(try omega);apply Z;refine zk [0,4,5,8,10,12,37,38,39,43] ?_;refine zr ⟨[50],[],[],[],[]⟩ fun _ _ Z=>?_;refine zs 2 fun _ Y=>?_;simp(disch:=omega)[hl,hn];apply Y;refine aF fun _ Y=>?_;simp(disch:=omega)[hl,hn];refine cN (ih n.kids[k] (cB _)) ?_;apply Y;simp(disch:=omega)[hl,hn];apply Z;refine zk [0,4,5,8,10,11,12,37,38,39,43] ?_;refine zt ⟨[50],[],[],[],[]⟩ fun _ _ Z=>?_;simp(disch:=omega)[hl,hn];and_intros<;>(try omega);apply Z;apply zB;refine zk [0,4,5,8,10,12,37,38,39,43] ?_;refine zt ⟨[50],[],[],[],[]⟩ fun _ _ Z=>?_;simp(disch:=omega)[hl,hn];and_intros<;>(try omega);apply Z;refine fP (k+1) ?_ ?_ (eG rfl ?_ (by simp [aHk, *]) (by simp))
  .omega
  .try dsimp only
   omega
  simp(disch:=omega)[hl,hn]
 obtain rfl:k=n.kids.length:=by omega
 rw [aN6];apply zE;refine zr ⟨[50],[],[],[],[]⟩ fun _ _ Z=>?_;simp(disch:=omega)[hl,hn];apply Z;apply aC;simp [aG,tnN]
def wS(l:List ND):Nat->Int->TN
 | 0,id=>tnN (aI l id) id []
 | f+1,id=>tnN (aI l id) id ((aI l id).kids.map (wS l f))
theorem aAn {m M:Nat} {d:DS} {rk:Int->Nat} {σ:List (List D)} (ho:DO m M d σ)(hx:NB d.l)(hw:WT d.l rk):∀(f:Nat) (id:Int),rk id<=f->fK d.l id=true->aJa m id (wS d.l f id) σ
 | 0, id, hf, hl => by
  have hk:(aI d.l id).kids= []:=by
   cases e:(aI d.l id).kids with
   | nil=>rfl
   | cons c cs=>
    have:=hw.Dec id c (by rw [e];exact fA);omega
  have:=(Vn m M d id (aI d.l id) (fun c=>wS d.l 0 c) σ ho hx hl rfl fun c hc=>by rw [hk] at hc;cases hc).strip (Q':=fun r σ'=>r= .tup [aKk (wS d.l 0 id),D.int 0]/\σ'=σ) fun r σ' h=>⟨h.1.1,by rw [h.1.2,hk];rfl,h.2⟩;exact this
 | f + 1, id, hf, hl => by
  have:=(Vn m M d id (aI d.l id) (fun c=>wS d.l f c) σ ho hx hl rfl fun c hc=>aAn ho hx hw f c (by have:=hw.Dec id c hc;omega) (by
   obtain⟨n,n1,n2,n3⟩:=eN hl;rw [n3] at hc;obtain⟨c2,e1,e2, -⟩:=hw.kids n n1 c hc;unfold fK kF;rw [List.find?_isSome];exact⟨c2,e1,by simpa using e2⟩)).strip (Q':=fun r σ'=>r= .tup [aKk (wS d.l (f+1) id),D.int 0]/\σ'=σ) fun r σ' h=>⟨h.1.1,h.1.2,h.2⟩
  exact this
inductive TK:VN->Prop
 | mk (v:VN) (h:v.kind=1->v.kids= []) (hk:∀k∈v.kids,TK k):TK v
theorem TK.t (h:TK v):v.kind=1->v.kids= []:=by cases h;assumption
theorem TK.k (h:TK v):∀k∈v.kids,TK k:=by cases h;assumption
end Go.Proofs.YtbgfljpnhhdkoaaGreat
