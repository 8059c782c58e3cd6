import Derived.Test.YtbgfljpnhhdkoaaGreatWkTe7
import Derived.Test.YtbgfljpnhhdkoaaGreatWkDr3
import Derived.Test.YtbgfljpnhhdkoaaGreatLisBs
import Derived.Test.YtbgfljpnhhdkoaaGreatVm22
import Derived.ProofKit
set_option linter.all false
set_option maxHeartbeats 8000000
set_option maxRecDepth 20000
open Go.Proofs.Tryz
namespace Go.Proofs.YtbgfljpnhhdkoaaGreat
open Go Go.Vm
variable {i:Int}{n:ND}{q:Nat}{qs:List Nat}{rk:Int->Nat}{v:VN}{x:RD}{σ:List (List D)}
theorem Vs:∀ {ks:List VN} {i par:Int} {n:ND},n∈mK i par ks->∃k∈ks,∃i',n∈jM i' par k
 | [],i,par,n,h=>by cases h
 | k::ks,i,par,n,h=>by
  rw [sV] at h;rcases bQ.1 h with h | h
  .exact⟨k,eH,i,h⟩
  obtain⟨k2,h1,h2⟩:=Vs h;exact⟨k2,gG _ h1,h2⟩
theorem Gp {P:ND->Prop} (hP:∀w i par,NV w->P (tB i par w (hY (i+1) w.kids))):∀ {v:VN},NN v->∀ {i par:Int} {n:ND},n∈jM i par v->P n
 | v,hv,i,par,n,h=>by
  rw [oA] at h;rcases bP.1 h with rfl | h
  .exact hP v i par hv.v
  obtain⟨k,hk,i',h⟩:=Vs h;exact Gp hP (hv.k k hk) h
termination_by v=>cT v
decreasing_by
 have:=dY hk;omega
theorem aSv(w:VN)(i par:Int)(ks:List Int)(h:NV w):NmOk (tB i par w ks):=by
 unfold tB;split
 .exact⟨by simp,by simp,by simp⟩
 rename_i he;have hn:=(h.e2 he).2.1;unfold fD pA at hn;exact⟨fun c hc=>hn c (by simp [hc]),fun p hp=>hn _ (by simp only [bQ,aU];exact .inl (.inr ⟨p,hp,rfl⟩)),fun p hp=>hn _ (by simp only [bQ,aU];exact .inr ⟨p,hp,rfl⟩)⟩
structure Up(x:RD):Prop where
 lt:∀n∈x.l,n.ID<x.next
 up:∀n∈x.l,∀c∈n.kids,n.ID<c
 nm:NmsOk x
 pos:0<x.next
theorem Up.fd (h:Up x):∀id,∀c∈(aH x.l id).kids,id<c:=fun id c hc=>by
 by_cases hl:eL x.l id=true
 .obtain⟨n,n1,n2,n3⟩:=eK hl;rw [n3] at hc;rw [<- n2];exact h.up n n1 c hc
 unfold aH at hc;unfold eL at hl;rw [show kM x.l id=none by simpa using hl] at hc;cases hc
theorem Up.new(most:Int):Up (newX most):=⟨fun n hn=>by simp [newX] at hn;subst hn;show(0:Int)<1;decide,fun n hn=>by simp [newX] at hn;subst hn;simp [mQ],NmsOk.new most,by simp [newX]⟩
def xD(x:RD)(v:VN):RD:=⟨x.most,x.next+cT v,x.l++jM x.next (-1) v⟩
theorem Up.grow (h:Up x) (hv:NN v):Up (xD x v):=by
 have hc:=mP v;refine⟨fun n hn=>?_,fun n hn=>?_,fun n hn=>?_,?_⟩
 .rcases bQ.1 hn with hn | hn
  .have:=h.lt n hn;show n.ID<x.next+cT v;omega
  exact(Fs hn).2
 .rcases bQ.1 hn with hn | hn
  .exact h.up n hn
  refine Gp (P:=fun n=>∀c∈n.kids,n.ID<c) (fun w i par _ c hc=>?_) hv hn;rw [tY] at hc;rw [kR];have:=aCm _ _ c hc;omega
 .rcases bQ.1 hn with hn | hn
  .exact h.nm n hn
  exact Gp (P:=NmOk) (fun w i par hw=>aSv w i par _ hw) hv hn
 have:=h.pos;show 0<x.next+cT v;omega
def hdV(v:VN)(j:Nat):VN:= { v with kids:=v.kids.take j }
theorem NN.hdV (h:NN v)(j:Nat):NN (hdV v j):= .mk _ ⟨h.v.c4,h.v.a4,h.v.s4,h.v.cl,h.v.sa,h.v.ss,h.v.av,fun e=>⟨by show v.kids.take j= [];rw [(h.v.t1 e).1];simp,(h.v.t1 e).2⟩,h.v.e2⟩ fun k hk=>h.k k (mD hk)
def Yr(x:RD)(v:VN)(j:Nat):RD:=⟨x.most,pJ x.next v j,Mc x.l x.next (-1) v j⟩
theorem Zu(x:RD)(v:VN)(j:Nat):Yr x v j=xD x (hdV v j):=by
 unfold Yr xD;have e1:pJ x.next v j=x.next+(cT (hdV v j):Nat):=by
  rw [jW];unfold pJ Ab hdV;simp only [];omega
 have e2:Mc x.l x.next (-1) v j=x.l++jM x.next (-1) (hdV v j):=by
  rw [oA];rfl
 rw [e1,e2]
theorem aPd(x:RD)(v:VN):Yr x v v.kids.length=xD x v:=by
 rw [Zu];unfold hdV;rw [dS];cases v;rfl
theorem Up.st (h:Up x) (hv:NN v)(j:Nat):Up (Yr x v j):=by rw [Zu];exact h.grow (hv.hdV j)
theorem Ob {α:Type} {Inv:Nat->α->Prop} {Rel:Nat->α->α->Prop} (N:Nat)(s0:α)(h0:Inv 0 s0)(step:∀j,j<N->∀s,Inv j s->∃s',Rel j s s'/\Inv (j+1) s'):
  ∃S:Nat->α,S 0=s0/\(∀j,j<=N->Inv j (S j))/\∀j,j<N->Rel j (S j) (S (j+1)):=by
 classical
 let S:Nat->α:=fun n=>Nat.rec s0 (fun j s=>if h:j<N/\Inv j s then Classical.choose (step j h.1 s h.2)else s) n
 have hS:∀j,(h:j<N/\Inv j (S j))->S (j+1)=Classical.choose (step j h.1 (S j) h.2):=fun j h=>dif_pos h;have hI:∀j,j<=N->Inv j (S j):=by
  intro j;induction j with
  | zero=>intro _;exact h0
  | succ j ih=>
   intro hj;have hij:=ih (by omega);rw [hS j ⟨by omega,hij⟩];exact(Classical.choose_spec (step j (by omega) (S j) hij)).2
 refine⟨S,rfl,hI,fun j hj=>?_⟩;have hij:=hI j (by omega);rw [hS j ⟨hj,hij⟩];exact(Classical.choose_spec (step j hj (S j) hij)).1
section
variable {k m M l:Nat}{d d' d2:DS}{rk':Int->Nat}{σ2 σ3:List (List D)}{y:RD}{ops:List TOp}
theorem LX.off_ge(h:LX k m M l d rk x ops σ) {p:Nat} (hp:σ.length<=p):Off m d p/\p≠l:=by
 have hd:=h.ix.iv.ho;refine⟨⟨fun e=>?_,fun e he e2=>?_⟩,fun e=>?_⟩
 .have:=oD hd.hm;omega
 .have:=oD (hd.hn e he);omega
 have:=oD h.at_;omega
theorem LX.to {j:Nat} (h:LX k m M l d rk x ops σ)(hk:k<=j):LX j m M l d rk x ops σ:=by
 have:=h.up_ (j - k);rw [show k+(j - k)=j by omega] at this;exact this
theorem Oth.set_ge {L:Nat->Prop} (h:Oth m L d d' σ σ2) (hq:σ.length<=q)(c:List D):Oth m L d d' σ (σ2.set q c):=
 ⟨by rw [cF];exact h.1,fun i hi ho hl=>⟨(h.2 i hi ho hl).1,by rw [fB (by omega)];exact(h.2 i hi ho hl).2⟩⟩
structure GS where
 d:DS
 rk:Int->Nat
 ops:List TOp
 σ:List (List D)
 ql:List Nat
 a:List (List D)
 q:Nat
 ks:List Nat
structure GI(k m M l:Nat)(d:DS)(σ:List (List D))(x:RD)(v:VN)(j:Nat)(s:GS):Prop where
 lx:LX (k+15+16 * Ab v j) m M l s.d s.rk (Yr x v j) s.ops s.σ
 oth:Oth m (· =l) d s.d σ s.σ
 off:Off m s.d σ.length
 at_:s.σ[σ.length]?=some (iJ x.next v (.v (.pointer none)) s.ql)
 ko:KidsOk s.σ (fun p=>(σ.length<=p/\p<s.σ.length/\Off m s.d p/\p≠l)/\σ.length<p) x.next v σ.length s.ql j
structure GR(l:Nat)(q0:Nat)(x:RD)(v:VN)(j:Nat)(hj:j<v.kids.length)(s s':GS):Prop where
 gr:Ct prog 93 [.ref l 0,iH v.kids[j]] s.σ (fun r τ=>r= .ref s'.q 0/\τ=s'.a)
 a1:s'.a[q0]?=some (iJ x.next v (.v (.pointer none)) s.ql)
 a2:s'.q≠q0
 a3:s'.a[s'.q]?=some (iJ (pJ x.next v j) v.kids[j] (.v (.pointer none)) s'.ks)
 ql:s'.ql=s.ql++ [s'.q]
 ins:Ct prog 64 [.ref l 0,D.int x.next,D.int j,D.int (pJ x.next v j)] ((s'.a.set s'.q (iJ (pJ x.next v j) v.kids[j] (.ref q0 0) s'.ks)).set q0 (iJ x.next v (.v (.pointer none)) s'.ql)) (fun r τ=>r=D.int 0/\τ=s'.σ)
def aQu(k m M l:Nat)(d:DS)(σ:List (List D))(x:RD)(v:VN):Prop:=
 ∃d' rk' ops' σ',Ct prog 93 [.ref l 0,iH v] σ (fun r τ=>r= .ref σ.length 0/\τ=σ')/\LX (k+(16 * cT v - 1)) m M l d' rk' (xD x v) ops' σ'/\Oth m (· =l) d d' σ σ'/\ItOk σ' (fun p=>σ.length<=p/\p<σ'.length/\Off m d' p/\p≠l) x.next v (.v (.pointer none)) σ.length
theorem aCo (hv:NN v)(hu:Up x)(hk:k+16 * cT v<=780)(j:Nat)(hj:j<v.kids.length)(s:GS)(h:GI k m M l d σ x v j s)
  (ih:aQu (k+15+16 * Ab v j) m M l s.d s.σ (Yr x v j) v.kids[j]):∃s',GR l σ.length x v j hj s s'/\GI k m M l d σ x v (j+1) s':=by
 obtain⟨d1,rk1,ops1,a,c1,lx1,o1,it1⟩:=ih;obtain⟨ks,hks,it2⟩:=it1.par_ (.ref σ.length 0);have hcj:=mP v.kids[j];have hsu:=Mv v j hj;have hsl:=aA8 v (j+1);have hq:=oD h.at_;have hql:=h.lx.off_ge (bC _);have hnl:σ.length≠l:=fun e=>by have:=oD h.lx.at_;have h2:=h.at_;rw [e,h.lx.at_] at h2;simp [kC,iJ] at h2
 have oq:=o1.2 σ.length hq h.off hnl;obtain⟨f1, -,f2,f3⟩:=it1.F_;have ha:=o1.1
 -- the state ahead of the insert
 have lx2:=(lx1.put_ f2 f3 (iJ (pJ x.next v j) v.kids[j] (.ref σ.length 0) ks)).put_ oq.1 hnl (iJ x.next v (.v (.pointer none)) (s.ql++ [s.σ.length]));have hA:∀n∈x.l,n.ID<x.next:=hu.lt;obtain⟨i1,i2⟩:=Tz (par:= -1) (v:=v) (j:=j) hA (jM (pJ x.next v j) (-1) v.kids[j]);obtain⟨i3,i4⟩:=Ws (par:= -1) hA hj;have hup:=((hu.st hv j).grow (hv.k _ (cB hj))).fd;have hne:¬v.kind=1:=fun e=>by rw [(hv.v.t1 e).1] at hj;simp at hj
 have hpos:=hu.pos;obtain⟨d3,rk3,ops3,τ,c2,lx3,o3⟩:=aSn lx2 (by omega) x.next j (pJ x.next v j) i2 i4 (by
   show(aH (Mc x.l x.next (-1) v j++jM (pJ x.next v j) (-1) v.kids[j]) x.next).kind=2
   rw [i1];unfold tB;rw [aD hne]) (by unfold pJ;omega) (by
   show(aH (Mc x.l x.next (-1) v j++jM (pJ x.next v j) (-1) v.kids[j]) (pJ x.next v j)).parent<0
   rw [i3,aPx];decide) (by rw [<- aUs lx2.ix];exact aDp hup _ (by unfold pJ;omega)) (by
   show j<=(aH (Mc x.l x.next (-1) v j++jM (pJ x.next v j) (-1) v.kids[j]) x.next).kids.length
   rw [i1,tY,xC,bE];omega)
 have hx3:aLy (xD (Yr x v j) v.kids[j]) x.next j (pJ x.next v j)=Yr x v (j+1):=by
  have:=aIq (A:=x.l) (i:=x.next) (par:= -1) (v:=v) (j:=j) (mo:=x.most) (nx:=pJ x.next v j+cT v.kids[j]) hA hj;unfold xD Yr;rw [show pJ x.next v (j+1)=pJ x.next v j+(cT v.kids[j]:Nat) by unfold pJ;rw [hsu];omega];exact this
 rw [hx3] at lx3;have hbl:((a.set s.σ.length (iJ (pJ x.next v j) v.kids[j] (.ref σ.length 0) ks)).set σ.length (iJ x.next v (.v (.pointer none)) (s.ql++ [s.σ.length]))).length=a.length:=by rw [cF,cF]
 have o3l:=o3.1;rw [hbl] at o3l
 -- what stands of what there was
 have keep:∀p,p<s.σ.length->p≠σ.length->Off m s.d p->p≠l->Off m d3 p/\τ[p]?=s.σ[p]?:=fun p hp hpq ho hpl=>by
  obtain⟨u1,u2⟩:=o1.2 p hp ho hpl;obtain⟨u3,u4⟩:=o3.2 p (by rw [hbl];omega) u1 hpl;refine⟨u3,?_⟩;rw [u4,fB (by omega),fB (by omega),u2]
 have keep2:∀p,p<a.length->p≠σ.length->Off m d1 p->p≠l->Off m d3 p/\τ[p]?=(a.set s.σ.length (iJ (pJ x.next v j) v.kids[j] (.ref σ.length 0) ks))[p]?:=fun p hp hpq ho hpl=>by
  obtain⟨u3,u4⟩:=o3.2 p (by rw [hbl];omega) ho hpl;refine⟨u3,?_⟩;rw [u4,fB (by omega)]
 have ot:=o3.2 σ.length (by rw [hbl];omega) oq.1 hnl;refine⟨⟨d3,rk3,ops3,τ,s.ql++ [s.σ.length],a,s.σ.length,ks⟩,⟨c1,by rw [oq.2];exact h.at_,by show s.σ.length≠σ.length;omega,hks,rfl,c2⟩,⟨lx3.to (by omega),?_,ot.1,?_,?_⟩⟩
 .have:=((h.oth.trans o1).set_ge (Nat.le_of_lt hq) (iJ (pJ x.next v j) v.kids[j] (.ref σ.length 0) ks)).set_ge (bC _) (iJ x.next v (.v (.pointer none)) (s.ql++ [s.σ.length]));exact this.trans o3
 .rw [ot.2];exact aL (by rw [fB (by omega),oq.2];exact h.at_) _
 refine(h.ko.frame fun p hp=>?_).snoc hj (it2.frame fun p hp=>?_)
 .obtain⟨⟨p1,p2,p3,p4⟩,p5⟩:=hp;obtain⟨u1,u2⟩:=keep p p2 (by omega) p3 p4;exact⟨⟨⟨p1,by show p<τ.length;omega,u1,p4⟩,p5⟩,u2⟩
 obtain⟨p1,p2,p3,p4⟩:=hp;obtain⟨u1,u2⟩:=keep2 p p2 (by omega) p3 p4;exact⟨⟨⟨by omega,by show p<τ.length;omega,u1,p4⟩,by omega⟩,u2⟩
theorem Rb (hv:NV v)(he:¬v.kind=1)(h1:n.kind=2)(h0:¬i=0):Ka n true i (pA v)=0:=by
 unfold Ka;rw [aD (by simp),aD h0,aD (by rw [h1];simp),aD];rw [yG,pY];intro s hs;rw [(hv.e2 he).2.1 s hs];simp
theorem Lz {o:OW} (hc:n.classes= [])(ha:n.attrs= [])(hs:n.styles= []):(gL n o).length<=o.classes.length+o.attrs.length+o.styles.length:=by
 unfold gL;have h1:=Iz n.classes o.classes;have h2:=lB o.classes;have h3:=sF nA xG n.attrs o.attrs;have h4:=sF nP zP n.styles o.styles;rw [hc] at h1 |-;rw [ha] at h3 |-;rw [hs] at h4 |-;have h5:(bK []).length=0:=rfl;simp at h1 h3 h4 |-;omega
theorem Jx (hv:NV v)(he:¬v.kind=1):∀s∈fD (pA v),s.size<=9223372036854775807:=fun s hs=>by
 have:=yA ((hv.e2 he).2.1 s hs);omega
theorem aCx (hv:NV v)(h:LX k m M l d rk x ops σ)(hu:Up x)(hk:k+15<=780)(hr:(x.l.length:Int)<=x.most):
  ∃s1 d' rk' ops' σ',(v.kind=1->Ct prog 177 [.ref l 0,D.str v.text] (σ++ [pM]) (fun r τ=>r= .tup [D.int x.next,D.int 0]/\τ=s1))/\(¬v.kind=1->Ct prog 178 [.ref l 0,D.str v.tag] (σ++ [pM]) (fun r τ=>r= .tup [D.int x.next,D.int 0]/\τ=s1))/\s1[σ.length]?=some pM/\
   Ct prog 32 [.ref σ.length 0,.ref l 0] (s1.set σ.length (iJ x.next v (.v (.pointer none)) [])) (fun r τ=>r= .tup []/\τ=σ')/\LX (k+15) m M l d' rk' (Yr x v 0) ops' σ'/\Oth m (· =l) d d' σ σ'/\Off m d' σ.length/\σ'[σ.length]?=some (iJ x.next v (.v (.pointer none)) [])/\σ.length<σ'.length:=by
 obtain⟨q1,q2⟩:=h.off_ge (bC _);have l0:=h.app_ [pM];have o0:Oth m (· =l) d d σ (σ++ [pM]):=⟨by simp,fun i hi ho _=>⟨ho,bA hi⟩⟩;have g0:(σ++ [pM])[σ.length]?=some pM:=by simp
 have hl0:(σ++ [pM]).length=σ.length+1:=by simp
 have hst:Yr x v 0=⟨x.most,x.next+1,x.l++ [tB x.next (-1) v []]⟩:=by
  unfold Yr;rw [aWg];show RD.mk x.most (x.next+1+((0:Nat):Int)) _=_
  rw [show x.next+1+((0:Nat):Int)=x.next+1 by omega]
 by_cases he:v.kind=1
 .obtain⟨d1,rk1,ops1,s1,c1,x1,o1⟩:=aVq l0 (by omega) v.text hr;obtain⟨p1,p2⟩:=o1.2 σ.length (by omega) q1 q2;have hx:Hj x 1 v.text=Yr x v 0:=by
   rw [hst];unfold Hj gU tB;rw [aM he];rfl
  rw [hx] at x1;have o1l:=o1.1;rw [hl0] at o1l;have x2:=x1.put_ p1 q2 (iJ x.next v (.v (.pointer none)) []);refine⟨s1,d1,rk1,ops1,_,fun _=>c1,fun e=>absurd he e,p2.trans g0,aEu σ.length l v ⟨0,0,0,0⟩ x.next _ _ _ _ _ _ _ _ _ _ (aL (p2.trans g0) _) he,x2.to (by omega),(o0.trans o1).set_ge (bC _) _,p1,aL (p2.trans g0) _,?_⟩;rw [cF];omega
 obtain⟨t1,t2,t3⟩:=hv.e2 he;obtain⟨d1,rk1,ops1,s1,c1,x1,o1⟩:=aWa l0 (by omega) v.tag (by have:=yA t1;omega) t1 hr;obtain⟨p1,p2⟩:=o1.2 σ.length (by omega) q1 q2;have o1l:=o1.1;rw [hl0] at o1l;have x2:=x1.put_ p1 q2 (iJ x.next v (.v (.pointer none)) []);have hA:∀n∈x.l,n.ID≠x.next:=fun n hn=>by have:=hu.lt n hn;omega
 have hf:aH (x.l++ [gU x.next 2 v.tag]) x.next=gU x.next 2 v.tag/\eL (x.l++ [gU x.next 2 v.tag]) x.next=true:=Kt (n:=gU x.next 2 v.tag) hA;have hfx:aH (Hj x 2 v.tag).l x.next=gU x.next 2 v.tag:=hf.1;have hix:eL (Hj x 2 v.tag).l x.next=true:=hf.2;have hpos:=hu.pos;have hnm:NmsOk (Hj x 2 v.tag):=fun n hn=>by
  rcases bQ.1 hn with hn | hn
  .exact hu.nm n hn
  have:n=gU x.next 2 v.tag:=by simpa using hn
  subst this;exact⟨by simp [gU],by simp [gU],by simp [gU]⟩
 have hdl:=Lz (n:=gU x.next 2 v.tag) (o:=pA v) rfl rfl rfl;have c4:=hv.c4;have a4:=hv.a4;have s4:=hv.s4;have hdl2:(gL (gU x.next 2 v.tag) (pA v)).length<=12:=by
  refine kV hdl ?_;show v.classes.length+v.attrs.length+v.styles.length<=12
  omega
 obtain⟨d2,rk2,ops2,s2,c2,x3,o2⟩:=aBp x2 x.next (pA v) (by rw [hfx];omega) (by show v.classes.length<=8;omega) (by show v.attrs.length<=8;omega) (by show v.styles.length<=8;omega) (Jx hv he) (fun p hp=>by have:=hv.av p hp;omega) (hv.ow he) hnm (by rw [hfx,hix];exact Rb hv he rfl (by omega)) (by rw [hfx];rfl);rw [hfx] at x3;have hx:(⟨(Hj x 2 v.tag).most,(Hj x 2 v.tag).next,cX (Hj x 2 v.tag).l (Ke (gU x.next 2 v.tag) (pA v))⟩:RD)=Yr x v 0:=by
  rw [hst];show RD.mk x.most (x.next+1) (cX (x.l++ [gU x.next 2 v.tag]) _)=_
  rw [wG,tA fun n hn=>hA n hn,xP,aM (show(gU x.next 2 v.tag).ID=(Ke (gU x.next 2 v.tag) (pA v)).ID from rfl)];unfold Ke tB gU pA;rw [aD he,hv.cl];rfl
 rw [hx] at x3;obtain⟨p3,p4⟩:=o2.2 σ.length (by rw [cF];omega) p1 q2;have o2l:=o2.1;rw [cF] at o2l;rw [aL (p2.trans g0)] at p4;refine⟨s1,d2,rk2,ops2,s2,fun e=>absurd e he,fun _=>c1,p2.trans g0,Fz σ.length l v ⟨0,0,0,0⟩ x.next _ _ _ _ _ _ _ _ _ s2 _ (aL (p2.trans g0) _) (by omega) (by omega) (by omega) he (by rw [hv.put];exact c2),x3.to (by omega),((o0.trans o1).set_ge (bC _) _).trans o2,p3,p4,by omega⟩
theorem Ux:∀(v:VN),NN v->∀ {k:Nat} {d:DS} {rk:Int->Nat} {x:RD} {ops:List TOp} {σ:List (List D)},LX k m M l d rk x ops σ->Up x->k+16 * cT v<=780->(x.l.length:Int)+cT v<=x.most+1->aQu k m M l d σ x v
 | v, hv, k, d, rk, x, ops, σ, h, hu, hk, hr => by
  have hcv:=mP v;obtain⟨s1,d0,rk0,ops0,σ0,c1,c2,e1,c3,lx0,o0,f0,g0,l0⟩:=aCx hv.v h hu (by omega) (by omega);obtain⟨S,S0,hI,hR⟩:=Ob (Inv:=GI k m M l d σ x v) (Rel:=fun j s s'=>∃hj,GR l σ.length x v j hj s s') v.kids.length ⟨d0,rk0,ops0,σ0, [], [],0, []⟩ ⟨lx0,o0,f0,g0,.zero ..⟩ fun j hj s hs=>by
   have hck:=dY (cB hj);have hsl:=aA8 v (j+1);have hsu:=Mv v j hj;obtain⟨s',r1,r2⟩:=aCo hv hu hk j hj s hs (Ux v.kids[j] (hv.k _ (cB hj)) hs.lx (hu.st hv j) (by omega) (by
    show((Mc x.l x.next (-1) v j).length:Int)+_<=x.most+1
    have hl:(Yr x v j).l=x.l++jM x.next (-1) (hdV v j):=by rw [Zu];rfl
    rw [show Mc x.l x.next (-1) v j=x.l++jM x.next (-1) (hdV v j)from hl,bB,Mu];have:cT (hdV v j)=1+Ab v j:=by rw [jW];rfl
    omega))
   exact⟨s',⟨hj,r1⟩,r2⟩
  have hql:∀j,j<=v.kids.length->(S j).ql=qsl (fun j=>(S (j+1)).q) j:=by
   intro j;induction j with
   | zero=>intro _;rw [S0];rfl
   | succ j ih=>
    intro hj;obtain⟨hj2,r⟩:=hR j (by omega);rw [r.ql,ih (by omega),Ja]
  have fin:=hI v.kids.length (bC _);refine⟨(S v.kids.length).d,(S v.kids.length).rk,(S v.kids.length).ops,(S v.kids.length).σ,?_,?_,fin.oth,?_⟩
  .refine aKe l σ.length v x.next s1 (fun j=>(S j).σ) (fun j=>(S (j+1)).a) (fun j=>(S (j+1)).q) (pJ x.next v) (fun j=>(S (j+1)).ks) σ rfl c1 c2 e1 ?_ (by omega) (fun j hj=>?_) (fun j hj=>?_) (fun j hj=>?_) fun j hj=>?_
   .show Ct _ _ _ _ (fun r τ=>r= .tup []/\τ=(S 0).σ)
    rw [S0];exact c3
   .rw [<- hql j hj];exact(hI j hj).at_
   .obtain⟨hj2,r⟩:=hR j hj;exact r.gr
   .obtain⟨hj2,r⟩:=hR j hj;exact⟨by rw [<- hql j (by omega)];exact r.a1,r.a2,r.a3⟩
   obtain⟨hj2,r⟩:=hR j hj;rw [<- hql (j+1) hj];exact r.ins
  .have:=fin.lx;rw [aPd] at this;have hs:=aGo v;exact this.to (by omega)
  refine(fin.ko.frame fun p hp=>⟨hp,rfl⟩).done ⟨bC _,oD fin.at_,fin.off,?_⟩ fin.at_;exact(h.off_ge (bC _)).2
termination_by v=>cT v
decreasing_by
 have:=dY (cB hj);omega
end
theorem Og(most:Int)(σ:List (List D))  :Ct prog 28 [D.int most] σ (fun r σ'=>∃m M l d rk,r= .ref l 0/\LX 0 m M l d rk (newX most) [] σ'):=by
 refine zf func28 ?_;refine aZ fun _ _ Z=>?_;simp;apply Z;refine aZ fun _ _ Z=>?_;refine zs 1 fun _ Y=>?_;simp;apply Y;refine aE fun _ Y=>?_;simp;refine Jl (aOs most _) ?_;rintro _ τ0 ⟨hr9,hs9⟩;subst hr9;obtain⟨m,M,dd,rk0,hm0,hx0,hi0⟩:=aT2 _ _ _ hs9;rw [hm0];clear hs9 hm0;apply Y;simp;apply Z;apply aF;refine aZ fun _ _ Z=>?_;simp;apply Z;refine zI ?_ ?_<;>intro c1<;>try simp at c1
 apply zA;refine aZ fun _ _ Z=>?_;refine zs 1 fun _ Y=>?_;simp;apply Y;refine aE fun _ Y=>?_;simp;refine cH (aS7 m _) ?_;apply Y;simp;apply Z;apply aC;simp [aI];exact⟨m,M,dd,rk0,LX.on hi0⟩
theorem aIv(k m M l:Nat)(d:DS)(rk:Int->Nat)(x:RD)(ops:List TOp)(v:VN)(q:Nat)(σ2:List (List D))(σ:List (List D))(h:LX k m M l d rk x ops σ)(hk:k<=800)(hv:VG v)(hc:cT v<=9999)(hcn:cT (cL v)<=9999)(hr:¬d.most - ((d.es.length:Int) - 1)<cT (cL v))(hG:Ct prog 93 [.ref l 0,iH (cL v)] σ (fun r τ=>r= .ref q 0/\τ=σ2)):Ct prog 30 [.ref l 0,iH v] σ (fun r σ'=>r= .tup [.ref q 0,D.int 0]/\σ'=σ2):=by
 refine zf func30 ?_;have hg:=h.at_;obtain⟨b1,b2,b3⟩:=h.ix.iv.bounds (by omega);refine aZ fun _ _ Z=>?_;simp[hg];apply Z;refine aZ fun _ _ Z=>?_;refine zs 1 fun _ Y=>?_;simp[hg];apply Y;refine aE fun _ Y=>?_;simp[hg];refine cH (Ih v hv hc _) ?_;apply Y;simp[hg];apply Z;apply aF;refine zd ⟨[],[],[],[],[]⟩ [.op {},.op {},.op {},.op {rO:=true},.read,.op {rL:=true},.read,.op {}] fun all hall _ Z=>?_;refine lM 4 fun _ Y=>?_;simp[hg];apply Y;refine bV fun _ Y=>?_;simp[hg];refine zdr (Iu m M d _ h.ix.iv.ho (by omega) (by omega)) ?_;apply Y;refine lM 1 fun _ Y=>?_;simp[hg];apply Y;refine bV fun _ Y=>?_;simp[hg];refine zdr (aQl (cL v) _ hcn) ?_;apply Y;simp[hg];apply Z;refine zI ?_ ?_<;>intro c1<;>try simp at c1
 .omega
 apply zA;refine zk [0,3,4,5] ?_;refine aZ fun _ _ Z=>?_;refine zs 2 fun _ Y=>?_;simp[hg];apply Y;refine aE fun _ Y=>?_;simp[hg];refine cH (hG) ?_;apply Y;simp[hg];apply Z;apply aC;simp [aI]
theorem Wr(q l:Nat)(i:Int)(v0 v:VN)(par:D)(qs:List Nat)(c:D)(σ2:List (List D))(σ:List (List D))(hq:σ[q]?=some (iJ i v0 par qs))(hk:v.kind=1)(hS:Ct prog 24 [.ref l 0,D.int i,D.str v.text] (σ.set q (iJ i v par qs)) (fun r τ=>r=c/\τ=σ2)):Ct prog 49 [.ref q 0,.ref l 0,iH v] σ (fun r σ'=>r= .tup []/\σ'=σ2):=by
 refine zf func49 ?_;refine aZ fun _ _ Z=>?_;simp[iJ,aL hq];apply Z;refine aZ fun _ _ Z=>?_;refine zs 2 fun _ Y=>?_;simp[iJ,aL hq];apply Y;refine aE fun _ Y=>?_;simp[iJ,aL hq];refine cH (Ie q v i _ _ _ _ _ _ _ _ _ _ _ _ _ _ _ _ _ _ _ _ _ _ _ _ _ _ _ hq) ?_;apply Y;simp only [dL];apply Z;apply aF;refine aZ fun _ _ Z=>?_;simp[iJ,aL hq];apply Z;refine zI ?_ ?_<;>intro c1<;>try simp at c1
 .refine zd ⟨[],[],[],[],[]⟩ [.op {},.op {},.op {},.op {},.op {rO:=true},.op {},.op {rL:=true},.det] fun all hall _ Z=>?_;refine lM 7 fun _ Y=>?_;simp[iJ,aL hq];apply Y;refine bV fun _ Y=>?_;simp[iJ,aL hq];refine zdd (hS) ?_;apply Y;simp only [qT];apply Z;apply aC;simp [aI]
 exact absurd hk c1
theorem Um(q l:Nat)(i:Int)(v0 v:VN)(par:D)(qs:List Nat)(c:D)(σ2 σ3:List (List D))(σ:List (List D))(hq:σ[q]?=some (iJ i v0 par qs))(hk:¬v.kind=1)(hT:Ct prog 23 [.ref l 0,D.int i,D.str v.tag] (σ.set q (iJ i v par qs)) (fun r τ=>r=c/\τ=σ2))(hP:Ct prog 32 [.ref q 0,.ref l 0] σ2 (fun r τ=>r= .tup []/\τ=σ3)):Ct prog 49 [.ref q 0,.ref l 0,iH v] σ (fun r σ'=>r= .tup []/\σ'=σ3):=by
 refine zf func49 ?_;refine aZ fun _ _ Z=>?_;simp[iJ,aL hq];apply Z;refine aZ fun _ _ Z=>?_;refine zs 2 fun _ Y=>?_;simp[iJ,aL hq];apply Y;refine aE fun _ Y=>?_;simp[iJ,aL hq];refine cH (Ie q v i _ _ _ _ _ _ _ _ _ _ _ _ _ _ _ _ _ _ _ _ _ _ _ _ _ _ _ hq) ?_;apply Y;simp only [dL];apply Z;apply aF;refine aZ fun _ _ Z=>?_;simp[iJ,aL hq];apply Z;refine zI ?_ ?_<;>intro c1<;>try simp at c1
 .exact absurd c1 hk
 apply zA;refine zd ⟨[],[],[],[],[]⟩ [.op {},.op {},.op {},.op {},.op {rO:=true},.op {},.op {rL:=true},.det] fun all hall _ Z=>?_;refine lM 7 fun _ Y=>?_;simp[iJ,aL hq];apply Y;refine bV fun _ Y=>?_;simp[iJ,aL hq];refine zdd (hT) ?_;apply Y;simp only [qT];apply Z;refine zk [0,1] ?_;refine pB fun _ _ Z=>?_;refine zs 2 fun _ Y=>?_;simp[iJ,aL hq];apply Y;refine aE fun _ Y=>?_;simp[iJ,aL hq];refine cH (hP) ?_;apply Y;simp only [dL];apply Z;simp [aI]
section
variable {k m M l:Nat}{d d' d2:DS}{rk':Int->Nat}{σ2 σ3:List (List D)}{y:RD}{ops:List TOp}
def Hl(n:ND)(v:VN):ND:=if v.kind=1 then { n with text:=v.text } else { n with tag:=v.tag,classes:=v.classes,attrs:=v.attrs,styles:=v.styles }
theorem aSw(n:ND)(v:VN):(Hl n v).ID=n.ID:=by unfold Hl;split <;> rfl
theorem aFb(n:ND)(v:VN):Hl (Hl n v) v=Hl n v:=by unfold Hl;split <;> rfl
theorem aDx {o:OW} (h:n.classes.length<=8/\n.attrs.length<=8/\n.styles.length<=8)(h1:o.classes.length<=8)(h2:o.attrs.length<=8)(h3:o.styles.length<=8):(gL n o).length<=48:=by
 unfold gL;have h4:=Iz n.classes o.classes;have h5:=lB n.classes;have h6:=lB o.classes;have h7:=sF nA xG n.attrs o.attrs;have h8:=sF nP zP n.styles o.styles;simp;omega
theorem aMk {v0:VN} {par:D} (h:LX k m M l d rk x ops σ)(hk:k<=700)(hq:σ[q]?=some (iJ i v0 par qs))(hoq:Off m d q)(hql:q≠l)(hv:NV v)(ht:v.text.size<=1000)(h1:eL x.l i=true)(h0:¬i=0)(hkd:(aH x.l i).kind=if v.kind=1 then 1 else 2)(hcl:bK (aH x.l i).classes=(aH x.l i).classes)
  (hln:(aH x.l i).classes.length<=8/\(aH x.l i).attrs.length<=8/\(aH x.l i).styles.length<=8) (hnm:NmsOk x):
  ∃d' rk' ops' σ',Ct prog 49 [.ref q 0,.ref l 0,iH v] σ (fun r τ=>r= .tup []/\τ=σ')/\LX (k+60) m M l d' rk' ⟨x.most,x.next,cX x.l (Hl (aH x.l i) v)⟩ ops' σ'/\Off m d' q/\σ'[q]?=some (iJ i v par qs):=by
 have lx1:=h.put_ hoq hql (iJ i v par qs);have g1:=aL hq (iJ i v par qs);have hlt:=oD g1;obtain⟨n,n1,n2,n3⟩:=eK h1;have hnd:=(aTo h.ix).nd;by_cases he:v.kind=1
 .rw [aM he] at hkd;obtain⟨d1,rk1,y,c,ops1,σ1,c1,lx2,o1,hh⟩:=aG7 lx1 (by omega) i v.text ht;have hy:y=⟨x.most,x.next,cX x.l (Hl (aH x.l i) v)⟩:=by
   unfold Hl;rw [aM he];rcases hh with ⟨⟨-, -,e⟩, -,rfl, -⟩ | ⟨-,e, -⟩
   .rw [<- Gq h.ix,n3] at e;rw [n3,show({ n with text:=v.text } :ND)=n by rw [<- e],Er hnd n1]
   rw [oJ (n:= { aH x.l i with text:=v.text }) h1 h0 (by rw [hkd]) (.inl rfl) rfl] at e;exact(Prod.mk.inj e).1.symm
  subst hy;obtain⟨p1,p2⟩:=o1.2 q hlt hoq hql;exact⟨d1,rk1,ops1,σ1,Wr q l i v0 v par qs _ σ1 σ hq he c1,lx2.to (by omega),p1,p2.trans g1⟩
 rw [aD he] at hkd;obtain⟨t1,t2,t3⟩:=hv.e2 he;obtain⟨d1,rk1,y,c,ops1,σ1,c1,lx2,o1,hh⟩:=aLx lx1 (by omega) i v.tag (by have:=yA t1;omega);have hy:y=⟨x.most,x.next,cX x.l { aH x.l i with tag:=v.tag }⟩/\NmsOk y:=by
  rcases hh with ⟨⟨-, -, -,e⟩, -,rfl, -⟩ | ⟨-,e, -⟩
  .rw [<- Gq h.ix,n3] at e;refine⟨?_,hnm⟩;rw [n3,show({ n with tag:=v.tag } :ND)=n by rw [<- e],Er hnd n1]
  have:=hnm.set 0 i v.tag ⟨#[]⟩ 0;rw [e] at this;rw [oJ (n:= { aH x.l i with tag:=v.tag }) h1 h0 (by rw [hkd];simp) (.inr t1) rfl] at e;exact⟨(Prod.mk.inj e).1.symm,this⟩
 obtain⟨hy,hnm2⟩:=hy;obtain⟨p1,p2⟩:=o1.2 q hlt hoq hql;have hf:aH y.l i= { aH x.l i with tag:=v.tag } :=by
  have:=oW hnd (p:=n) (p':= { aH x.l i with tag:=v.tag }) n1 (by show(aH x.l i).ID=n.ID;rw [n3]) i;rw [aM n2.symm] at this;rw [hy];exact this
 have hi:eL y.l i=true:=by rw [hy];show eL (cX _ _) i=true;rw [yC];exact h1
 have c4:=hv.c4;have a4:=hv.a4;have s4:=hv.s4;have hdl:=aDx (n:=aH y.l i) (o:=pA v) (by rw [hf];exact hln) (by show v.classes.length<=8;omega) (by show v.attrs.length<=8;omega) (by show v.styles.length<=8;omega);obtain⟨d2,rk2,ops2,σ2,c2,lx3,o2⟩:=aBp lx2 i (pA v) (by omega) (by show v.classes.length<=8;omega) (by show v.attrs.length<=8;omega) (by show v.styles.length<=8;omega) (Jx hv he) (fun p hp=>by have:=hv.av p hp;omega) (hv.ow he) hnm2 (by rw [hi];exact Rb hv he (by rw [hf];exact hkd) h0) (by rw [hf];exact hcl);obtain⟨p3,p4⟩:=o2.2 q (by have:=o1.1;omega) p1 hql;have hx:(⟨y.most,y.next,cX y.l (Ke (aH y.l i) (pA v))⟩:RD)=⟨x.most,x.next,cX x.l (Hl (aH x.l i) v)⟩:=by
  rw [hf,hy];show RD.mk _ _ (cX (cX x.l _) _)=_
  rw [Tj x.l (m:= { aH x.l i with tag:=v.tag }) (n:=Ke { aH x.l i with tag:=v.tag } (pA v)) rfl];unfold Ke Hl pA;rw [aD he,hv.cl]
 rw [hx] at lx3;exact⟨d2,rk2,ops2,σ2,Um q l i v0 v par qs _ σ1 σ2 σ hq he c1 (Fz q l v ⟨0,0,0,0⟩ i _ _ _ _ _ _ _ _ _ σ2 σ1 (p2.trans g1) (by omega) (by omega) (by omega) he (by rw [hv.put];exact c2)),lx3.to (by omega),p3,p4.trans (p2.trans g1)⟩
theorem aAq {v0:VN} {par:D} (h:LX k m M l d rk x ops σ)(hk:k<=790)(hq:σ[q]?=some (iJ i v0 par qs))(hoq:Off m d q)(hql:q≠l)(hv:NV v)(h1:eL x.l i=true)(h0:¬i=0)(hkd:(aH x.l i).kind=if v.kind=1 then 1 else 2)(hs:Hl (aH x.l i) v=aH x.l i):
  Ct prog 49 [.ref q 0,.ref l 0,iH v] σ (fun r τ=>r= .tup []/\τ=σ.set q (iJ i v par qs)):=by
 have lx1:=h.put_ hoq hql (iJ i v par qs);have g1:=aL hq (iJ i v par qs);by_cases he:v.kind=1
 .rw [aM he] at hkd;unfold Hl at hs;rw [aM he] at hs;exact Wr q l i v0 v par qs _ _ σ hq he (Wa k m M l d rk x ops i v.text _ lx1 (by omega) ⟨by rw [<- aN4 h.ix];exact h1,by rw [<- Gq h.ix];exact hkd,by rw [<- Gq h.ix,<- hs]⟩)
 rw [aD he] at hkd;unfold Hl at hs;rw [aD he] at hs;have c4:=hv.c4;have a4:=hv.a4;have s4:=hv.s4;have e1:(aH x.l i).classes=v.classes:=by rw [<- hs]
 have e2:(aH x.l i).attrs=v.attrs:=by rw [<- hs]
 have e3:(aH x.l i).styles=v.styles:=by rw [<- hs]
 have hd:gL (aH x.l i) (pA v)= []:=Wn (hv.ow he) (by rw [e2];exact hv.sa) (by rw [e3];exact hv.ss) ⟨by rw [e1];rfl,fun p=>by rw [e2];rfl,fun p=>by rw [e3];rfl⟩;have c2:=Rj lx1 hk (o:=pA v) (i:=i) (by show v.classes.length<=8;omega) (by show v.attrs.length<=8;omega) (by show v.styles.length<=8;omega) (Jx hv he) (by rw [h1];exact Rb hv he hkd h0) hd;exact Um q l i v0 v par qs _ _ _ σ hq he (Uu k m M l d rk x ops i v.tag _ lx1 (by omega) ⟨by rw [<- aN4 h.ix];exact h1,h0,by rw [<- Gq h.ix];exact hkd,by rw [<- Gq h.ix,<- hs]⟩) (Fz q l v ⟨0,0,0,0⟩ i _ _ _ _ _ _ _ _ _ _ _ g1 (by omega) (by omega) (by omega) he (by rw [hv.put];exact c2))
theorem LX.rd(h:LX k m M l d rk x ops σ)(hk:k<=800) {f:Nat} (hf:rk i<=f)(hi:eL x.l i=true):Vh m i (jZ x.l f i) σ:=by
 have e:∀f i,jZ x.l f i=jZ d.l f i:=by
  intro f;induction f with
  | zero=>intro i;simp only [jZ,Gq h.ix]
  | succ f ih=>intro i;simp only [jZ,Gq h.ix];congr 1;exact dE fun c _=>ih c
 rw [e];exact aBj h.ix.iv.ho (h.ix.iv.ip.NB (by omega)) h.ix.iv.wt f i hf (by rw [<- aN4 h.ix];exact hi)
theorem aI7:∀(t:TN),TB (sQ t)->TB t
 | t,h=>by
  have hs:=h.s;have hk:=h.k;rw [vO] at hs hk;refine .mk t ⟨hs.1,hs.2.1,hs.2.2.1,by have:=hs.2.2.2;simpa using this⟩ fun k hkm=>aI7 k (hk _ (yZ hkm))
termination_by t=>Hm t
decreasing_by
 have:=Cn hkm;omega
theorem Zw:∀(v:VN),VB v->TB (Hb v)
 | v,h=>by
  obtain⟨a,b,c,e, -⟩:=h.s;rw [Jv];split
  .exact .mk _ ⟨by simp,by simp,by simp,by simp⟩ fun k hk=>by cases hk
  refine .mk _ ⟨a,b,c,by simpa using e⟩ fun k hk=>?_;obtain⟨z,hz,rfl⟩:=aU.1 hk;exact Zw z (h.k z hz)
termination_by v=>cT v
decreasing_by
 have:=dY hz;omega
theorem Fo {L:List ND} (g:Nat)(par:Int):∀(ks:List VN) (i':Int),(∀k∈ks,TK k/\cT k<=g+1)->(∀n∈mK i' par ks,aH L n.ID=n)->(hY i' ks).map (fun c=>sQ (jZ L g c))=ks.map Hb
 | [],_,_,_=>rfl
 | k::ks,i',h1,h2=>by
  rw [sV] at h2;simp only [hY,cD];rw [Dy k g i' par (h1 k eH).1 (h1 k eH).2 fun n hn=>h2 n (gF _ hn),Fo g par ks _ (fun x hx=>h1 x (gG _ hx)) fun n hn=>h2 n (oY _ hn)]
theorem LX.room(h:LX k m M l d rk x ops σ):d.most - ((d.es.length:Int) - 1)=x.most - ((x.l.length:Int) - 1):=by
 have h1:=h.ix.xp.most;have h2:=h.ix.xp.len;have h3:d.x.l=d.l:=rfl;have h4:=Cb d;have h5:d.x.most=d.most:=rfl;rw [h1,h2,h3,h4,h5]
theorem Vd(h:LX k m M l d rk x ops σ)(hu:Up x) (hg:VG v)(hm:GV v)(hc:cT v<=25)(hk:k<=300)(hr:(x.l.length:Int)+cT (cL v)<=x.most+1):
  ∃d' rk' ops' σ',Ct prog 30 [.ref l 0,iH v] σ (fun r τ=>r= .tup [.ref σ.length 0,D.int 0]/\τ=σ')/\LX (k+400) m M l d' rk' (xD x (cL v)) ops' σ'/\ItOk σ' (fun p=>σ.length<=p/\p<σ'.length/\Off m d' p/\p≠l) x.next (cL v) (.v (.pointer none)) σ.length:=by
 have hn:=Cv v;obtain⟨d',rk',ops',σ',c1,lx, -,it⟩:=Ux (cL v) (Hy hg hm) h hu (by omega) (by omega);exact⟨d',rk',ops',σ',aIv k m M l d rk x ops v σ.length σ' σ h (by omega) hg (by omega) (by omega) (by rw [h.room];omega) c1,lx.to (by omega),it⟩
end
def awK:VN:=⟨1,⟨#[]⟩,⟨#[]⟩,⟨#[97]⟩, [], [], [],⟨0,0,0,0,false,false⟩, []⟩
def Nb:VN:=⟨2,⟨#[117,108]⟩,⟨#[]⟩,⟨#[]⟩, [], [], [],⟨0,0,0,0,false,false⟩, [awK]⟩
theorem aVv:cL awK=awK:=by rw [lH];rfl
theorem aQ8:cL Nb=Nb:=by
 rw [lH];show({ Nb with classes:=bK [],attrs:=hU nA [],styles:=hU nP [],kids:=gV (([awK].map cL).filter jI) } :VN)=Nb
 rw [cD,aVv,kU,qE (by decide+kernel),lK];rfl
theorem aIb:cT Nb=2:=by
 rw [jW];show 1+([awK].map cT).sum=2
 have:cT awK=1:=by rw [jW];rfl
 simp [this]
theorem aV7:VG Nb:=by
 refine .mk _ (by decide+kernel) fun k hk=>?_;obtain rfl:k=awK:=by simpa [Nb] using hk
 exact .mk _ (by decide+kernel) fun k hk=>by cases hk
theorem aWk:GV Nb:=by
 refine .mk _ (.inr ⟨by decide,by decide,by decide+kernel,by simp [fD,pA,Nb],by simp [Nb]⟩) fun k hk=>?_;obtain rfl:k=awK:=by simpa [Nb] using hk
 exact .mk _ (.inl ⟨rfl,rfl,rfl⟩) fun k hk=>by cases hk
theorem aNs {m M l:Nat} {d:DS} (h:LX 0 m M l d rk (newX 9) [] σ):
  ∃d' rk' ops' σ' q p,Ct prog 30 [.ref l 0,iH Nb] σ (fun r τ=>r= .tup [.ref q 0,D.int 0]/\τ=σ')/\LX 400 m M l d' rk' (xD (newX 9) Nb) ops' σ'/\σ'[q]?=some (iJ 1 Nb (.v (.pointer none)) [p])/\σ'[p]?=some (iJ 2 awK (.ref q 0) [])/\d'.es.length=3:=by
 obtain⟨d',rk',ops',σ',c1,lx,it⟩:=Vd h (Up.new 9) aV7 aWk (by rw [aIb];omega) (by omega) (by rw [aQ8,aIb];show(([mQ].length:Nat):Int)+((2:Nat):Int)<=max 1 (min 9 65536)+1;decide);rw [aQ8] at lx it;cases it with
 | mk _ _ _ _ _ qs hF hq hl hk =>
  match qs,hl with
  | [p], _ =>
   have h3:0<(hY ((newX 9).next+1) Nb.kids).length:=by rw [xC];decide
   have hp:=hk 0 (by decide) (by show 0<1;decide) h3;cases hp with
   | mk _ _ _ _ _ qs2 hF2 hq2 hl2 hk2 =>
    have e2:qs2= []:=Ga.1 hl2;subst e2;refine⟨d',rk',ops',σ',_,p,c1,lx,hq,hq2,?_⟩;have e1:=lx.ix.xp.len;have e3:(xD (newX 9) Nb).l.length=3:=by
     show([mQ]++jM (newX 9).next (-1) Nb).length=3
     rw [bB,Mu,aIb];rfl
    have e4:d'.x.l=d'.l:=rfl;rw [e3,e4,Cb] at e1;exact e1.symm
theorem aXv:iH Nb= .agg [D.int 2,D.str ⟨#[117,108]⟩,D.str ⟨#[]⟩,D.str ⟨#[]⟩,.sl false [],.sl false [],.sl false [],D.int 0,D.int 0,D.int 0,D.int 0,D.bool false,D.bool false,.sl false [.agg [D.int 1,D.str ⟨#[]⟩,D.str ⟨#[]⟩,D.str ⟨#[97]⟩,.sl false [],.sl false [],.sl false [],D.int 0,D.int 0,D.int 0,D.int 0,D.bool false,D.bool false,.sl false []]]]:=by simp [Nb,awK]
theorem Xg  (σ:List (List D))  :Ct prog 26 [] σ (fun r σ'=>r= .bool true):=by
 refine zf func26 ?_;refine zr ⟨[],[],[],[],[66]⟩ fun _ _ Z=>?_;simp[gA,aS];apply Z;refine zr ⟨[],[],[],[],[66]⟩ fun _ _ Z=>?_;refine aE fun _ Y=>?_;simp[gA,aS];refine Jl (Og 9 _) ?_;rintro _ τ0 ⟨m,M,l,d,rk,hr9,hx⟩;subst hr9;have hg:=hx.at_;apply Y;simp[gA,aS,hg];apply Z;apply aF;refine lS ⟨[],[],[],[],[66]⟩ fun all hall _ Z=>?_;have ga2:aN all 2=some 7:=hall 2;refine zs 3 fun _ Y=>?_;simp[gA,aS,ga2,hg];apply Y;refine zb 7 ?_ ?_<;>intro g1<;>try simp at g1
 simp[gA,aS,ga2,hg];apply Z;refine zI ?_ ?_<;>intro c2<;>try simp at c2
 apply zA;refine zk [0,1] ?_;refine zr ⟨[],[],[],[],[66]⟩ fun _ _ Z=>?_;refine zs 4 fun _ Y=>?_;simp[gA,aS,hg];and_intros<;>(try omega);apply Y;refine aE fun _ Y=>?_;simp[gA,aS,hg];obtain⟨d1,rk1,o1,τ1,q,p,hmk,hx1,hq,hp,hlen⟩:=aNs hx;rw [aXv] at hmk;have hg1:=hx1.at_;simp only [iJ,Nb,awK] at hq hp;refine cH (hmk) ?_;apply Y;simp[gA,aS,hg,hg1,hq,hp,hlen];apply Z;refine zk [0,1,2,3] ?_;refine lS ⟨[],[],[],[],[66]⟩ fun all hall _ Z=>?_;have ga2:aN all 2=some 24:=hall 2;have ga6:aN all 6=some 28:=hall 6;have ga13:aN all 13=some 35:=hall 13;have ga21:aN all 21=some 43:=hall 21;have ga33:aN all 33=some 55:=hall 33;have ga46:aN all 46=some 68:=hall 46;refine zs 3 fun _ Y=>?_;simp[gA,aS,ga2,ga6,ga13,ga21,ga33,ga46,hg,hg1,hq,hp,hlen];apply Y;refine zb 24 ?_ ?_<;>intro g3<;>try simp at g3
 refine zs 4 fun _ Y=>?_;simp[gA,aS,ga2,ga6,ga13,ga21,ga33,ga46,hg,hg1,hq,hp,hlen];apply Y;refine zb 28 ?_ ?_<;>intro g4<;>try simp at g4
 refine zs 7 fun _ Y=>?_;simp[gA,aS,ga2,ga6,ga13,ga21,ga33,ga46,hg,hg1,hq,hp,hlen];apply Y;refine zb 35 ?_ ?_<;>intro g5<;>try simp at g5
 refine zs 8 fun _ Y=>?_;simp[gA,aS,ga2,ga6,ga13,ga21,ga33,ga46,hg,hg1,hq,hp,hlen];and_intros<;>(try omega);apply Y;refine zb 43 ?_ ?_<;>intro g6<;>try simp at g6
 refine zs 8 fun _ Y=>?_;simp[gA,aS,ga2,ga6,ga13,ga21,ga33,ga46,hg,hg1,hq,hp,hlen];and_intros<;>(try omega);apply Y;refine zs 4 fun _ Y=>?_;simp[gA,aS,ga2,ga6,ga13,ga21,ga33,ga46,hg,hg1,hq,hp,hlen];apply Y;refine zb 55 ?_ ?_<;>intro g7<;>try simp at g7
 refine zs 8 fun _ Y=>?_;simp[gA,aS,ga2,ga6,ga13,ga21,ga33,ga46,hg,hg1,hq,hp,hlen];and_intros<;>(try omega);apply Y;refine zs 5 fun _ Y=>?_;simp[gA,aS,ga2,ga6,ga13,ga21,ga33,ga46,hg,hg1,hq,hp,hlen];apply Y;refine zb 68 ?_ ?_<;>intro g8<;>try simp at g8
 refine zs 4 fun _ Y=>?_;simp[gA,aS,ga2,ga6,ga13,ga21,ga33,ga46,hg,hg1,hq,hp,hlen];apply Y;refine zg ga46 fun _ Y=>?_;simp[gA,aS,ga2,ga6,ga13,ga21,ga33,ga46,hg,hg1,hq,hp,hlen];refine cH (Oz m M d1 _ hx1.ix.iv.ho (by omega)) ?_;apply Y;simp[gA,aS,ga2,ga6,ga13,ga21,ga33,ga46,hg,hg1,hq,hp,hlen];apply Z;apply aC;simp [aI]
theorem aMm(i par:Int)(v:VN)(ks:List Int):(tB i par v ks).kind=if v.kind=1 then 1 else 2:=by unfold tB;split <;> rfl
theorem aTl (h:NV v)(i par:Int)(ks:List Int):bK (tB i par v ks).classes=(tB i par v ks).classes/\(tB i par v ks).classes.length<=8/\(tB i par v ks).attrs.length<=8/\(tB i par v ks).styles.length<=8:=by
 have h1:=h.c4;have h2:=h.a4;have h3:=h.s4;unfold tB;split
 .exact⟨rfl,by simp,by simp,by simp⟩
 exact⟨h.cl,by show v.classes.length<=8;omega,by show v.attrs.length<=8;omega,by show v.styles.length<=8;omega⟩
theorem aQt:∀(t:TN),TB t->TB (sQ t)
 | t,h=>by
  have hs:=h.s;rw [vO];refine .mk _ ⟨hs.1,hs.2.1,hs.2.2.1,by have:=hs.2.2.2;simpa using this⟩ fun k hk=>?_;obtain⟨z,hz,rfl⟩:=aU.1 hk;exact aQt z (h.k z hz)
termination_by t=>Hm t
decreasing_by
 have:=Cn hz;omega
def Jc(v:VN)(ks:List TN):TN:= { Hb v with kids:=ks }
theorem aR9(v:VN)(ks:List TN):Jc v ks=⟨(Hb v).ID,(Hb v).kind,(Hb v).tag,(Hb v).text,(Hb v).classes,(Hb v).attrs,(Hb v).styles,ks⟩:=rfl
theorem aIi {w:VN} {ks:List Int} {par:Int} (hn:n=tB i par v ks)(hk:v.kind=1↔w.kind=1)(K K2:List TN)(j:Int)(hK:K.map sQ=K2.map sQ):sQ (tnN (Hl n w) j K)=sQ (Jc w K2):=by
 rw [vO,vO,aR9];subst hn;unfold tnN Hl tB;rw [Jv];by_cases h:w.kind=1
 .rw [aM h,aM (hk.2 h),aM h];simp only [hK]
 rw [aD h,aD (fun e=>h (hk.1 e)),aD h];simp only [hK]
section
variable {m M l:Nat}{d:DS}
theorem LX.clr {k m M l:Nat} {d:DS} {ops:List TOp} {τ:List (List D)} (h:LX k m M l d rk x ops σ)(hs:τ=σ.set l (kC m [])):LX k m M l d rk x [] τ:=by
 subst hs;exact⟨h.ix.put h.off _,h.off,aL h.at_ _,iK _⟩
theorem aCp(h:LX 0 m M l d rk (newX 50) [] σ) {w:VN} (hv:VG v)(gv:GV v)(cv:cT v<=25)(hw:VG w)(gw:GV w)(cw:cT w<=25)(hk:v.kind=1↔w.kind=1):
  ∃q o1 o2 σ1 σ2 t1 t2,Ct prog 30 [.ref l 0,iH v] σ (fun r τ=>r= .tup [.ref q 0,D.int 0]/\τ=σ1)/\σ1[l]?=some (kC m o1)/\Vh m 1 t1 σ1/\TB t1/\
   Ct prog 49 [.ref q 0,.ref l 0,iH (cL w)] σ1 (fun r τ=>r= .tup []/\τ=σ2)/\σ2[l]?=some (kC m o2)/\Vh m 1 t2 σ2/\TB t2/\TB (Jc (cL w) t1.kids)/\sQ t2=sQ (Jc (cL w) t1.kids)/\
   ∀J:List (List D),(σ2++J)[l]?=some (kC m o2)/\∃σ4,Ct prog 49 [.ref q 0,.ref l 0,iH (cL w)] ((σ2++J).set l (kC m [])) (fun r τ=>r= .tup []/\τ=σ4)/\σ4[l]?=some (kC m [])/\∃qs,σ4[q]?=some (iJ 1 (cL w) (.v (.pointer none)) qs):=by
 have nv:=Hy hv gv;have nw:=Hy hw gw;have c1:=Cv v;have c2:=Cv w;obtain⟨d1,rk1,o1,σ1,hm,lx1,it⟩:=Vd h (Up.new 50) hv gv cv (by omega) (by show(([mQ].length:Nat):Int)+_<=max 1 (min 50 65536)+1;simp;omega);obtain⟨qs,hq,hl⟩:=it.at_;replace hq:σ1[σ.length]?=some (iJ 1 (cL v) (.v (.pointer none)) qs):=hq;obtain⟨-, -,hoq,hql⟩:=it.F_;have hnd:=(aTo lx1.ix).nd;have hnm:=((Up.new 50).grow nv).nm;obtain⟨X,hX⟩:∃X,xD (newX 50) (cL v)=X:=⟨_,rfl⟩;obtain⟨n1,hn1⟩:∃n,n=tB 1 (-1) (cL v) (hY (1+1) (cL v).kids):=⟨_,rfl⟩;have hXl:X.l= [mQ]++n1::mK (1+1) 1 (cL v).kids:=by
  rw [<- hX,hn1];show [mQ]++jM 1 (-1) (cL v)=_
  rw [oA]
 rw [hX] at lx1 hnd hnm;have hmem:n1∈X.l:=by rw [hXl];simp
 have hid:n1.ID=1:=by rw [hn1,kR]
 have hroot:aH X.l 1=n1:=by rw [<- hid];exact mZ hnd hmem
 have hL:eL X.l 1=true:=by rw [<- hid];exact aAx hnd hmem
 have hkd:n1.kind=if(cL w).kind=1 then 1 else 2:=by
  rw [hn1,aMm,oL,oL];by_cases e:w.kind=1
  .rw [aM e,aM (hk.2 e)]
  rw [aD e,aD fun e2=>e (hk.1 e2)]
 have hsz:=aTl nv.v 1 (-1) (hY (1+1) (cL v).kids);rw [<- hn1] at hsz;obtain⟨d2,rk2,o2,σ2,hs,lx2,ho2,hq2⟩:=aMk lx1 (by omega) hq hoq hql nw.v (by rw [qL];have:=hw.f.2.2.2.1;omega) hL (by decide) (by rw [hroot];exact hkd) (by rw [hroot];exact hsz.1) (by rw [hroot];exact hsz.2) hnm;rw [hroot] at lx2;obtain⟨X2,hX2⟩:∃Y:RD,(⟨X.most,X.next,cX X.l (Hl n1 (cL w))⟩:RD)=Y:=⟨_,rfl⟩;have hX2l:X2.l=cX X.l (Hl n1 (cL w)):=by rw [<- hX2]
 rw [hX2] at lx2;have hput:∀id,aH X2.l id=if id=1 then Hl n1 (cL w)else aH X.l id:=fun id=>by
  rw [hX2l,oW hnd hmem (aSw n1 (cL w)) id,hid]
 have hL2:eL X2.l 1=true:=by rw [hX2l,yC];exact hL
 have hroot2:aH X2.l 1=Hl n1 (cL w):=by rw [hput,aM rfl]
 obtain⟨f,hf⟩:∃f,f=rk1 1+rk2 1+30:=⟨_,rfl⟩;have r1:=lx1.rd (by omega) (f:=f+1) (i:=1) (by omega) hL;have r2:=lx2.rd (by omega) (f:=f+1) (i:=1) (by omega) hL2;have hg1:∀n∈mK (1+1) 1 (cL v).kids,aH X.l n.ID=n:=fun n hn=>mZ hnd (by rw [hXl];exact oY _ (gG _ hn));have hg2:∀n∈mK (1+1) 1 (cL v).kids,aH X2.l n.ID=n:=fun n hn=>by
  rw [hput,aD,hg1 n hn];intro e;rw [hXl,cN] at hnd;have h3:=(lI.1 hnd).2.1;rw [cD,iM,hid] at h3;exact h3.1 (aU.2 ⟨n,hn,e⟩)
 have htk:∀k∈(cL v).kids,TK k/\cT k<=f+1:=fun k hkm=>⟨nv.tk.k k hkm,by have:=dY hkm;omega⟩;have k1:=Fo (L:=X.l) f 1 (cL v).kids (1+1) htk hg1;have k2:=Fo (L:=X2.l) f 1 (cL v).kids (1+1) htk hg2;have e1:jZ X.l (f+1) 1=tnN n1 1 ((hY (1+1) (cL v).kids).map (jZ X.l f)):=by
  simp only [jZ];rw [hroot];rw [show n1.kids=hY (1+1) (cL v).kids by rw [hn1,tY]]
 have e2:jZ X2.l (f+1) 1=tnN (Hl n1 (cL w)) 1 ((hY (1+1) (cL v).kids).map (jZ X2.l f)):=by
  simp only [jZ];rw [hroot2];rw [show(Hl n1 (cL w)).kids=hY (1+1) (cL v).kids by unfold Hl;split <;> (show n1.kids=_;rw [hn1,tY])]
 have hkk:((hY (1+1) (cL v).kids).map (jZ X2.l f)).map sQ=((hY (1+1) (cL v).kids).map (jZ X.l f)).map sQ:=by
  rw [eT,eT];exact k2.trans k1.symm
 have tb1:TB (jZ X.l (f+1) 1):=aI7 _ (by
  rw [Dy (l:=X.l) (cL v) (f+1) 1 (-1) nv.tk (by omega) fun n hn=>mZ hnd (by
   rw [hXl];rw [oA,<- hn1] at hn;exact oY _ hn)]
  exact Zw _ (Ss hv (by omega)))
 have hks:(jZ X.l (f+1) 1).kids=(hY (1+1) (cL v).kids).map (jZ X.l f):=by rw [e1];rfl
 have tw:TB (Jc (cL w) (jZ X.l (f+1) 1).kids):=by
  have ho:=(Zw _ (Ss hw (by omega))).s;exact .mk _ ⟨ho.1,ho.2.1,ho.2.2.1,tb1.s.2.2.2⟩ tb1.k
 have hno:sQ (jZ X2.l (f+1) 1)=sQ (Jc (cL w) (jZ X.l (f+1) 1).kids):=by
  rw [e2,hks];exact aIi hn1 (by rw [oL,oL];exact hk) _ _ _ hkk
 refine⟨_,o1,o2,σ1,σ2,_,_,hm,lx1.at_,r1,tb1,hs,lx2.at_,r2,aI7 _ (by rw [hno];exact aQt _ tw),tw,hno,fun J=>?_⟩;have lxa:=lx2.app_ J;have hl2:=oD lx2.at_;have hql2:=oD hq2;have lx3:=lxa.clr rfl;have hq3:((σ2++J).set l (kC m []))[σ.length]?=some (iJ 1 (cL w) (.v (.pointer none)) qs):=by rw [fB (fun e=>hql e.symm),bA hql2];exact hq2
 have ca:=aAq lx3 (by omega) hq3 ho2 hql nw.v hL2 (by decide) (by rw [hroot2];show(Hl n1 (cL w)).kind=_;rw [<- hkd];unfold Hl;split <;> rfl) (by rw [hroot2,aFb]);have lx4:=lx3.put_ ho2 hql (iJ 1 (cL w) (.v (.pointer none)) qs);exact⟨lxa.at_,_,ca,lx4.at_,qs,aL hq3 _⟩
end
theorem aNz(v:VN)(σ:List (List D))(h:VG v)(hc:cT v<=100):Ct prog 51 [iH v] σ (fun r σ'=>r=rQ (Hb (cL v))/\σ'=σ):=(aSo v σ h hc).strip fun r σ' h=>⟨h.1.1,h.1.2,h.2⟩
theorem Td(f g:List FL)(σ:List (List D))(hlf:f.length<=9223372036854775807)(hf:∀x∈f,FO x)(hlg:g.length<=9223372036854775807)(hg_:∀x∈g,FO x):Ct prog 9 [.sl false (f.map Mg),.sl false (g.map Mg)] σ (fun r σ'=>r= .bool true):=by
 refine zf func9 ?_;refine zr ⟨[],[],[14],[],[]⟩ fun _ _ Z=>?_;simp;apply Z;apply aF;refine zr ⟨[],[],[14],[],[]⟩ fun _ _ Z=>?_;refine aE fun _ Y=>?_;simp;refine Jl (Xg _) ?_;rintro _ σ1 hr9;subst hr9;apply Y;simp;apply Z;refine zI ?_ ?_<;>intro c1<;>try simp at c1
 apply zA;refine zr ⟨[],[],[14],[],[]⟩ fun _ _ Z=>?_;refine zs 1 fun _ Y=>?_;simp;apply Y;refine aE fun _ Y=>?_;simp;refine Jl (aB7 f 12 _ (by omega) hlf hf) ?_;rintro _ τ1 ⟨⟨v,hr1,hvv,hcv⟩,hτ1⟩;subst hr1 hτ1;apply Y;refine zs 1 fun _ Y=>?_;simp;apply Y;refine aE fun _ Y=>?_;simp;refine Jl (aB7 g 12 _ (by omega) hlg hg_) ?_;rintro _ τ1 ⟨⟨w,hr1,hvw,hcw⟩,hτ1⟩;subst hr1 hτ1;apply Y;simp;apply Z;refine zr ⟨[],[],[14],[],[]⟩ fun _ _ Z=>?_;refine aE fun _ Y=>?_;simp;refine Jl (Og 50 _) ?_;rintro _ τ0 ⟨m,M,l,d,rk,hr9,hx⟩;subst hr9;have hg:=hx.at_;apply Y;simp[hg];apply Z;apply aF;refine zr ⟨[],[],[14],[],[]⟩ fun _ _ Z=>?_;simp[hg];apply Z;refine zI ?_ ?_<;>intro c2<;>try simp at c2
 apply zA;apply aF;refine zk [4,5,6,7] ?_;refine lS ⟨[],[],[14],[],[]⟩ fun all hall _ Z=>?_;have ga3:aN all 3=some 29:=hall 3;have ga8:aN all 8=some 34:=hall 8;refine zs 1 fun _ Y=>?_;simp[ga3,ga8,hg];apply Y;refine aE fun _ Y=>?_;simp[ga3,ga8,hg];refine Jl (Pj v 20 4096 _ hvv (by omega)) ?_;rintro _ _ ⟨⟨e1,hr9,he1⟩,hs9⟩;subst hr9;subst hs9;apply Y;refine zs 2 fun _ Y=>?_;simp[ga3,ga8,hg];apply Y;refine zb 29 ?_ ?_<;>intro g3<;>try simp at g3
 .refine zs 5 fun _ Y=>?_;simp[ga3,ga8,hg];apply Y;simp[ga3,ga8,hg];apply Z;refine aX (t:=true) (by simp) (fun _=>?_) (fun h=>by cases h);refine zk [4,5,6,7] ?_;refine zr ⟨[],[],[14],[],[]⟩ fun _ _ Z=>?_;simp[hg];apply Z;apply aC;simp [aI]
 refine zs 1 fun _ Y=>?_;simp[ga3,ga8,hg];apply Y;refine zg ga3 fun _ Y=>?_;simp[ga3,ga8,hg];refine Jl (Pj w 20 4096 _ hvw (by omega)) ?_;rintro _ _ ⟨⟨e2,hr9,he2⟩,hs9⟩;subst hr9;subst hs9;apply Y;refine zs 3 fun _ Y=>?_;simp[ga3,ga8,hg];apply Y;refine zb 34 ?_ ?_<;>intro g4<;>try simp at g4
 .simp[ga3,ga8,hg];apply Z;refine aX (t:=true) (by simp) (fun _=>?_) (fun h=>by cases h);refine zk [4,5,6,7] ?_;refine zr ⟨[],[],[14],[],[]⟩ fun _ _ Z=>?_;simp[hg];apply Z;apply aC;simp [aI]
 simp[ga3,ga8,hg];apply Z;refine zI ?_ ?_<;>intro c5<;>try simp at c5
 .refine zk [4,5,6,7] ?_;refine zr ⟨[],[],[14],[],[]⟩ fun _ _ Z=>?_;simp[hg];apply Z;apply aC;simp [aI]
 apply zA;refine zk [4,5,6,7] ?_;refine zr ⟨[],[],[14],[],[]⟩ fun _ _ Z=>?_;refine zs 2 fun _ Y=>?_;simp[hg];apply Y;refine aE fun _ Y=>?_;simp[hg];refine cH (Ib v hvv (by omega) _) ?_;apply Y;refine aE fun _ Y=>?_;simp[hg];obtain⟨q,o1,o2,τ1,τ2,t1,t2,hmk,hg1,r1,tb1,hsh,hg2,r2,tb2,tbw,hno,hfin⟩:=aCp hx hvv (he1 g3) (by omega) hvw (he2 g4) (by omega) c5;refine cH (hmk) ?_;apply Y;simp[hg,hg1,hg2];apply Z;apply aF;refine zk [4,6,7,8,9] ?_;refine lS ⟨[],[],[14],[],[]⟩ fun all hall _ Z=>?_;have ga2:aN all 2=some 52:=hall 2;refine zs 3 fun _ Y=>?_;simp[ga2,hg,hg1,hg2];apply Y;refine zb 52 ?_ ?_<;>intro g6<;>try simp at g6
 simp[ga2,hg,hg1,hg2];apply Z;refine zI ?_ ?_<;>intro c7<;>try simp at c7
 apply zA;refine zr ⟨[],[],[14],[],[]⟩ fun _ _ Z=>?_;refine zs 4 fun _ Y=>?_;simp[hg,hg1,hg2];apply Y;refine aE fun _ Y=>?_;simp[hg,hg1,hg2];refine cH (r1) ?_;apply Y;simp[hg,hg1,hg2];apply Z;refine zk [4,6,7,8,10] ?_;refine zr ⟨[],[],[14],[],[]⟩ fun _ _ Z=>?_;refine zs 3 fun _ Y=>?_;simp[hg,hg1,hg2];apply Y;refine aE fun _ Y=>?_;simp[hg,hg1,hg2];refine cH (Ib w hvw (by omega) _) ?_;apply Y;refine aE fun _ Y=>?_;simp[hg,hg1,hg2];refine cH (Ih w hvw (by omega) _) ?_;apply Y;refine aE fun _ Y=>?_;simp[hg,hg1,hg2];refine cH (hsh) ?_;apply Y;simp only [dL];apply Z;refine zr ⟨[],[],[14],[],[]⟩ fun _ _ Z=>?_;refine zs 4 fun _ Y=>?_;simp[hg,hg1,hg2];apply Y;refine aE fun _ Y=>?_;simp[hg,hg1,hg2];refine cH (r2) ?_;apply Y;simp[hg,hg1,hg2];apply Z;refine Is 10 2 (by simp <;> rfl) (by simp <;> rfl) ?_;refine Is 12 3 (by simp <;> rfl) (by simp <;> rfl) ?_;refine zk [4,6,7,8,10,12] ?_;refine zd ⟨[],[],[14],[],[]⟩ [.op {rO:=true},.pure,.op {rO:=true},.pure,.op {rO:=true,wO:=true},.op {rL:=true,wL:=true},.op {rO:=true,wO:=true},.op {rL:=true,wL:=true}] fun all hall _ Z=>?_;refine lM 1 fun _ Y=>?_;simp[hg,hg1,hg2];apply Y;refine bV fun _ Y=>?_;simp[hg,hg1,hg2];refine xH (fun _=>(Su t1 tb1 _)) ?_;apply Y;refine lM 1 fun _ Y=>?_;simp[hg,hg1,hg2];apply Y;refine bV fun _ Y=>?_;simp[hg,hg1,hg2];refine xH (fun _=>(Su t2 tb2 _)) ?_;apply Y;simp[hg,hg1,hg2];and_intros<;>(try omega);apply Z;refine zk [4,6,7,8,14,15] ?_;refine zr ⟨[],[],[14],[],[]⟩ fun _ _ Z=>?_;refine zs 1 fun _ Y=>?_;simp[hg,hg1,hg2];apply Y;refine aE fun _ Y=>?_;simp[hg,hg1,hg2];refine cH (aNz w _ hvw (by omega)) ?_;apply Y;simp[hg,hg1,hg2];apply Z;refine zr ⟨[],[],[14],[],[]⟩ fun _ _ Z=>?_;simp[hg,hg1,hg2];apply Z;refine zk [4,6,7,8,15,16] ?_;refine zr ⟨[],[],[14],[],[]⟩ fun _ _ Z=>?_;refine zs 1 fun _ Y=>?_;simp[hg,hg1,hg2];apply Y;refine aE fun _ Y=>?_;simp[hg,hg1,hg2];obtain⟨hg3,τ4,ca,hg4,qs4,hq4⟩:=hfin [(rQ t1).cells,(rQ t2).cells,(rQ t1).cells];simp only [iJ] at hq4;refine cH (aDc l m o2 _ hg3) ?_;apply Y;simp only [dL];apply Z;refine zr ⟨[],[],[14],[],[]⟩ fun _ _ Z=>?_;refine zs 3 fun _ Y=>?_;simp[hg,hg1,hg2,hg4,hq4];apply Y;refine aE fun _ Y=>?_;simp[hg,hg1,hg2,hg4,hq4];refine cH (Ib w hvw (by omega) _) ?_;apply Y;refine aE fun _ Y=>?_;simp[hg,hg1,hg2,hg4,hq4];refine cH (Ih w hvw (by omega) _) ?_;apply Y;refine aE fun _ Y=>?_;simp[hg,hg1,hg2,hg4,hq4];refine cH (ca) ?_;apply Y;simp only [dL];apply Z;refine zk [4,7,8,15,16] ?_;refine lS ⟨[],[],[14],[],[]⟩ fun all hall _ Z=>?_;have ga3:aN all 3=some 98:=hall 3;have ga9:aN all 9=some 104:=hall 9;refine zs 2 fun _ Y=>?_;simp[ga3,ga9,hg,hg1,hg2,hg4,hq4];apply Y;refine aE fun _ Y=>?_;simp[ga3,ga9,hg,hg1,hg2,hg4,hq4];refine cH (Wd t2 (Jc (cL w) t1.kids) tb2 hno _) ?_;apply Y;refine zs 1 fun _ Y=>?_;simp[ga3,ga9,hg,hg1,hg2,hg4,hq4];apply Y;refine zb 98 ?_ ?_<;>intro g8<;>try simp at g8
 refine zs 1 fun _ Y=>?_;simp[ga3,ga9,hg,hg1,hg2,hg4,hq4];apply Y;refine zg ga3 fun _ Y=>?_;simp[ga3,ga9,hg,hg1,hg2,hg4,hq4];refine cH (aPi l m [] _ (by simp) hg4) ?_;apply Y;refine zs 4 fun _ Y=>?_;simp[ga3,ga9,hg,hg1,hg2,hg4,hq4];and_intros<;>(try omega);apply Y;refine zb 104 ?_ ?_<;>intro g9<;>try simp at g9
 refine zs 8 fun _ Y=>?_;simp[ga3,ga9,hg,hg1,hg2,hg4,hq4];and_intros<;>(try omega);apply Y;simp[ga3,ga9,hg,hg1,hg2,hg4,hq4];apply Z;apply aC;simp [aI]
end Go.Proofs.YtbgfljpnhhdkoaaGreat
namespace Go.Vm
open Go Go.RowKit
variable {n:Nat}{w:World}{α:Type}
def zQ(w:World):Mem:=fun b o=>w.cell? ⟨b,o,none⟩
def CellsAt(w:World)(ds:List D)(cs:List Value):Prop:=
 ds.length=cs.length/\∀(i:Nat) (c:D) (y:Value),ds[i]?=some c->cs[i]?=some y->R (zQ w) [] c y/\y.oneCell'=true/\c.flat=true
def OpenAt(w:World)(d:D)(cs:List Value):Prop:=CellsAt w d.cells cs/\d≠ .any
def Opens(P:Program)(t:TypeId) {α:Type} (f:α->D)(p:α->Prop):Prop:=
 ∀(H:Type) (enc:TypeId×Value->H) (w:World) (spare:Nat->Bool) (held:Bool) (fuel:Nat) (cs:List Value) (x:DataW H×List MemPlace),DataW.trod enc P w 0 spare held fuel t cs=some x->∃a,p a/\OpenAt w (f a) cs
theorem OpenAt.one {d:D} {y:Value} (hd:d.cells= [d])(hr:R (zQ w) [] d y)(h1:y.oneCell'=true)(hf:d.flat=true)(ha:d≠ .any):OpenAt w d [y]:=by
 refine⟨⟨by rw [hd];rfl,fun i c z h2 h3=>?_⟩,ha⟩;rw [hd] at h2
 match i with
 | 0=>simp at h2 h3;subst h2;subst h3;exact⟨hr,h1,hf⟩
 | i+1=>simp at h2
section
variable {P:Program} {t:TypeId}
theorem aAi(ht:P.underlying t=some .bool):Opens P t D.bool (fun _=>True):=by
 intro H enc w spare held fuel cs x h;obtain⟨b,rfl,_⟩:=DataW.trod_bool ht h;exact⟨b,trivial,.one rfl (.v _ rfl) rfl rfl (by simp)⟩
theorem aE2(ht:P.underlying t=some (.int .i64)):Opens P t D.int (fun n=> -9223372036854775808<=n/\n<=9223372036854775807):=by
 intro H enc w spare held fuel cs x h;obtain⟨n,rfl,_,hw⟩:=DataW.trod_int ht h;refine⟨n,?_,.one rfl (.v _ rfl) rfl rfl (by simp)⟩;have h1:IntKind.i64.min= -9223372036854775808:=rfl;have h2:IntKind.i64.max=9223372036854775807:=rfl;simp only [Lit.wf,gO,fN] at hw;omega
theorem aFz(ht:P.underlying t=some .string):Opens P t D.str (fun s=>s.size<=maxLen):=by
 intro H enc w spare held fuel cs x h;obtain⟨s,rfl,_,hw⟩:=DataW.trod_string ht h;exact⟨s,hw,.one rfl (.v _ rfl) rfl rfl (by simp)⟩
theorem OpenAt.value {d:D} {cs:List Value} (h:OpenAt w d cs):∃x:Value,x.cells.toList=cs/\R (zQ w) [] d x:=by
 have gen:d.cells= [d]->∃x:Value,x.cells.toList=cs/\R (zQ w) [] d x:=by
  intro hd;have hl:=h.1.1;rw [hd] at hl;obtain⟨y,rfl⟩:=List.length_eq_one_iff.1 hl.symm;have:=h.1.2 0 d y (by rw [hd];rfl) rfl;exact⟨y,by rw [Value.cells_one this.2.1],this.1⟩
 cases d with
 | agg ds=>
  refine⟨.agg cs.toArray,by simp [Value.cells],.agg ds cs.toArray (by have:=h.1.1;simp [D.cells] at this;simp [this]) (fun i e y a1 a2=>(h.1.2 i e y a1 (by simpa using a2)).1) (fun i y a2=>?_)⟩;have a2':cs[i]?=some y:=by simpa using a2
  have hi:=(aO.1 a2').1;have hl:=h.1.1;have hi2:i<(D.cells (.agg ds)).length:=by omega
  exact(h.1.2 i _ y (aW hi2) a2').2.1
 | _=>exact gen rfl
theorem Gt {Q:Nat->α->Prop} (h:∀i,i<n->∃a,Q i a):∃l:List α,l.length=n/\∀i a,l[i]?=some a->Q i a:=by
 induction n with
 | zero=>exact⟨[],rfl,by simp⟩
 | succ n ih =>
  obtain⟨l,hl,hq⟩:=ih (fun i hi=>h i (by omega));obtain⟨a,ha⟩:=h n (by omega);refine⟨l++ [a],by simp [hl],fun i b hb=>?_⟩;by_cases hi:i<l.length
  .rw [bA hi] at hb;exact hq i b hb
  rw [bT (by omega)] at hb;have h0:i - l.length=0:=by
   have:=(aO.1 hb).1;simp at this;omega
  rw [h0] at hb;simp at hb;subst hb;rw [show i=n by omega];exact ha
theorem Zz {d:D} :d.ncells=d.cells.length:=by cases d <;> rfl
theorem tI {e:TypeId} {f:α->D} {p:α->Prop} (ht:P.underlying t=some (.slice e))(h:Opens P e f p)(hk:0<P.cellsOf e):Opens P t (fun l:List α=> .sl false (l.map f)) (fun l=>l.length<=maxLen/\∀a∈l,p a):=by
 intro H enc w spare held fuel cs x hx;rcases DataW.trod_slice ht hx with ⟨rfl,_⟩ | ⟨a,len,cap,elems,rest,n,_,rfl,_,_,hlc,hcm,hlen,hel,_,_⟩
 .exact⟨[],⟨by simp,by simp⟩,.one rfl (.nil false) rfl rfl (by simp)⟩
 by_cases h0:len=0
 .subst h0;exact⟨[],⟨by simp,by simp⟩,.one rfl (.emp false a cap hcm) rfl rfl (by simp)⟩
 have each:∀i,i<len->∃b:α×List Value,p b.1/\OpenAt w (f b.1) b.2/\w.cells? 0 (a.add (i * P.cellsOf e)) (P.cellsOf e)=some b.2:=by
  intro i hi;have hi':i<elems.length:=by omega
  have:=hel i hi;rw [aW hi',lX] at this;obtain⟨ds,h1,h2⟩:=this;obtain⟨b,hb,ho⟩:=h H enc w spare held n ds _ h2;exact⟨(b,ds),hb,ho,h1⟩
 obtain⟨L,hL,hq⟩:=Gt each;have each2:∀i,i<len->∃v:Value,∃b,L[i]?=some b/\v.cells.toList=b.2/\R (zQ w) [] (f b.1) v:=by
  intro i hi;have hi':i<L.length:=by omega
  have hb:L[i]?=some L[i]:=aW hi';obtain⟨v,h1,h2⟩:=(hq i _ hb).2.1.value;exact⟨v,_,hb,h1,h2⟩
 obtain⟨V,hV,hv⟩:=Gt each2;have hspot:a.spot=none:=by
  have hi':0<L.length:=by omega
  have h1:=(hq 0 _ (aW hi')).2.2;obtain⟨_,hl,hc⟩:=World.cells?_some h1;have h2:=hc 0 hk;rw [aW (by omega)] at h2;simpa [Addr.add] using World.cell?_spot h2
 obtain⟨b,off,spot⟩:=a;simp only at hspot;subst hspot;refine⟨L.map (·.1),⟨by rw [bS,hL];exact kV hlc hcm,fun y hy=>?_⟩,.one rfl ?_ rfl rfl (by simp)⟩
 .obtain⟨z,hz,rfl⟩:=aU.1 hy;obtain⟨i,hi⟩:=eR hz;exact(hq i z hi).1
 refine .sl false _ b off len cap (P.cellsOf e) V (by simp [hV,hL]) (by simp [hL]) hk hlc hcm (fun i d x h1 h2=>?_) (fun i d h1=>?_) (fun i x h1=>?_)
 .obtain⟨z,hz,h3,h4⟩:=hv i x h2;simp only [cK,hz,gD,bF] at h1;subst h1;exact h4
 .simp only [cK,Option.map_map,dI] at h1;obtain⟨z,hz,rfl⟩:=h1;obtain⟨_,h5,h6⟩:=hq i z hz;show(f z.1).ncells=_
  rw [Zz,h5.1.1];exact(World.cells?_some h6).2.1
 obtain⟨z,hz,h3,h4⟩:=hv i x h1;obtain⟨_,h5,h6⟩:=hq i z hz;obtain⟨_,h7,h8⟩:=World.cells?_some h6;have hsz:x.cells.size=P.cellsOf e:=by rw [<- h7,<- h3,bY]
 refine⟨hsz,fun j c hj=>?_⟩;have hjl:j<P.cellsOf e:=by rw [<- hsz];exact(dW.1 hj).1
 have hj2:z.2[j]?=some c:=by rw [<- h3];simpa using hj
 have hj3:j<(f z.1).cells.length:=by rw [h5.1.1];omega
 refine⟨(h5.1.2 j _ c (aW hj3) hj2).2.1,?_⟩;have:=h8 j hjl;rw [Addr.add_none,Addr.add_none,hj2] at this;show w.cell? _=_
 rw [show off+(i * P.cellsOf e+j)=off+i * P.cellsOf e+j by omega];exact this
theorem CellsAt.append {a b:List D} {x y:List Value} (h1:CellsAt w a x)(h2:CellsAt w b y):CellsAt w (a++b) (x++y):=by
 refine⟨by simp [h1.1,h2.1],fun i c v e1 e2=>?_⟩;by_cases hi:i<a.length
 .rw [bA hi] at e1;rw [bA (by have:=h1.1;omega)] at e2;exact h1.2 i c v e1 e2
 rw [bT (by omega)] at e1;rw [bT (by have:=h1.1;omega)] at e2;rw [<- h1.1] at e2;exact h2.2 _ c v e1 e2
def Ql(P:Program)(fs:List Field)(k n:Nat) {α:Type} (f:α->List D)(p:α->Prop):Prop:=
 ∀(H:Type) (enc:TypeId×Value->H) (w:World) (spare:Nat->Bool) (held:Bool) (fuel:Nat) (cs:List Value),cs.length=n->
  (∀fl∈fs,∃x:DataW H×List MemPlace,DataW.trod enc P w 0 spare held fuel fl.type ((cs.drop fl.offset).take (P.cellsOf fl.type))=some x)->∃a,p a/\CellsAt w (f a) (cs.drop k)
theorem vG :Ql P [] n n (fun _:Unit=> []) (fun _=>True):=by
 intro H enc w spare held fuel cs hn _;refine⟨(),trivial,?_,fun i c y h=>by simp at h⟩;rw [uO (by omega)];rfl
theorem eG {fl:Field} {fs:List Field} {k m:Nat} {β:Type} {f:α->D} {p:α->Prop} {g:β->List D} {q:β->Prop} (ho:fl.offset=k)(hc:P.cellsOf fl.type=m)(h1:Opens P fl.type f p)(h2:Ql P fs (k+m) n g q):
  Ql P (fl::fs) k n (fun ab:α×β=>(f ab.1).cells++g ab.2) (fun ab=>p ab.1/\q ab.2):=by
 intro H enc w spare held fuel cs hn hall;obtain⟨x,hx⟩:=hall fl (by simp);obtain⟨a,ha,hoa⟩:=h1 H enc w spare held fuel _ x hx;obtain⟨b,hb,hob⟩:=h2 H enc w spare held fuel cs hn (fun fl' h'=>hall fl' (by simp [h']));refine⟨(a,b),⟨ha,hb⟩,?_⟩;have e:cs.drop k=(cs.drop k).take m++cs.drop (k+m):=by
  rw [<- List.drop_drop];exact(fL m _).symm
 rw [e];rw [ho,hc] at hoa;exact hoa.1.append hob
theorem rR {fs:Array Field} {f:α->List D} {p:α->Prop} (ht:P.underlying t=some (.struct fs))(h:Ql P fs.toList 0 (P.cellsOf t) f p):Opens P t (fun a=> .agg (f a)) p:=by
 intro H enc w spare held fuel cs x hx;obtain⟨xs,n,_,_,hl,hxl,hall⟩:=DataW.trod_struct ht hx;obtain⟨a,ha,hc⟩:=h H enc w spare held n cs hl (fun fl hfl=>by
  obtain⟨i,hi⟩:=eR hfl;rw [dH] at hi;have h1:=hall i fl hi;have hi2:i<xs.length:=by rw [hxl];exact(dW.1 hi).1
  rw [aW hi2] at h1;exact⟨_,h1⟩)
 rw [yS] at hc;exact⟨a,ha,hc,by simp⟩
theorem Opens.map {β:Type} {f:α->D} {p:α->Prop} {g:β->D} {q:β->Prop} (h:Opens P t f p)(φ:α->β)(hφ:∀a,f a=g (φ a))(hq:∀a,p a->q (φ a)):Opens P t g q:=by
 intro H enc w spare held fuel cs x hx;obtain⟨a,ha,ho⟩:=h H enc w spare held fuel cs x hx;exact⟨φ a,hq a ha,by rw [<- hφ];exact ho⟩
theorem Vt {H:Type} {enc:TypeId×Value->H} {f:α->D} {p:α->Prop} {spare:Nat->Bool} {held:Bool} {v:Value} {d:DataW H} {ps:List MemPlace} (h:Opens P t f p)(hf:∀a,(f a).cells= [f a])(hv:v.oneCell'=true)(ht:DataW.Trod enc P w 0 spare held t v d ps):
  ∃a,p a/\R (zQ w) [] (f a) v/\∀X h q,Own w (zQ w) [] X h q (f a) v:=by
 obtain⟨fuel,hx⟩:=ht;obtain⟨a,ha,ho⟩:=h H enc w spare held fuel _ _ hx;rw [Value.cells_one hv] at ho;have:=ho.1.2 0 (f a) v (by rw [hf];rfl) rfl;exact⟨a,ha,this.1,fun X h q=> .flat q _ _ this.2.2⟩
theorem aTy {N:FuncId} {ds:List D} {vs:Array Value} {W:World} (hct:Ct P N ds [] (fun r _=>r= .bool true))(hl:vs.size=ds.length)
  (ha:∀(i:Nat) (d:D) (v:Value),ds[i]?=some d->vs[i]?=some v->R (zQ W) [] d v/\∀X h q,Own W (zQ W) [] X h q d v):
  Calls P N vs W fun e W'=>e= .returned (.bool true)/\Below W.heap.size W W':=by
 refine(hct.2 W ⟨zQ W,fun _=>none, [], []⟩ vs hl rfl ⟨fun b o c h=>h,fun b t h=>by simp at h,fun t=>?_,rfl,fun n b cs h=>by simp at h,rfl,fun n b cs h=>by simp at h⟩).mono ?_
 .show SlotOk W _ t (fY ds t) (cS vs t)
  cases hd:ds[t]? with
  | none=>
   simp only [fY,hd];exact⟨.any _,.flat _ _ _ rfl⟩
  | some d=>
   have hlt:t<vs.size:=by rw [hl];exact(aO.1 hd).1
   have hv:vs[t]?=some vs[t]:=bO hlt;have hvv:cS vs t=vs[t]:=by simp [cS,hlt]
   rw [vU hd,hvv];obtain⟨h1,h2⟩:=ha t d _ hd hv;exact⟨h1,h2 _ _ _⟩
 rintro e W' ⟨r,σ',x,g',rfl,rfl,_,hf,hok⟩;have hs:=hok.slot 0;have hs':R g'.M g'.bs (.bool true) x:=hs.1;exact⟨by rw [hs'.vEq],hf.os,hf.tape,hf.output,hf.size,fun k hk=>(hf.keep k hk rfl).1⟩
end
end Go.Vm
