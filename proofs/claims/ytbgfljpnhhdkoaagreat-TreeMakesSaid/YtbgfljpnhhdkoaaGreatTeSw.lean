import Derived.Test.YtbgfljpnhhdkoaaGreatWkTe7
import Derived.Test.YtbgfljpnhhdkoaaGreatWkDr3
set_option maxHeartbeats 8000000
set_option linter.all false
set_option maxRecDepth 20000
open Go.Proofs.Tryz
namespace Go.Proofs.YtbgfljpnhhdkoaaGreat
open Go Go.Vm
variable {v:VN}{x:RD}
theorem Uo:∀ {ks:List VN} {i par:Int} {n:ND},n∈nZ i par ks->∃k∈ks,∃i',n∈jA i' par k
 | [],i,par,n,h=>by cases h
 | k::ks,i,par,n,h=>by
  rw [tE] at h;rcases bT.1 h with h | h
  .exact⟨k,dH,i,h⟩
  obtain⟨k2,h1,h2⟩:=Uo h;exact⟨k2,eV _ h1,h2⟩
theorem Ej {P:ND->Prop} (hP:∀w i par,NV w->P (wT i par w (iD (i+1) w.kids))):∀ {v:VN},NN v->∀ {i par:Int} {n:ND},n∈jA i par v->P n
 | v,hv,i,par,n,h=>by
  rw [nE] at h;rcases bM.1 h with rfl | h
  .exact hP v i par hv.v
  obtain⟨k,hk,i',h⟩:=Uo h;exact Ej hP (hv.k k hk) h
termination_by v=>cB v
decreasing_by
 have:=dQ hk;omega
theorem aUw(w:VN)(i par:Int)(ks:List Int)(h:NV w):NmOk (wT i par w ks):=by
 unfold wT;split
 .exact⟨by simp,by simp,by simp⟩
 rename_i he;have hn:=(h.e2 he).2.1;unfold fK qX at hn;exact⟨fun c hc=>hn c (by simp [hc]),fun p hp=>hn _ (by simp only [bT,aV];exact .inl (.inr ⟨p,hp,rfl⟩)),fun p hp=>hn _ (by simp only [bT,aV];exact .inr ⟨p,hp,rfl⟩)⟩
structure Up(x:RD):Prop where
 lt:∀n∈x.l,n.ID<x.next
 up:∀n∈x.l,∀c∈n.kids,n.ID<c
 nm:NmsOk x
 pos:0<x.next
theorem Up.fd (h:Up x):∀id,∀c∈(aJ x.l id).kids,id<c:=fun id c hc=>by
 by_cases hl:fP x.l id=true
 .obtain⟨n,n1,n2,n3⟩:=eX hl;rw [n3] at hc;rw [<- n2];exact h.up n n1 c hc
 unfold aJ at hc;unfold fP at hl;rw [show kU x.l id=none by simpa using hl] at hc;cases hc
theorem Up.new(most:Int):Up (newX most):=⟨fun n hn=>by simp [newX] at hn;subst hn;show(0:Int)<1;decide,fun n hn=>by simp [newX] at hn;subst hn;simp [oA],NmsOk.new most,by simp [newX]⟩
def sZ(x:RD)(v:VN):RD:=⟨x.most,x.next+cB v,x.l++jA x.next (-1) v⟩
theorem Up.grow (h:Up x) (hv:NN v):Up (sZ x v):=by
 have hc:=jV v;refine⟨fun n hn=>?_,fun n hn=>?_,fun n hn=>?_,?_⟩
 .rcases bT.1 hn with hn | hn
  .have:=h.lt n hn;show n.ID<x.next+cB v;omega
  exact(Gr hn).2
 .rcases bT.1 hn with hn | hn
  .exact h.up n hn
  refine Ej (P:=fun n=>∀c∈n.kids,n.ID<c) (fun w i par _ c hc=>?_) hv hn;rw [wU] at hc;rw [kH];have:=aCk _ _ c hc;omega
 .rcases bT.1 hn with hn | hn
  .exact h.nm n hn
  exact Ej (P:=NmOk) (fun w i par hw=>aUw w i par _ hw) hv hn
 have:=h.pos;show 0<x.next+cB v;omega
def hdV(v:VN)(j:Nat):VN:= { v with kids:=v.kids.take j }
theorem NN.hdV (h:NN v)(j:Nat):NN (hdV v j):= .mk _ ⟨h.v.c4,h.v.a4,h.v.s4,h.v.cl,h.v.sa,h.v.ss,h.v.av,fun e=>⟨by show v.kids.take j= [];rw [(h.v.t1 e).1];simp,(h.v.t1 e).2⟩,h.v.e2⟩ fun k hk=>h.k k (mD hk)
def stX(x:RD)(v:VN)(j:Nat):RD:=⟨x.most,pB x.next v j,Mr x.l x.next (-1) v j⟩
theorem aAp(x:RD)(v:VN)(j:Nat):stX x v j=sZ x (hdV v j):=by
 unfold stX sZ;have e1:pB x.next v j=x.next+(cB (hdV v j):Nat):=by
  rw [jC];unfold pB vY hdV;simp only [];omega
 have e2:Mr x.l x.next (-1) v j=x.l++jA x.next (-1) (hdV v j):=by
  rw [nE];rfl
 rw [e1,e2]
theorem aRs(x:RD)(v:VN):stX x v v.kids.length=sZ x v:=by
 rw [aAp];unfold hdV;rw [dY];cases v;rfl
theorem Up.st (h:Up x) (hv:NN v)(j:Nat):Up (stX x v j):=by rw [aAp];exact h.grow (hv.hdV j)
theorem Oh {α:Type} {Inv:Nat->α->Prop} {Rel:Nat->α->α->Prop} (N:Nat)(s0:α)(h0:Inv 0 s0)(step:∀j,j<N->∀s,Inv j s->∃s',Rel j s s'/\Inv (j+1) s'):
  ∃S:Nat->α,S 0=s0/\(∀j,j<=N->Inv j (S j))/\∀j,j<N->Rel j (S j) (S (j+1)):=by
 classical
 let S:Nat->α:=fun n=>Nat.rec s0 (fun j s=>if h:j<N/\Inv j s then Classical.choose (step j h.1 s h.2)else s) n
 have hS:∀j,(h:j<N/\Inv j (S j))->S (j+1)=Classical.choose (step j h.1 (S j) h.2):=fun j h=>dif_pos h;have hI:∀j,j<=N->Inv j (S j):=by
  intro j;induction j with
  | zero=>intro _;exact h0
  | succ j ih=>
   intro hj;have hij:=ih (by omega);rw [hS j ⟨by omega,hij⟩];exact(Classical.choose_spec (step j (by omega) (S j) hij)).2
 refine⟨S,rfl,hI,fun j hj=>?_⟩;have hij:=hI j (by omega);rw [hS j ⟨hj,hij⟩];exact(Classical.choose_spec (step j hj (S j) hij)).1
section
variable {k m M l:Nat}{d d' d2:DS}{rk rk':Int->Nat}{σ σ2 σ3:List (List D)}{y:RD}{ops:List TOp}
theorem LX.off_ge(h:LX k m M l d rk x ops σ) {p:Nat} (hp:σ.length<=p):Off m d p/\p≠l:=by
 have hd:=h.ix.iv.ho;refine⟨⟨fun e=>?_,fun e he e2=>?_⟩,fun e=>?_⟩
 .have:=pY hd.hm;omega
 .have:=pY (hd.hn e he);omega
 have:=pY h.at_;omega
theorem LX.to {j:Nat} (h:LX k m M l d rk x ops σ)(hk:k<=j):LX j m M l d rk x ops σ:=by
 have:=h.up_ (j - k);rw [show k+(j - k)=j by omega] at this;exact this
theorem Oth.set_ge {L:Nat->Prop} (h:Oth m L d d' σ σ2) {q:Nat} (hq:σ.length<=q)(c:List D):Oth m L d d' σ (σ2.set q c):=
 ⟨by rw [cK];exact h.1,fun i hi ho hl=>⟨(h.2 i hi ho hl).1,by rw [eR (by omega)];exact(h.2 i hi ho hl).2⟩⟩
structure GS where
 d:DS
 rk:Int->Nat
 ops:List TOp
 σ:List (List D)
 ql:List Nat
 a:List (List D)
 q:Nat
 ks:List Nat
structure GI(k m M l:Nat)(d:DS)(σ:List (List D))(x:RD)(v:VN)(j:Nat)(s:GS):Prop where
 lx:LX (k+15+16 * vY v j) m M l s.d s.rk (stX x v j) s.ops s.σ
 oth:Oth m (· =l) d s.d σ s.σ
 off:Off m s.d σ.length
 at_:s.σ[σ.length]?=some (jG x.next v (.v (.pointer none)) s.ql)
 ko:KidsOk s.σ (fun p=>(σ.length<=p/\p<s.σ.length/\Off m s.d p/\p≠l)/\σ.length<p) x.next v σ.length s.ql j
structure GR(l:Nat)(q0:Nat)(x:RD)(v:VN)(j:Nat)(hj:j<v.kids.length)(s s':GS):Prop where
 gr:Ct prog 93 [.ref l 0,iX v.kids[j]] s.σ (fun r τ=>r= .ref s'.q 0/\τ=s'.a)
 a1:s'.a[q0]?=some (jG x.next v (.v (.pointer none)) s.ql)
 a2:s'.q≠q0
 a3:s'.a[s'.q]?=some (jG (pB x.next v j) v.kids[j] (.v (.pointer none)) s'.ks)
 ql:s'.ql=s.ql++ [s'.q]
 ins:Ct prog 64 [.ref l 0,D.int x.next,D.int j,D.int (pB x.next v j)] ((s'.a.set s'.q (jG (pB x.next v j) v.kids[j] (.ref q0 0) s'.ks)).set q0 (jG x.next v (.v (.pointer none)) s'.ql)) (fun r τ=>r=D.int 0/\τ=s'.σ)
def aS0(k m M l:Nat)(d:DS)(σ:List (List D))(x:RD)(v:VN):Prop:=
 ∃d' rk' ops' σ',Ct prog 93 [.ref l 0,iX v] σ (fun r τ=>r= .ref σ.length 0/\τ=σ')/\LX (k+(16 * cB v - 1)) m M l d' rk' (sZ x v) ops' σ'/\Oth m (· =l) d d' σ σ'/\ItOk σ' (fun p=>σ.length<=p/\p<σ'.length/\Off m d' p/\p≠l) x.next v (.v (.pointer none)) σ.length
theorem aF2 (hv:NN v)(hu:Up x)(hk:k+16 * cB v<=780)(j:Nat)(hj:j<v.kids.length)(s:GS)(h:GI k m M l d σ x v j s)
  (ih:aS0 (k+15+16 * vY v j) m M l s.d s.σ (stX x v j) v.kids[j]):∃s',GR l σ.length x v j hj s s'/\GI k m M l d σ x v (j+1) s':=by
 obtain⟨d1,rk1,ops1,a,c1,lx1,o1,it1⟩:=ih;obtain⟨ks,hks,it2⟩:=it1.par_ (.ref σ.length 0);have hcj:=jV v.kids[j];have hsu:=yN v j hj;have hsl:=Jh v (j+1);have hq:=pY h.at_;have hql:=h.lx.off_ge (aW _);have hnl:σ.length≠l:=fun e=>by have:=pY h.lx.at_;have h2:=h.at_;rw [e,h.lx.at_] at h2;simp [pC,jG] at h2
 have oq:=o1.2 σ.length hq h.off hnl;obtain⟨f1, -,f2,f3⟩:=it1.F_;have ha:=o1.1
 -- the state ahead of the insert
 have lx2:=(lx1.put_ f2 f3 (jG (pB x.next v j) v.kids[j] (.ref σ.length 0) ks)).put_ oq.1 hnl (jG x.next v (.v (.pointer none)) (s.ql++ [s.σ.length]));have hA:∀n∈x.l,n.ID<x.next:=hu.lt;obtain⟨i1,i2⟩:=Wa (par:= -1) (v:=v) (j:=j) hA (jA (pB x.next v j) (-1) v.kids[j]);obtain⟨i3,i4⟩:=Uw (par:= -1) hA hj;have hup:=((hu.st hv j).grow (hv.k _ (bS hj))).fd;have hne:¬v.kind=1:=fun e=>by rw [(hv.v.t1 e).1] at hj;simp at hj
 have hpos:=hu.pos;obtain⟨d3,rk3,ops3,τ,c2,lx3,o3⟩:=aU3 lx2 (by omega) x.next j (pB x.next v j) i2 i4 (by
   show(aJ (Mr x.l x.next (-1) v j++jA (pB x.next v j) (-1) v.kids[j]) x.next).kind=2
   rw [i1];unfold wT;rw [aD hne]) (by unfold pB;omega) (by
   show(aJ (Mr x.l x.next (-1) v j++jA (pB x.next v j) (-1) v.kids[j]) (pB x.next v j)).parent<0
   rw [i3,aP9];decide) (by rw [<- aXo lx2.ix];exact aE7 hup _ (by unfold pB;omega)) (by
   show j<=(aJ (Mr x.l x.next (-1) v j++jA (pB x.next v j) (-1) v.kids[j]) x.next).kids.length
   rw [i1,wU,pQ,bG];omega)
 have hx3:aI7 (sZ (stX x v j) v.kids[j]) x.next j (pB x.next v j)=stX x v (j+1):=by
  have:=aLp (A:=x.l) (i:=x.next) (par:= -1) (v:=v) (j:=j) (mo:=x.most) (nx:=pB x.next v j+cB v.kids[j]) hA hj;unfold sZ stX;rw [show pB x.next v (j+1)=pB x.next v j+(cB v.kids[j]:Nat) by unfold pB;rw [hsu];omega];exact this
 rw [hx3] at lx3;have hbl:((a.set s.σ.length (jG (pB x.next v j) v.kids[j] (.ref σ.length 0) ks)).set σ.length (jG x.next v (.v (.pointer none)) (s.ql++ [s.σ.length]))).length=a.length:=by rw [cK,cK]
 have o3l:=o3.1;rw [hbl] at o3l
 -- what stands of what there was
 have keep:∀p,p<s.σ.length->p≠σ.length->Off m s.d p->p≠l->Off m d3 p/\τ[p]?=s.σ[p]?:=fun p hp hpq ho hpl=>by
  obtain⟨u1,u2⟩:=o1.2 p hp ho hpl;obtain⟨u3,u4⟩:=o3.2 p (by rw [hbl];omega) u1 hpl;refine⟨u3,?_⟩;rw [u4,eR (by omega),eR (by omega),u2]
 have keep2:∀p,p<a.length->p≠σ.length->Off m d1 p->p≠l->Off m d3 p/\τ[p]?=(a.set s.σ.length (jG (pB x.next v j) v.kids[j] (.ref σ.length 0) ks))[p]?:=fun p hp hpq ho hpl=>by
  obtain⟨u3,u4⟩:=o3.2 p (by rw [hbl];omega) ho hpl;refine⟨u3,?_⟩;rw [u4,eR (by omega)]
 have ot:=o3.2 σ.length (by rw [hbl];omega) oq.1 hnl;refine⟨⟨d3,rk3,ops3,τ,s.ql++ [s.σ.length],a,s.σ.length,ks⟩,⟨c1,by rw [oq.2];exact h.at_,by show s.σ.length≠σ.length;omega,hks,rfl,c2⟩,⟨lx3.to (by omega),?_,ot.1,?_,?_⟩⟩
 .have:=((h.oth.trans o1).set_ge (Nat.le_of_lt hq) (jG (pB x.next v j) v.kids[j] (.ref σ.length 0) ks)).set_ge (aW _) (jG x.next v (.v (.pointer none)) (s.ql++ [s.σ.length]));exact this.trans o3
 .rw [ot.2];exact aM (by rw [eR (by omega),oq.2];exact h.at_) _
 refine(h.ko.frame fun p hp=>?_).snoc hj (it2.frame fun p hp=>?_)
 .obtain⟨⟨p1,p2,p3,p4⟩,p5⟩:=hp;obtain⟨u1,u2⟩:=keep p p2 (by omega) p3 p4;exact⟨⟨⟨p1,by show p<τ.length;omega,u1,p4⟩,p5⟩,u2⟩
 obtain⟨p1,p2,p3,p4⟩:=hp;obtain⟨u1,u2⟩:=keep2 p p2 (by omega) p3 p4;exact⟨⟨⟨by omega,by show p<τ.length;omega,u1,p4⟩,by omega⟩,u2⟩
theorem aPk {n:ND} {i:Int} (hv:NV v)(he:¬v.kind=1)(h1:n.kind=2)(h0:¬i=0):Mz n true i (qX v)=0:=by
 unfold Mz;rw [aD (by simp),aD h0,aD (by rw [h1];simp),aD];rw [zV,qI];intro s hs;rw [(hv.e2 he).2.1 s hs];simp
theorem Ng {n:ND} {o:OW} (hc:n.classes= [])(ha:n.attrs= [])(hs:n.styles= []):(jW n o).length<=o.classes.length+o.attrs.length+o.styles.length:=by
 unfold jW;have h1:=Vo n.classes o.classes;have h2:=nL o.classes;have h3:=yP nA Aj n.attrs o.attrs;have h4:=yP nP Dm n.styles o.styles;rw [hc] at h1 |-;rw [ha] at h3 |-;rw [hs] at h4 |-;have h5:(bU []).length=0:=rfl;simp at h1 h3 h4 |-;omega
theorem aKk (hv:NV v)(he:¬v.kind=1):∀s∈fK (qX v),s.size<=9223372036854775807:=fun s hs=>by
 have:=Gk ((hv.e2 he).2.1 s hs);omega
theorem aEx (hv:NV v)(h:LX k m M l d rk x ops σ)(hu:Up x)(hk:k+15<=780)(hr:(x.l.length:Int)<=x.most):
  ∃s1 d' rk' ops' σ',(v.kind=1->Ct prog 177 [.ref l 0,D.str v.text] (σ++ [pV]) (fun r τ=>r= .tup [D.int x.next,D.int 0]/\τ=s1))/\(¬v.kind=1->Ct prog 178 [.ref l 0,D.str v.tag] (σ++ [pV]) (fun r τ=>r= .tup [D.int x.next,D.int 0]/\τ=s1))/\s1[σ.length]?=some pV/\
   Ct prog 32 [.ref σ.length 0,.ref l 0] (s1.set σ.length (jG x.next v (.v (.pointer none)) [])) (fun r τ=>r= .tup []/\τ=σ')/\LX (k+15) m M l d' rk' (stX x v 0) ops' σ'/\Oth m (· =l) d d' σ σ'/\Off m d' σ.length/\σ'[σ.length]?=some (jG x.next v (.v (.pointer none)) [])/\σ.length<σ'.length:=by
 obtain⟨q1,q2⟩:=h.off_ge (aW _);have l0:=h.app_ [pV];have o0:Oth m (· =l) d d σ (σ++ [pV]):=⟨by simp,fun i hi ho _=>⟨ho,bC hi⟩⟩;have g0:(σ++ [pV])[σ.length]?=some pV:=by simp
 have hl0:(σ++ [pV]).length=σ.length+1:=by simp
 have hst:stX x v 0=⟨x.most,x.next+1,x.l++ [wT x.next (-1) v []]⟩:=by
  unfold stX;rw [aWf];show RD.mk x.most (x.next+1+((0:Nat):Int)) _=_
  rw [show x.next+1+((0:Nat):Int)=x.next+1 by omega]
 by_cases he:v.kind=1
 .obtain⟨d1,rk1,ops1,s1,c1,x1,o1⟩:=aWc l0 (by omega) v.text hr;obtain⟨p1,p2⟩:=o1.2 σ.length (by omega) q1 q2;have hx:Ik x 1 v.text=stX x v 0:=by
   rw [hst];unfold Ik gV wT;rw [aK he];rfl
  rw [hx] at x1;have o1l:=o1.1;rw [hl0] at o1l;have x2:=x1.put_ p1 q2 (jG x.next v (.v (.pointer none)) []);refine⟨s1,d1,rk1,ops1,_,fun _=>c1,fun e=>absurd he e,p2.trans g0,aHa σ.length l v ⟨0,0,0,0⟩ x.next _ _ _ _ _ _ _ _ _ _ (aM (p2.trans g0) _) he,x2.to (by omega),(o0.trans o1).set_ge (aW _) _,p1,aM (p2.trans g0) _,?_⟩;rw [cK];omega
 obtain⟨t1,t2,t3⟩:=hv.e2 he;obtain⟨d1,rk1,ops1,s1,c1,x1,o1⟩:=aXt l0 (by omega) v.tag (by have:=Gk t1;omega) t1 hr;obtain⟨p1,p2⟩:=o1.2 σ.length (by omega) q1 q2;have o1l:=o1.1;rw [hl0] at o1l;have x2:=x1.put_ p1 q2 (jG x.next v (.v (.pointer none)) []);have hA:∀n∈x.l,n.ID≠x.next:=fun n hn=>by have:=hu.lt n hn;omega
 have hf:aJ (x.l++ [gV x.next 2 v.tag]) x.next=gV x.next 2 v.tag/\fP (x.l++ [gV x.next 2 v.tag]) x.next=true:=Jk (n:=gV x.next 2 v.tag) hA;have hfx:aJ (Ik x 2 v.tag).l x.next=gV x.next 2 v.tag:=hf.1;have hix:fP (Ik x 2 v.tag).l x.next=true:=hf.2;have hpos:=hu.pos;have hnm:NmsOk (Ik x 2 v.tag):=fun n hn=>by
  rcases bT.1 hn with hn | hn
  .exact hu.nm n hn
  have:n=gV x.next 2 v.tag:=by simpa using hn
  subst this;exact⟨by simp [gV],by simp [gV],by simp [gV]⟩
 have hdl:=Ng (n:=gV x.next 2 v.tag) (o:=qX v) rfl rfl rfl;have c4:=hv.c4;have a4:=hv.a4;have s4:=hv.s4;have hdl2:(jW (gV x.next 2 v.tag) (qX v)).length<=12:=by
  refine lM hdl ?_;show v.classes.length+v.attrs.length+v.styles.length<=12
  omega
 obtain⟨d2,rk2,ops2,s2,c2,x3,o2⟩:=aP2 x2 x.next (qX v) (by rw [hfx];omega) (by show v.classes.length<=8;omega) (by show v.attrs.length<=8;omega) (by show v.styles.length<=8;omega) (aKk hv he) (fun p hp=>by have:=hv.av p hp;omega) (hv.ow he) hnm (by rw [hfx,hix];exact aPk hv he rfl (by omega)) (by rw [hfx];rfl);rw [hfx] at x3;have hx:(⟨(Ik x 2 v.tag).most,(Ik x 2 v.tag).next,dK (Ik x 2 v.tag).l (Vi (gV x.next 2 v.tag) (qX v))⟩:RD)=stX x v 0:=by
  rw [hst];show RD.mk x.most (x.next+1) (dK (x.l++ [gV x.next 2 v.tag]) _)=_
  rw [xQ,tJ fun n hn=>hA n hn,yG,aK (show(gV x.next 2 v.tag).ID=(Vi (gV x.next 2 v.tag) (qX v)).ID from rfl)];unfold Vi wT gV qX;rw [aD he,hv.cl];rfl
 rw [hx] at x3;obtain⟨p3,p4⟩:=o2.2 σ.length (by rw [cK];omega) p1 q2;have o2l:=o2.1;rw [cK] at o2l;rw [aM (p2.trans g0)] at p4;refine⟨s1,d2,rk2,ops2,s2,fun e=>absurd e he,fun _=>c1,p2.trans g0,aFd σ.length l v ⟨0,0,0,0⟩ x.next _ _ _ _ _ _ _ _ _ s2 _ (aM (p2.trans g0) _) (by omega) (by omega) (by omega) he (by rw [hv.put];exact c2),x3.to (by omega),((o0.trans o1).set_ge (aW _) _).trans o2,p3,p4,by omega⟩
theorem Xe:∀(v:VN),NN v->∀ {k:Nat} {d:DS} {rk:Int->Nat} {x:RD} {ops:List TOp} {σ:List (List D)},LX k m M l d rk x ops σ->Up x->k+16 * cB v<=780->(x.l.length:Int)+cB v<=x.most+1->aS0 k m M l d σ x v
 | v, hv, k, d, rk, x, ops, σ, h, hu, hk, hr => by
  have hcv:=jV v;obtain⟨s1,d0,rk0,ops0,σ0,c1,c2,e1,c3,lx0,o0,f0,g0,l0⟩:=aEx hv.v h hu (by omega) (by omega);obtain⟨S,S0,hI,hR⟩:=Oh (Inv:=GI k m M l d σ x v) (Rel:=fun j s s'=>∃hj,GR l σ.length x v j hj s s') v.kids.length ⟨d0,rk0,ops0,σ0, [], [],0, []⟩ ⟨lx0,o0,f0,g0,.zero ..⟩ fun j hj s hs=>by
   have hck:=dQ (bS hj);have hsl:=Jh v (j+1);have hsu:=yN v j hj;obtain⟨s',r1,r2⟩:=aF2 hv hu hk j hj s hs (Xe v.kids[j] (hv.k _ (bS hj)) hs.lx (hu.st hv j) (by omega) (by
    show((Mr x.l x.next (-1) v j).length:Int)+_<=x.most+1
    have hl:(stX x v j).l=x.l++jA x.next (-1) (hdV v j):=by rw [aAp];rfl
    rw [show Mr x.l x.next (-1) v j=x.l++jA x.next (-1) (hdV v j)from hl,aZ,Pm];have:cB (hdV v j)=1+vY v j:=by rw [jC];rfl
    omega))
   exact⟨s',⟨hj,r1⟩,r2⟩
  have hql:∀j,j<=v.kids.length->(S j).ql=qsl (fun j=>(S (j+1)).q) j:=by
   intro j;induction j with
   | zero=>intro _;rw [S0];rfl
   | succ j ih=>
    intro hj;obtain⟨hj2,r⟩:=hR j (by omega);rw [r.ql,ih (by omega),Kp]
  have fin:=hI v.kids.length (aW _);refine⟨(S v.kids.length).d,(S v.kids.length).rk,(S v.kids.length).ops,(S v.kids.length).σ,?_,?_,fin.oth,?_⟩
  .refine aI3 l σ.length v x.next s1 (fun j=>(S j).σ) (fun j=>(S (j+1)).a) (fun j=>(S (j+1)).q) (pB x.next v) (fun j=>(S (j+1)).ks) σ rfl c1 c2 e1 ?_ (by omega) (fun j hj=>?_) (fun j hj=>?_) (fun j hj=>?_) fun j hj=>?_
   .show Ct _ _ _ _ (fun r τ=>r= .tup []/\τ=(S 0).σ)
    rw [S0];exact c3
   .rw [<- hql j hj];exact(hI j hj).at_
   .obtain⟨hj2,r⟩:=hR j hj;exact r.gr
   .obtain⟨hj2,r⟩:=hR j hj;exact⟨by rw [<- hql j (by omega)];exact r.a1,r.a2,r.a3⟩
   obtain⟨hj2,r⟩:=hR j hj;rw [<- hql (j+1) hj];exact r.ins
  .have:=fin.lx;rw [aRs] at this;have hs:=Uz v;exact this.to (by omega)
  refine(fin.ko.frame fun p hp=>⟨hp,rfl⟩).done ⟨aW _,pY fin.at_,fin.off,?_⟩ fin.at_;exact(h.off_ge (aW _)).2
termination_by v=>cB v
decreasing_by
 have:=dQ (bS hj);omega
end
theorem Of(most:Int)(σ:List (List D))  :Ct prog 28 [D.int most] σ (fun r σ'=>∃m M l d rk,r= .ref l 0/\LX 0 m M l d rk (newX most) [] σ'):=by
 refine zf func28 ?_;refine bB fun _ _ Z=>?_;simp;apply Z;refine bB fun _ _ Z=>?_;refine zs 1 fun _ Y=>?_;simp;apply Y;refine aF fun _ Y=>?_;simp;refine Mo (aPf most _) ?_;rintro _ τ0 ⟨hr9,hs9⟩;subst hr9;obtain⟨m,M,dd,rk0,hm0,hx0,hi0⟩:=aT8 _ _ _ hs9;rw [hm0];clear hs9 hm0;apply Y;simp;apply Z;apply aE;refine bB fun _ _ Z=>?_;simp;apply Z;refine zI ?_ ?_<;>intro c1<;>try simp at c1
 apply zA;refine bB fun _ _ Z=>?_;refine zs 1 fun _ Y=>?_;simp;apply Y;refine aF fun _ Y=>?_;simp;refine cT (aTe m _) ?_;apply Y;simp;apply Z;apply aC;simp [aH];exact⟨m,M,dd,rk0,LX.on hi0⟩
theorem aLt(k m M l:Nat)(d:DS)(rk:Int->Nat)(x:RD)(ops:List TOp)(v:VN)(σ:List (List D))(h:LX k m M l d rk x ops σ)(hk:k<=800)(hv:VG v)(hc:cB v<=9999)(hcn:cB (cZ v)<=9999)(hr:d.most - ((d.es.length:Int) - 1)<cB (cZ v)):Ct prog 30 [.ref l 0,iX v] σ (fun r σ'=>r= .tup [.v (.pointer none),D.int 8]/\σ'=σ):=by
 refine zf func30 ?_;have hg:=h.at_;obtain⟨b1,b2,b3⟩:=h.ix.iv.bounds (by omega);refine bB fun _ _ Z=>?_;simp[hg];apply Z;refine bB fun _ _ Z=>?_;refine zs 1 fun _ Y=>?_;simp[hg];apply Y;refine aF fun _ Y=>?_;simp[hg];refine cT (Rp v hv hc _) ?_;apply Y;simp[hg];apply Z;apply aE;refine zd ⟨[],[],[],[],[]⟩ [.op {},.op {},.op {},.op {rO:=true},.read,.op {rL:=true},.read,.op {}] fun all hall _ Z=>?_;refine kF 4 fun _ Y=>?_;simp[hg];apply Y;refine bY fun _ Y=>?_;simp[hg];refine zdr (Da m M d _ h.ix.iv.ho (by omega) (by omega)) ?_;apply Y;refine kF 1 fun _ Y=>?_;simp[hg];apply Y;refine bY fun _ Y=>?_;simp[hg];refine zdr (aCa (cZ v) _ hcn) ?_;apply Y;simp[hg];apply Z;refine zI ?_ ?_<;>intro c1<;>try simp at c1
 .refine zk [0,3,4,5] ?_;refine bB fun _ _ Z=>?_;simp[hg];apply Z;apply aC;simp [aH]
 omega
theorem aKq(k m M l:Nat)(d:DS)(rk:Int->Nat)(x:RD)(ops:List TOp)(v:VN)(q:Nat)(σ2:List (List D))(σ:List (List D))(h:LX k m M l d rk x ops σ)(hk:k<=800)(hv:VG v)(hc:cB v<=9999)(hcn:cB (cZ v)<=9999)(hr:¬d.most - ((d.es.length:Int) - 1)<cB (cZ v))(hG:Ct prog 93 [.ref l 0,iX (cZ v)] σ (fun r τ=>r= .ref q 0/\τ=σ2)):Ct prog 30 [.ref l 0,iX v] σ (fun r σ'=>r= .tup [.ref q 0,D.int 0]/\σ'=σ2):=by
 refine zf func30 ?_;have hg:=h.at_;obtain⟨b1,b2,b3⟩:=h.ix.iv.bounds (by omega);refine bB fun _ _ Z=>?_;simp[hg];apply Z;refine bB fun _ _ Z=>?_;refine zs 1 fun _ Y=>?_;simp[hg];apply Y;refine aF fun _ Y=>?_;simp[hg];refine cT (Rp v hv hc _) ?_;apply Y;simp[hg];apply Z;apply aE;refine zd ⟨[],[],[],[],[]⟩ [.op {},.op {},.op {},.op {rO:=true},.read,.op {rL:=true},.read,.op {}] fun all hall _ Z=>?_;refine kF 4 fun _ Y=>?_;simp[hg];apply Y;refine bY fun _ Y=>?_;simp[hg];refine zdr (Da m M d _ h.ix.iv.ho (by omega) (by omega)) ?_;apply Y;refine kF 1 fun _ Y=>?_;simp[hg];apply Y;refine bY fun _ Y=>?_;simp[hg];refine zdr (aCa (cZ v) _ hcn) ?_;apply Y;simp[hg];apply Z;refine zI ?_ ?_<;>intro c1<;>try simp at c1
 .omega
 apply zA;refine zk [0,3,4,5] ?_;refine bB fun _ _ Z=>?_;refine zs 2 fun _ Y=>?_;simp[hg];apply Y;refine aF fun _ Y=>?_;simp[hg];refine cT (hG) ?_;apply Y;simp[hg];apply Z;apply aC;simp [aH]
section
variable {k m M l:Nat}{d d' d2:DS}{rk rk':Int->Nat}{σ σ2 σ3:List (List D)}{y:RD}{ops:List TOp}
theorem LX.rd(h:LX k m M l d rk x ops σ)(hk:k<=800) {f:Nat} {i:Int} (hf:rk i<=f)(hi:fP x.l i=true):aBy m i (oC x.l f i) σ:=by
 have e:∀f i,oC x.l f i=oC d.l f i:=by
  intro f;induction f with
  | zero=>intro i;simp only [oC,aEi h.ix]
  | succ f ih=>intro i;simp only [oC,aEi h.ix];congr 1;exact cW fun c _=>ih c
 rw [e];exact aC0 h.ix.iv.ho (h.ix.iv.ip.NB (by omega)) h.ix.iv.wt f i hf (by rw [<- aXw h.ix];exact hi)
theorem aSh:∀(t:TN),TB (Au t)->TB t
 | t,h=>by
  have hs:=h.s;have hk:=h.k;rw [yJ] at hs hk;refine .mk t ⟨hs.1,hs.2.1,hs.2.2.1,by have:=hs.2.2.2;simpa using this⟩ fun k hkm=>aSh k (hk _ (yY hkm))
termination_by t=>rV t
decreasing_by
 have:=uL hkm;omega
theorem aN4:∀(v:VN),VB v->TB (Rq v)
 | v,h=>by
  obtain⟨a,b,c,e, -⟩:=h.s;rw [Tl];split
  .exact .mk _ ⟨by simp,by simp,by simp,by simp⟩ fun k hk=>by cases hk
  refine .mk _ ⟨a,b,c,by simpa using e⟩ fun k hk=>?_;obtain⟨z,hz,rfl⟩:=aV.1 hk;exact aN4 z (h.k z hz)
termination_by v=>cB v
decreasing_by
 have:=dQ hz;omega
theorem LX.room(h:LX k m M l d rk x ops σ):d.most - ((d.es.length:Int) - 1)=x.most - ((x.l.length:Int) - 1):=by
 have h1:=h.ix.xp.most;have h2:=h.ix.xp.len;have h3:d.x.l=d.l:=rfl;have h4:=Ai d;have h5:d.x.most=d.most:=rfl;rw [h1,h2,h3,h4,h5]
theorem Ve(h:LX k m M l d rk x ops σ)(hu:Up x) (hg:VG v)(hm:GV v)(hc:cB v<=25)(hk:k<=300)(hr:(x.l.length:Int)+cB (cZ v)<=x.most+1):
  ∃d' rk' ops' σ',Ct prog 30 [.ref l 0,iX v] σ (fun r τ=>r= .tup [.ref σ.length 0,D.int 0]/\τ=σ')/\LX (k+400) m M l d' rk' (sZ x (cZ v)) ops' σ'/\ItOk σ' (fun p=>σ.length<=p/\p<σ'.length/\Off m d' p/\p≠l) x.next (cZ v) (.v (.pointer none)) σ.length:=by
 have hn:=Ca v;obtain⟨d',rk',ops',σ',c1,lx, -,it⟩:=Xe (cZ v) (Tm hg hm) h hu (by omega) (by omega);exact⟨d',rk',ops',σ',aKq k m M l d rk x ops v σ.length σ' σ h (by omega) hg (by omega) (by omega) (by rw [h.room];omega) c1,lx.to (by omega),it⟩
end
def awK:VN:=⟨1,⟨#[]⟩,⟨#[]⟩,⟨#[97]⟩, [], [], [],⟨0,0,0,0,false,false⟩, []⟩
def Pa:VN:=⟨2,⟨#[117,108]⟩,⟨#[]⟩,⟨#[]⟩, [], [], [],⟨0,0,0,0,false,false⟩, [awK]⟩
theorem aXd:cZ awK=awK:=by rw [lC];rfl
theorem aSq:cZ Pa=Pa:=by
 rw [lC];show({ Pa with classes:=bU [],attrs:=iC nA [],styles:=iC nP [],kids:=gW (([awK].map cZ).filter jH) } :VN)=Pa
 rw [cC,aXd,kP,qC (by decide+kernel),lP];rfl
theorem aIs:cB Pa=2:=by
 rw [jC];show 1+([awK].map cB).sum=2
 have:cB awK=1:=by rw [jC];rfl
 simp [this]
theorem aWu:VG Pa:=by
 refine .mk _ (by decide+kernel) fun k hk=>?_;obtain rfl:k=awK:=by simpa [Pa] using hk
 exact .mk _ (by decide+kernel) fun k hk=>by cases hk
theorem aWg:GV Pa:=by
 refine .mk _ (.inr ⟨by decide,by decide,by decide+kernel,by simp [fK,qX,Pa],by simp [Pa]⟩) fun k hk=>?_;obtain rfl:k=awK:=by simpa [Pa] using hk
 exact .mk _ (.inl ⟨rfl,rfl,rfl⟩) fun k hk=>by cases hk
theorem aRq {m M l:Nat} {d:DS} {rk:Int->Nat} {σ:List (List D)} (h:LX 0 m M l d rk (newX 9) [] σ):
  ∃d' rk' ops' σ' q p,Ct prog 30 [.ref l 0,iX Pa] σ (fun r τ=>r= .tup [.ref q 0,D.int 0]/\τ=σ')/\LX 400 m M l d' rk' (sZ (newX 9) Pa) ops' σ'/\σ'[q]?=some (jG 1 Pa (.v (.pointer none)) [p])/\σ'[p]?=some (jG 2 awK (.ref q 0) [])/\d'.es.length=3:=by
 obtain⟨d',rk',ops',σ',c1,lx,it⟩:=Ve h (Up.new 9) aWu aWg (by rw [aIs];omega) (by omega) (by rw [aSq,aIs];show(([oA].length:Nat):Int)+((2:Nat):Int)<=max 1 (min 9 65536)+1;decide);rw [aSq] at lx it;cases it with
 | mk _ _ _ _ _ qs hF hq hl hk =>
  match qs,hl with
  | [p], _ =>
   have h3:0<(iD ((newX 9).next+1) Pa.kids).length:=by rw [pQ];decide
   have hp:=hk 0 (by decide) (by show 0<1;decide) h3;cases hp with
   | mk _ _ _ _ _ qs2 hF2 hq2 hl2 hk2 =>
    have e2:qs2= []:=sB.1 hl2;subst e2;refine⟨d',rk',ops',σ',_,p,c1,lx,hq,hq2,?_⟩;have e1:=lx.ix.xp.len;have e3:(sZ (newX 9) Pa).l.length=3:=by
     show([oA]++jA (newX 9).next (-1) Pa).length=3
     rw [aZ,Pm,aIs];rfl
    have e4:d'.x.l=d'.l:=rfl;rw [e3,e4,Ai] at e1;exact e1.symm
theorem aZq:iX Pa= .agg [D.int 2,D.str ⟨#[117,108]⟩,D.str ⟨#[]⟩,D.str ⟨#[]⟩,.sl false [],.sl false [],.sl false [],D.int 0,D.int 0,D.int 0,D.int 0,D.bool false,D.bool false,.sl false [.agg [D.int 1,D.str ⟨#[]⟩,D.str ⟨#[]⟩,D.str ⟨#[97]⟩,.sl false [],.sl false [],.sl false [],D.int 0,D.int 0,D.int 0,D.int 0,D.bool false,D.bool false,.sl false []]]]:=by simp [Pa,awK]
theorem Zp  (σ:List (List D))  :Ct prog 26 [] σ (fun r σ'=>r= .bool true):=by
 refine zf func26 ?_;refine zr ⟨[],[],[],[],[66]⟩ fun _ _ Z=>?_;simp[gC,aT];apply Z;refine zr ⟨[],[],[],[],[66]⟩ fun _ _ Z=>?_;refine aF fun _ Y=>?_;simp[gC,aT];refine Mo (Of 9 _) ?_;rintro _ τ0 ⟨m,M,l,d,rk,hr9,hx⟩;subst hr9;have hg:=hx.at_;apply Y;simp[gC,aT,hg];apply Z;apply aE;refine mH ⟨[],[],[],[],[66]⟩ fun all hall _ Z=>?_;have ga2:aN all 2=some 7:=hall 2;refine zs 3 fun _ Y=>?_;simp[gC,aT,ga2,hg];apply Y;refine zb 7 ?_ ?_<;>intro g1<;>try simp at g1
 simp[gC,aT,ga2,hg];apply Z;refine zI ?_ ?_<;>intro c2<;>try simp at c2
 apply zA;refine zk [0,1] ?_;refine zr ⟨[],[],[],[],[66]⟩ fun _ _ Z=>?_;refine zs 4 fun _ Y=>?_;simp[gC,aT,hg];and_intros<;>(try omega);apply Y;refine aF fun _ Y=>?_;simp[gC,aT,hg];obtain⟨d1,rk1,o1,τ1,q,p,hmk,hx1,hq,hp,hlen⟩:=aRq hx;rw [aZq] at hmk;have hg1:=hx1.at_;simp only [jG,Pa,awK] at hq hp;refine cT (hmk) ?_;apply Y;simp[gC,aT,hg,hg1,hq,hp,hlen];apply Z;refine zk [0,1,2,3] ?_;refine mH ⟨[],[],[],[],[66]⟩ fun all hall _ Z=>?_;have ga2:aN all 2=some 24:=hall 2;have ga6:aN all 6=some 28:=hall 6;have ga13:aN all 13=some 35:=hall 13;have ga21:aN all 21=some 43:=hall 21;have ga33:aN all 33=some 55:=hall 33;have ga46:aN all 46=some 68:=hall 46;refine zs 3 fun _ Y=>?_;simp[gC,aT,ga2,ga6,ga13,ga21,ga33,ga46,hg,hg1,hq,hp,hlen];apply Y;refine zb 24 ?_ ?_<;>intro g3<;>try simp at g3
 refine zs 4 fun _ Y=>?_;simp[gC,aT,ga2,ga6,ga13,ga21,ga33,ga46,hg,hg1,hq,hp,hlen];apply Y;refine zb 28 ?_ ?_<;>intro g4<;>try simp at g4
 refine zs 7 fun _ Y=>?_;simp[gC,aT,ga2,ga6,ga13,ga21,ga33,ga46,hg,hg1,hq,hp,hlen];apply Y;refine zb 35 ?_ ?_<;>intro g5<;>try simp at g5
 refine zs 8 fun _ Y=>?_;simp[gC,aT,ga2,ga6,ga13,ga21,ga33,ga46,hg,hg1,hq,hp,hlen];and_intros<;>(try omega);apply Y;refine zb 43 ?_ ?_<;>intro g6<;>try simp at g6
 refine zs 8 fun _ Y=>?_;simp[gC,aT,ga2,ga6,ga13,ga21,ga33,ga46,hg,hg1,hq,hp,hlen];and_intros<;>(try omega);apply Y;refine zs 4 fun _ Y=>?_;simp[gC,aT,ga2,ga6,ga13,ga21,ga33,ga46,hg,hg1,hq,hp,hlen];apply Y;refine zb 55 ?_ ?_<;>intro g7<;>try simp at g7
 refine zs 8 fun _ Y=>?_;simp[gC,aT,ga2,ga6,ga13,ga21,ga33,ga46,hg,hg1,hq,hp,hlen];and_intros<;>(try omega);apply Y;refine zs 5 fun _ Y=>?_;simp[gC,aT,ga2,ga6,ga13,ga21,ga33,ga46,hg,hg1,hq,hp,hlen];apply Y;refine zb 68 ?_ ?_<;>intro g8<;>try simp at g8
 refine zs 4 fun _ Y=>?_;simp[gC,aT,ga2,ga6,ga13,ga21,ga33,ga46,hg,hg1,hq,hp,hlen];apply Y;refine zg ga46 fun _ Y=>?_;simp[gC,aT,ga2,ga6,ga13,ga21,ga33,ga46,hg,hg1,hq,hp,hlen];refine cT (Ei m M d1 _ hx1.ix.iv.ho (by omega)) ?_;apply Y;simp[gC,aT,ga2,ga6,ga13,ga21,ga33,ga46,hg,hg1,hq,hp,hlen];apply Z;apply aC;simp [aH]
section
variable {m M l:Nat} {d:DS} {rk:Int->Nat} {σ:List (List D)}
end
end Go.Proofs.YtbgfljpnhhdkoaaGreat
