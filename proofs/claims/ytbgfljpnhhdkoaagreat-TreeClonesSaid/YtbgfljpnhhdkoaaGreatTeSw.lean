import Derived.Test.YtbgfljpnhhdkoaaGreatWkTe7
import Derived.Test.YtbgfljpnhhdkoaaGreatWkDr3
set_option linter.all false
set_option maxHeartbeats 8000000
set_option maxRecDepth 20000
open Go.Proofs.Tryz
namespace Go.Proofs.YtbgfljpnhhdkoaaGreat
open Go Go.Vm
variable {v:VN}{x:RD}
theorem Vh:∀ {ks:List VN} {i par:Int} {n:ND},n∈pO i par ks->∃k∈ks,∃i',n∈jW i' par k
 | [],i,par,n,h=>by cases h
 | k::ks,i,par,n,h=>by
  rw [Bc] at h;rcases bR.1 h with h | h
  .exact⟨k,dY,i,h⟩
  obtain⟨k2,h1,h2⟩:=Vh h;exact⟨k2,fW _ h1,h2⟩
theorem Ed {P:ND->Prop} (hP:∀w i par,NV w->P (Bg i par w (gL (i+1) w.kids))):∀ {v:VN},NN v->∀ {i par:Int} {n:ND},n∈jW i par v->P n
 | v,hv,i,par,n,h=>by
  rw [uY] at h;rcases bN.1 h with rfl | h
  .exact hP v i par hv.v
  obtain⟨k,hk,i',h⟩:=Vh h;exact Ed hP (hv.k k hk) h
termination_by v=>cJ v
decreasing_by
 have:=eL hk;omega
theorem aR2(w:VN)(i par:Int)(ks:List Int)(h:NV w):NmOk (Bg i par w ks):=by
 unfold Bg;split
 .exact⟨by simp,by simp,by simp⟩
 rename_i he;have hn:=(h.e2 he).2.1;unfold fG qQ at hn;exact⟨fun c hc=>hn c (by simp [hc]),fun p hp=>hn _ (by simp only [bR,aX];exact .inl (.inr ⟨p,hp,rfl⟩)),fun p hp=>hn _ (by simp only [bR,aX];exact .inr ⟨p,hp,rfl⟩)⟩
structure Up(x:RD):Prop where
 lt:∀n∈x.l,n.ID<x.next
 up:∀n∈x.l,∀c∈n.kids,n.ID<c
 nm:NmsOk x
 pos:0<x.next
theorem Up.fd (h:Up x):∀id,∀c∈(aI x.l id).kids,id<c:=fun id c hc=>by
 by_cases hl:fO x.l id=true
 .obtain⟨n,n1,n2,n3⟩:=eV hl;rw [n3] at hc;rw [<- n2];exact h.up n n1 c hc
 unfold aI at hc;unfold fO at hl;rw [show kJ x.l id=none by simpa using hl] at hc;cases hc
theorem Up.new(most:Int):Up (newX most):=⟨fun n hn=>by simp [newX] at hn;subst hn;show(0:Int)<1;decide,fun n hn=>by simp [newX] at hn;subst hn;simp [nU],NmsOk.new most,by simp [newX]⟩
def zY(x:RD)(v:VN):RD:=⟨x.most,x.next+cJ v,x.l++jW x.next (-1) v⟩
theorem Up.grow (h:Up x) (hv:NN v):Up (zY x v):=by
 have hc:=lP v;refine⟨fun n hn=>?_,fun n hn=>?_,fun n hn=>?_,?_⟩
 .rcases bR.1 hn with hn | hn
  .have:=h.lt n hn;show n.ID<x.next+cJ v;omega
  exact(Ea hn).2
 .rcases bR.1 hn with hn | hn
  .exact h.up n hn
  refine Ed (P:=fun n=>∀c∈n.kids,n.ID<c) (fun w i par _ c hc=>?_) hv hn;rw [Jt] at hc;rw [lK];have:=aBj _ _ c hc;omega
 .rcases bR.1 hn with hn | hn
  .exact h.nm n hn
  exact Ed (P:=NmOk) (fun w i par hw=>aR2 w i par _ hw) hv hn
 have:=h.pos;show 0<x.next+cJ v;omega
def hdV(v:VN)(j:Nat):VN:= { v with kids:=v.kids.take j }
theorem NN.hdV (h:NN v)(j:Nat):NN (hdV v j):= .mk _ ⟨h.v.c4,h.v.a4,h.v.s4,h.v.cl,h.v.sa,h.v.ss,h.v.av,fun e=>⟨by show v.kids.take j= [];rw [(h.v.t1 e).1];simp,(h.v.t1 e).2⟩,h.v.e2⟩ fun k hk=>h.k k (mD hk)
def Xd(x:RD)(v:VN)(j:Nat):RD:=⟨x.most,nO x.next v j,Lz x.l x.next (-1) v j⟩
theorem Ze(x:RD)(v:VN)(j:Nat):Xd x v j=zY x (hdV v j):=by
 unfold Xd zY;have e1:nO x.next v j=x.next+(cJ (hdV v j):Nat):=by
  rw [jI];unfold nO uB hdV;simp only [];omega
 have e2:Lz x.l x.next (-1) v j=x.l++jW x.next (-1) (hdV v j):=by
  rw [uY];rfl
 rw [e1,e2]
theorem aNe(x:RD)(v:VN):Xd x v v.kids.length=zY x v:=by
 rw [Ze];unfold hdV;rw [eP];cases v;rfl
theorem Up.st (h:Up x) (hv:NN v)(j:Nat):Up (Xd x v j):=by rw [Ze];exact h.grow (hv.hdV j)
theorem Kj {α:Type} {Inv:Nat->α->Prop} {Rel:Nat->α->α->Prop} (N:Nat)(s0:α)(h0:Inv 0 s0)(step:∀j,j<N->∀s,Inv j s->∃s',Rel j s s'/\Inv (j+1) s'):
  ∃S:Nat->α,S 0=s0/\(∀j,j<=N->Inv j (S j))/\∀j,j<N->Rel j (S j) (S (j+1)):=by
 classical
 let S:Nat->α:=fun n=>Nat.rec s0 (fun j s=>if h:j<N/\Inv j s then Classical.choose (step j h.1 s h.2)else s) n
 have hS:∀j,(h:j<N/\Inv j (S j))->S (j+1)=Classical.choose (step j h.1 (S j) h.2):=fun j h=>dif_pos h;have hI:∀j,j<=N->Inv j (S j):=by
  intro j;induction j with
  | zero=>intro _;exact h0
  | succ j ih=>
   intro hj;have hij:=ih (by omega);rw [hS j ⟨by omega,hij⟩];exact(Classical.choose_spec (step j (by omega) (S j) hij)).2
 refine⟨S,rfl,hI,fun j hj=>?_⟩;have hij:=hI j (by omega);rw [hS j ⟨hj,hij⟩];exact(Classical.choose_spec (step j hj (S j) hij)).1
section
variable {k m M l:Nat}{d d' d2:DS}{rk rk':Int->Nat}{σ σ2 σ3:List (List D)}{y:RD}{ops:List TOp}
theorem LX.off_ge(h:LX k m M l d rk x ops σ) {p:Nat} (hp:σ.length<=p):Off m d p/\p≠l:=by
 have hd:=h.ix.iv.ho;refine⟨⟨fun e=>?_,fun e he e2=>?_⟩,fun e=>?_⟩
 .have:=nX hd.hm;omega
 .have:=nX (hd.hn e he);omega
 have:=nX h.at_;omega
theorem LX.to {j:Nat} (h:LX k m M l d rk x ops σ)(hk:k<=j):LX j m M l d rk x ops σ:=by
 have:=h.up_ (j - k);rw [show k+(j - k)=j by omega] at this;exact this
theorem Oth.set_ge {L:Nat->Prop} (h:Oth m L d d' σ σ2) {q:Nat} (hq:σ.length<=q)(c:List D):Oth m L d d' σ (σ2.set q c):=
 ⟨by rw [bY];exact h.1,fun i hi ho hl=>⟨(h.2 i hi ho hl).1,by rw [dF (by omega)];exact(h.2 i hi ho hl).2⟩⟩
structure GS where
 d:DS
 rk:Int->Nat
 ops:List TOp
 σ:List (List D)
 ql:List Nat
 a:List (List D)
 q:Nat
 ks:List Nat
structure GI(k m M l:Nat)(d:DS)(σ:List (List D))(x:RD)(v:VN)(j:Nat)(s:GS):Prop where
 lx:LX (k+15+16 * uB v j) m M l s.d s.rk (Xd x v j) s.ops s.σ
 oth:Oth m (· =l) d s.d σ s.σ
 off:Off m s.d σ.length
 at_:s.σ[σ.length]?=some (fZ x.next v (.v (.pointer none)) s.ql)
 ko:KidsOk s.σ (fun p=>(σ.length<=p/\p<s.σ.length/\Off m s.d p/\p≠l)/\σ.length<p) x.next v σ.length s.ql j
structure GR(l:Nat)(q0:Nat)(x:RD)(v:VN)(j:Nat)(hj:j<v.kids.length)(s s':GS):Prop where
 gr:Ct prog 93 [.ref l 0,jQ v.kids[j]] s.σ (fun r τ=>r= .ref s'.q 0/\τ=s'.a)
 a1:s'.a[q0]?=some (fZ x.next v (.v (.pointer none)) s.ql)
 a2:s'.q≠q0
 a3:s'.a[s'.q]?=some (fZ (nO x.next v j) v.kids[j] (.v (.pointer none)) s'.ks)
 ql:s'.ql=s.ql++ [s'.q]
 ins:Ct prog 64 [.ref l 0,D.int x.next,D.int j,D.int (nO x.next v j)] ((s'.a.set s'.q (fZ (nO x.next v j) v.kids[j] (.ref q0 0) s'.ks)).set q0 (fZ x.next v (.v (.pointer none)) s'.ql)) (fun r τ=>r=D.int 0/\τ=s'.σ)
def aRa(k m M l:Nat)(d:DS)(σ:List (List D))(x:RD)(v:VN):Prop:=
 ∃d' rk' ops' σ',Ct prog 93 [.ref l 0,jQ v] σ (fun r τ=>r= .ref σ.length 0/\τ=σ')/\LX (k+(16 * cJ v - 1)) m M l d' rk' (zY x v) ops' σ'/\Oth m (· =l) d d' σ σ'/\ItOk σ' (fun p=>σ.length<=p/\p<σ'.length/\Off m d' p/\p≠l) x.next v (.v (.pointer none)) σ.length
theorem aC9 (hv:NN v)(hu:Up x)(hk:k+16 * cJ v<=780)(j:Nat)(hj:j<v.kids.length)(s:GS)(h:GI k m M l d σ x v j s)
  (ih:aRa (k+15+16 * uB v j) m M l s.d s.σ (Xd x v j) v.kids[j]):∃s',GR l σ.length x v j hj s s'/\GI k m M l d σ x v (j+1) s':=by
 obtain⟨d1,rk1,ops1,a,c1,lx1,o1,it1⟩:=ih;obtain⟨ks,hks,it2⟩:=it1.par_ (.ref σ.length 0);have hcj:=lP v.kids[j];have hsu:=xM v j hj;have hsl:=Ig v (j+1);have hq:=nX h.at_;have hql:=h.lx.off_ge (aV _);have hnl:σ.length≠l:=fun e=>by have:=nX h.lx.at_;have h2:=h.at_;rw [e,h.lx.at_] at h2;simp [pA,fZ] at h2
 have oq:=o1.2 σ.length hq h.off hnl;obtain⟨f1, -,f2,f3⟩:=it1.F_;have ha:=o1.1
 -- the state ahead of the insert
 have lx2:=(lx1.put_ f2 f3 (fZ (nO x.next v j) v.kids[j] (.ref σ.length 0) ks)).put_ oq.1 hnl (fZ x.next v (.v (.pointer none)) (s.ql++ [s.σ.length]));have hA:∀n∈x.l,n.ID<x.next:=hu.lt;obtain⟨i1,i2⟩:=Uz (par:= -1) (v:=v) (j:=j) hA (jW (nO x.next v j) (-1) v.kids[j]);obtain⟨i3,i4⟩:=Vr (par:= -1) hA hj;have hup:=((hu.st hv j).grow (hv.k _ (bP hj))).fd;have hne:¬v.kind=1:=fun e=>by rw [(hv.v.t1 e).1] at hj;simp at hj
 have hpos:=hu.pos;obtain⟨d3,rk3,ops3,τ,c2,lx3,o3⟩:=aR8 lx2 (by omega) x.next j (nO x.next v j) i2 i4 (by
   show(aI (Lz x.l x.next (-1) v j++jW (nO x.next v j) (-1) v.kids[j]) x.next).kind=2
   rw [i1];unfold Bg;rw [aD hne]) (by unfold nO;omega) (by
   show(aI (Lz x.l x.next (-1) v j++jW (nO x.next v j) (-1) v.kids[j]) (nO x.next v j)).parent<0
   rw [i3,aNl];decide) (by rw [<- aWj lx2.ix];exact aD0 hup _ (by unfold nO;omega)) (by
   show j<=(aI (Lz x.l x.next (-1) v j++jW (nO x.next v j) (-1) v.kids[j]) x.next).kids.length
   rw [i1,Jt,mW,bG];omega)
 have hx3:aLh (zY (Xd x v j) v.kids[j]) x.next j (nO x.next v j)=Xd x v (j+1):=by
  have:=aIx (A:=x.l) (i:=x.next) (par:= -1) (v:=v) (j:=j) (mo:=x.most) (nx:=nO x.next v j+cJ v.kids[j]) hA hj;unfold zY Xd;rw [show nO x.next v (j+1)=nO x.next v j+(cJ v.kids[j]:Nat) by unfold nO;rw [hsu];omega];exact this
 rw [hx3] at lx3;have hbl:((a.set s.σ.length (fZ (nO x.next v j) v.kids[j] (.ref σ.length 0) ks)).set σ.length (fZ x.next v (.v (.pointer none)) (s.ql++ [s.σ.length]))).length=a.length:=by rw [bY,bY]
 have o3l:=o3.1;rw [hbl] at o3l
 -- what stands of what there was
 have keep:∀p,p<s.σ.length->p≠σ.length->Off m s.d p->p≠l->Off m d3 p/\τ[p]?=s.σ[p]?:=fun p hp hpq ho hpl=>by
  obtain⟨u1,u2⟩:=o1.2 p hp ho hpl;obtain⟨u3,u4⟩:=o3.2 p (by rw [hbl];omega) u1 hpl;refine⟨u3,?_⟩;rw [u4,dF (by omega),dF (by omega),u2]
 have keep2:∀p,p<a.length->p≠σ.length->Off m d1 p->p≠l->Off m d3 p/\τ[p]?=(a.set s.σ.length (fZ (nO x.next v j) v.kids[j] (.ref σ.length 0) ks))[p]?:=fun p hp hpq ho hpl=>by
  obtain⟨u3,u4⟩:=o3.2 p (by rw [hbl];omega) ho hpl;refine⟨u3,?_⟩;rw [u4,dF (by omega)]
 have ot:=o3.2 σ.length (by rw [hbl];omega) oq.1 hnl;refine⟨⟨d3,rk3,ops3,τ,s.ql++ [s.σ.length],a,s.σ.length,ks⟩,⟨c1,by rw [oq.2];exact h.at_,by show s.σ.length≠σ.length;omega,hks,rfl,c2⟩,⟨lx3.to (by omega),?_,ot.1,?_,?_⟩⟩
 .have:=((h.oth.trans o1).set_ge (Nat.le_of_lt hq) (fZ (nO x.next v j) v.kids[j] (.ref σ.length 0) ks)).set_ge (aV _) (fZ x.next v (.v (.pointer none)) (s.ql++ [s.σ.length]));exact this.trans o3
 .rw [ot.2];exact aM (by rw [dF (by omega),oq.2];exact h.at_) _
 refine(h.ko.frame fun p hp=>?_).snoc hj (it2.frame fun p hp=>?_)
 .obtain⟨⟨p1,p2,p3,p4⟩,p5⟩:=hp;obtain⟨u1,u2⟩:=keep p p2 (by omega) p3 p4;exact⟨⟨⟨p1,by show p<τ.length;omega,u1,p4⟩,p5⟩,u2⟩
 obtain⟨p1,p2,p3,p4⟩:=hp;obtain⟨u1,u2⟩:=keep2 p p2 (by omega) p3 p4;exact⟨⟨⟨by omega,by show p<τ.length;omega,u1,p4⟩,by omega⟩,u2⟩
theorem aPn {n:ND} {i:Int} (hv:NV v)(he:¬v.kind=1)(h1:n.kind=2)(h0:¬i=0):Lw n true i (qQ v)=0:=by
 unfold Lw;rw [aD (by simp),aD h0,aD (by rw [h1];simp),aD];rw [zC,qB];intro s hs;rw [(hv.e2 he).2.1 s hs];simp
theorem Mh {n:ND} {o:OW} (hc:n.classes= [])(ha:n.attrs= [])(hs:n.styles= []):(jS n o).length<=o.classes.length+o.attrs.length+o.styles.length:=by
 unfold jS;have h1:=Vb n.classes o.classes;have h2:=oG o.classes;have h3:=yC nA zU n.attrs o.attrs;have h4:=yC nP Cm n.styles o.styles;rw [hc] at h1 |-;rw [ha] at h3 |-;rw [hs] at h4 |-;have h5:(bV []).length=0:=rfl;simp at h1 h3 h4 |-;omega
theorem aK2 (hv:NV v)(he:¬v.kind=1):∀s∈fG (qQ v),s.size<=9223372036854775807:=fun s hs=>by
 have:=Fa ((hv.e2 he).2.1 s hs);omega
theorem aE4 (hv:NV v)(h:LX k m M l d rk x ops σ)(hu:Up x)(hk:k+15<=780)(hr:(x.l.length:Int)<=x.most):
  ∃s1 d' rk' ops' σ',(v.kind=1->Ct prog 177 [.ref l 0,D.str v.text] (σ++ [pL]) (fun r τ=>r= .tup [D.int x.next,D.int 0]/\τ=s1))/\(¬v.kind=1->Ct prog 178 [.ref l 0,D.str v.tag] (σ++ [pL]) (fun r τ=>r= .tup [D.int x.next,D.int 0]/\τ=s1))/\s1[σ.length]?=some pL/\
   Ct prog 32 [.ref σ.length 0,.ref l 0] (s1.set σ.length (fZ x.next v (.v (.pointer none)) [])) (fun r τ=>r= .tup []/\τ=σ')/\LX (k+15) m M l d' rk' (Xd x v 0) ops' σ'/\Oth m (· =l) d d' σ σ'/\Off m d' σ.length/\σ'[σ.length]?=some (fZ x.next v (.v (.pointer none)) [])/\σ.length<σ'.length:=by
 obtain⟨q1,q2⟩:=h.off_ge (aV _);have l0:=h.app_ [pL];have o0:Oth m (· =l) d d σ (σ++ [pL]):=⟨by simp,fun i hi ho _=>⟨ho,bB hi⟩⟩;have g0:(σ++ [pL])[σ.length]?=some pL:=by simp
 have hl0:(σ++ [pL]).length=σ.length+1:=by simp
 have hst:Xd x v 0=⟨x.most,x.next+1,x.l++ [Bg x.next (-1) v []]⟩:=by
  unfold Xd;rw [aV9];show RD.mk x.most (x.next+1+((0:Nat):Int)) _=_
  rw [show x.next+1+((0:Nat):Int)=x.next+1 by omega]
 by_cases he:v.kind=1
 .obtain⟨d1,rk1,ops1,s1,c1,x1,o1⟩:=aVn l0 (by omega) v.text hr;obtain⟨p1,p2⟩:=o1.2 σ.length (by omega) q1 q2;have hx:Hs x 1 v.text=Xd x v 0:=by
   rw [hst];unfold Hs gV Bg;rw [aL he];rfl
  rw [hx] at x1;have o1l:=o1.1;rw [hl0] at o1l;have x2:=x1.put_ p1 q2 (fZ x.next v (.v (.pointer none)) []);refine⟨s1,d1,rk1,ops1,_,fun _=>c1,fun e=>absurd he e,p2.trans g0,aE9 σ.length l v ⟨0,0,0,0⟩ x.next _ _ _ _ _ _ _ _ _ _ (aM (p2.trans g0) _) he,x2.to (by omega),(o0.trans o1).set_ge (aV _) _,p1,aM (p2.trans g0) _,?_⟩;rw [bY];omega
 obtain⟨t1,t2,t3⟩:=hv.e2 he;obtain⟨d1,rk1,ops1,s1,c1,x1,o1⟩:=aU6 l0 (by omega) v.tag (by have:=Fa t1;omega) t1 hr;obtain⟨p1,p2⟩:=o1.2 σ.length (by omega) q1 q2;have o1l:=o1.1;rw [hl0] at o1l;have x2:=x1.put_ p1 q2 (fZ x.next v (.v (.pointer none)) []);have hA:∀n∈x.l,n.ID≠x.next:=fun n hn=>by have:=hu.lt n hn;omega
 have hf:aI (x.l++ [gV x.next 2 v.tag]) x.next=gV x.next 2 v.tag/\fO (x.l++ [gV x.next 2 v.tag]) x.next=true:=Kg (n:=gV x.next 2 v.tag) hA;have hfx:aI (Hs x 2 v.tag).l x.next=gV x.next 2 v.tag:=hf.1;have hix:fO (Hs x 2 v.tag).l x.next=true:=hf.2;have hpos:=hu.pos;have hnm:NmsOk (Hs x 2 v.tag):=fun n hn=>by
  rcases bR.1 hn with hn | hn
  .exact hu.nm n hn
  have:n=gV x.next 2 v.tag:=by simpa using hn
  subst this;exact⟨by simp [gV],by simp [gV],by simp [gV]⟩
 have hdl:=Mh (n:=gV x.next 2 v.tag) (o:=qQ v) rfl rfl rfl;have c4:=hv.c4;have a4:=hv.a4;have s4:=hv.s4;have hdl2:(jS (gV x.next 2 v.tag) (qQ v)).length<=12:=by
  refine qK hdl ?_;show v.classes.length+v.attrs.length+v.styles.length<=12
  omega
 obtain⟨d2,rk2,ops2,s2,c2,x3,o2⟩:=aNb x2 x.next (qQ v) (by rw [hfx];omega) (by show v.classes.length<=8;omega) (by show v.attrs.length<=8;omega) (by show v.styles.length<=8;omega) (aK2 hv he) (fun p hp=>by have:=hv.av p hp;omega) (hv.ow he) hnm (by rw [hfx,hix];exact aPn hv he rfl (by omega)) (by rw [hfx];rfl);rw [hfx] at x3;have hx:(⟨(Hs x 2 v.tag).most,(Hs x 2 v.tag).next,dJ (Hs x 2 v.tag).l (Ug (gV x.next 2 v.tag) (qQ v))⟩:RD)=Xd x v 0:=by
  rw [hst];show RD.mk x.most (x.next+1) (dJ (x.l++ [gV x.next 2 v.tag]) _)=_
  rw [wD,sQ fun n hn=>hA n hn,yQ,aL (show(gV x.next 2 v.tag).ID=(Ug (gV x.next 2 v.tag) (qQ v)).ID from rfl)];unfold Ug Bg gV qQ;rw [aD he,hv.cl];rfl
 rw [hx] at x3;obtain⟨p3,p4⟩:=o2.2 σ.length (by rw [bY];omega) p1 q2;have o2l:=o2.1;rw [bY] at o2l;rw [aM (p2.trans g0)] at p4;refine⟨s1,d2,rk2,ops2,s2,fun e=>absurd e he,fun _=>c1,p2.trans g0,aCq σ.length l v ⟨0,0,0,0⟩ x.next _ _ _ _ _ _ _ _ _ s2 _ (aM (p2.trans g0) _) (by omega) (by omega) (by omega) he (by rw [hv.put];exact c2),x3.to (by omega),((o0.trans o1).set_ge (aV _) _).trans o2,p3,p4,by omega⟩
theorem Vi:∀(v:VN),NN v->∀ {k:Nat} {d:DS} {rk:Int->Nat} {x:RD} {ops:List TOp} {σ:List (List D)},LX k m M l d rk x ops σ->Up x->k+16 * cJ v<=780->(x.l.length:Int)+cJ v<=x.most+1->aRa k m M l d σ x v
 | v, hv, k, d, rk, x, ops, σ, h, hu, hk, hr => by
  have hcv:=lP v;obtain⟨s1,d0,rk0,ops0,σ0,c1,c2,e1,c3,lx0,o0,f0,g0,l0⟩:=aE4 hv.v h hu (by omega) (by omega);obtain⟨S,S0,hI,hR⟩:=Kj (Inv:=GI k m M l d σ x v) (Rel:=fun j s s'=>∃hj,GR l σ.length x v j hj s s') v.kids.length ⟨d0,rk0,ops0,σ0, [], [],0, []⟩ ⟨lx0,o0,f0,g0,.zero ..⟩ fun j hj s hs=>by
   have hck:=eL (bP hj);have hsl:=Ig v (j+1);have hsu:=xM v j hj;obtain⟨s',r1,r2⟩:=aC9 hv hu hk j hj s hs (Vi v.kids[j] (hv.k _ (bP hj)) hs.lx (hu.st hv j) (by omega) (by
    show((Lz x.l x.next (-1) v j).length:Int)+_<=x.most+1
    have hl:(Xd x v j).l=x.l++jW x.next (-1) (hdV v j):=by rw [Ze];rfl
    rw [show Lz x.l x.next (-1) v j=x.l++jW x.next (-1) (hdV v j)from hl,aY,Oh];have:cJ (hdV v j)=1+uB v j:=by rw [jI];rfl
    omega))
   exact⟨s',⟨hj,r1⟩,r2⟩
  have hql:∀j,j<=v.kids.length->(S j).ql=Ws (fun j=>(S (j+1)).q) j:=by
   intro j;induction j with
   | zero=>intro _;rw [S0];rfl
   | succ j ih=>
    intro hj;obtain⟨hj2,r⟩:=hR j (by omega);rw [r.ql,ih (by omega),xB]
  have fin:=hI v.kids.length (aV _);refine⟨(S v.kids.length).d,(S v.kids.length).rk,(S v.kids.length).ops,(S v.kids.length).σ,?_,?_,fin.oth,?_⟩
  .refine aKh l σ.length v x.next s1 (fun j=>(S j).σ) (fun j=>(S (j+1)).a) (fun j=>(S (j+1)).q) (nO x.next v) (fun j=>(S (j+1)).ks) σ rfl c1 c2 e1 ?_ (by omega) (fun j hj=>?_) (fun j hj=>?_) (fun j hj=>?_) fun j hj=>?_
   .show Ct _ _ _ _ (fun r τ=>r= .tup []/\τ=(S 0).σ)
    rw [S0];exact c3
   .rw [<- hql j hj];exact(hI j hj).at_
   .obtain⟨hj2,r⟩:=hR j hj;exact r.gr
   .obtain⟨hj2,r⟩:=hR j hj;exact⟨by rw [<- hql j (by omega)];exact r.a1,r.a2,r.a3⟩
   obtain⟨hj2,r⟩:=hR j hj;rw [<- hql (j+1) hj];exact r.ins
  .have:=fin.lx;rw [aNe] at this;have hs:=Uh v;exact this.to (by omega)
  refine(fin.ko.frame fun p hp=>⟨hp,rfl⟩).done ⟨aV _,nX fin.at_,fin.off,?_⟩ fin.at_;exact(h.off_ge (aV _)).2
termination_by v=>cJ v
decreasing_by
 have:=eL (bP hj);omega
end
theorem Ow(most:Int)(σ:List (List D))  :Ct prog 28 [D.int most] σ (fun r σ'=>∃m M l d rk,r= .ref l 0/\LX 0 m M l d rk (newX most) [] σ'):=by
 refine zf func28 ?_;refine bF fun _ _ Z=>?_;simp;apply Z;refine bF fun _ _ Z=>?_;refine zs 1 fun _ Y=>?_;simp;apply Y;refine aF fun _ Y=>?_;simp;refine Lt (aQd most _) ?_;rintro _ τ0 ⟨hr9,hs9⟩;subst hr9;obtain⟨m,M,dd,rk0,hm0,hx0,hi0⟩:=aR5 _ _ _ hs9;rw [hm0];clear hs9 hm0;apply Y;simp;apply Z;apply aE;refine bF fun _ _ Z=>?_;simp;apply Z;refine zI ?_ ?_<;>intro c1<;>try simp at c1
 apply zA;refine bF fun _ _ Z=>?_;refine zs 1 fun _ Y=>?_;simp;apply Y;refine aF fun _ Y=>?_;simp;refine cU (aRs m _) ?_;apply Y;simp;apply Z;apply aC;simp [aH];exact⟨m,M,dd,rk0,LX.on hi0⟩
theorem aMz(k m M l:Nat)(d:DS)(rk:Int->Nat)(x:RD)(ops:List TOp)(v:VN)(q:Nat)(σ2:List (List D))(σ:List (List D))(h:LX k m M l d rk x ops σ)(hk:k<=800)(hv:VG v)(hc:cJ v<=9999)(hcn:cJ (fN v)<=9999)(hr:¬d.most - ((d.es.length:Int) - 1)<cJ (fN v))(hG:Ct prog 93 [.ref l 0,jQ (fN v)] σ (fun r τ=>r= .ref q 0/\τ=σ2)):Ct prog 30 [.ref l 0,jQ v] σ (fun r σ'=>r= .tup [.ref q 0,D.int 0]/\σ'=σ2):=by
 refine zf func30 ?_;have hg:=h.at_;obtain⟨b1,b2,b3⟩:=h.ix.iv.bounds (by omega);refine bF fun _ _ Z=>?_;simp[hg];apply Z;refine bF fun _ _ Z=>?_;refine zs 1 fun _ Y=>?_;simp[hg];apply Y;refine aF fun _ Y=>?_;simp[hg];refine cU (aCc v hv hc _) ?_;apply Y;simp[hg];apply Z;apply aE;refine zd ⟨[],[],[],[],[]⟩ [.op {},.op {},.op {},.op {rO:=true},.read,.op {rL:=true},.read,.op {}] fun all hall _ Z=>?_;refine lN 4 fun _ Y=>?_;simp[hg];apply Y;refine cK fun _ Y=>?_;simp[hg];refine zdr (Lh m M d _ h.ix.iv.ho (by omega) (by omega)) ?_;apply Y;refine lN 1 fun _ Y=>?_;simp[hg];apply Y;refine cK fun _ Y=>?_;simp[hg];refine zdr (aPh (fN v) _ hcn) ?_;apply Y;simp[hg];apply Z;refine zI ?_ ?_<;>intro c1<;>try simp at c1
 .omega
 apply zA;refine zk [0,3,4,5] ?_;refine bF fun _ _ Z=>?_;refine zs 2 fun _ Y=>?_;simp[hg];apply Y;refine aF fun _ Y=>?_;simp[hg];refine cU (hG) ?_;apply Y;simp[hg];apply Z;apply aC;simp [aH]
section
variable {k m M l:Nat}{d d' d2:DS}{rk rk':Int->Nat}{σ σ2 σ3:List (List D)}{y:RD}{ops:List TOp}
theorem LX.rd(h:LX k m M l d rk x ops σ)(hk:k<=800) {f:Nat} {i:Int} (hf:rk i<=f)(hi:fO x.l i=true):aLz m i (xF x.l f i) σ:=by
 have e:∀f i,xF x.l f i=xF d.l f i:=by
  intro f;induction f with
  | zero=>intro i;simp only [xF,aFr h.ix]
  | succ f ih=>intro i;simp only [xF,aFr h.ix];congr 1;exact dH fun c _=>ih c
 rw [e];exact aBq h.ix.iv.ho (h.ix.iv.ip.NB (by omega)) h.ix.iv.wt f i hf (by rw [<- aUr h.ix];exact hi)
theorem LX.room(h:LX k m M l d rk x ops σ):d.most - ((d.es.length:Int) - 1)=x.most - ((x.l.length:Int) - 1):=by
 have h1:=h.ix.xp.most;have h2:=h.ix.xp.len;have h3:d.x.l=d.l:=rfl;have h4:=Di d;have h5:d.x.most=d.most:=rfl;rw [h1,h2,h3,h4,h5]
theorem Ua(h:LX k m M l d rk x ops σ)(hu:Up x) (hg:VG v)(hm:GV v)(hc:cJ v<=25)(hk:k<=300)(hr:(x.l.length:Int)+cJ (fN v)<=x.most+1):
  ∃d' rk' ops' σ',Ct prog 30 [.ref l 0,jQ v] σ (fun r τ=>r= .tup [.ref σ.length 0,D.int 0]/\τ=σ')/\LX (k+400) m M l d' rk' (zY x (fN v)) ops' σ'/\ItOk σ' (fun p=>σ.length<=p/\p<σ'.length/\Off m d' p/\p≠l) x.next (fN v) (.v (.pointer none)) σ.length:=by
 have hn:=Cp v;obtain⟨d',rk',ops',σ',c1,lx, -,it⟩:=Vi (fN v) (aBn hg hm) h hu (by omega) (by omega);exact⟨d',rk',ops',σ',aMz k m M l d rk x ops v σ.length σ' σ h (by omega) hg (by omega) (by omega) (by rw [h.room];omega) c1,lx.to (by omega),it⟩
end
def awK:VN:=⟨1,⟨#[]⟩,⟨#[]⟩,⟨#[97]⟩, [], [], [],⟨0,0,0,0,false,false⟩, []⟩
def Mu:VN:=⟨2,⟨#[117,108]⟩,⟨#[]⟩,⟨#[]⟩, [], [], [],⟨0,0,0,0,false,false⟩, [awK]⟩
theorem aVk:fN awK=awK:=by rw [lT];rfl
theorem aRd:fN Mu=Mu:=by
 rw [lT];show({ Mu with classes:=bV [],attrs:=iB nA [],styles:=iB nP [],kids:=iA (([awK].map fN).filter kI) } :VN)=Mu
 rw [cE,aVk,iW,pY (by decide+kernel),lG];rfl
theorem aH9:cJ Mu=2:=by
 rw [jI];show 1+([awK].map cJ).sum=2
 have:cJ awK=1:=by rw [jI];rfl
 simp [this]
theorem aUq:VG Mu:=by
 refine .mk _ (by decide+kernel) fun k hk=>?_;obtain rfl:k=awK:=by simpa [Mu] using hk
 exact .mk _ (by decide+kernel) fun k hk=>by cases hk
theorem aUh:GV Mu:=by
 refine .mk _ (.inr ⟨by decide,by decide,by decide+kernel,by simp [fG,qQ,Mu],by simp [Mu]⟩) fun k hk=>?_;obtain rfl:k=awK:=by simpa [Mu] using hk
 exact .mk _ (.inl ⟨rfl,rfl,rfl⟩) fun k hk=>by cases hk
theorem aQc {m M l:Nat} {d:DS} {rk:Int->Nat} {σ:List (List D)} (h:LX 0 m M l d rk (newX 9) [] σ):
  ∃d' rk' ops' σ' q p,Ct prog 30 [.ref l 0,jQ Mu] σ (fun r τ=>r= .tup [.ref q 0,D.int 0]/\τ=σ')/\LX 400 m M l d' rk' (zY (newX 9) Mu) ops' σ'/\σ'[q]?=some (fZ 1 Mu (.v (.pointer none)) [p])/\σ'[p]?=some (fZ 2 awK (.ref q 0) [])/\d'.es.length=3:=by
 obtain⟨d',rk',ops',σ',c1,lx,it⟩:=Ua h (Up.new 9) aUq aUh (by rw [aH9];omega) (by omega) (by rw [aRd,aH9];show(([nU].length:Nat):Int)+((2:Nat):Int)<=max 1 (min 9 65536)+1;decide);rw [aRd] at lx it;cases it with
 | mk _ _ _ _ _ qs hF hq hl hk =>
  match qs,hl with
  | [p], _ =>
   have h3:0<(gL ((newX 9).next+1) Mu.kids).length:=by rw [mW];decide
   have hp:=hk 0 (by decide) (by show 0<1;decide) h3;cases hp with
   | mk _ _ _ _ _ qs2 hF2 hq2 hl2 hk2 =>
    have e2:qs2= []:=yN.1 hl2;subst e2;refine⟨d',rk',ops',σ',_,p,c1,lx,hq,hq2,?_⟩;have e1:=lx.ix.xp.len;have e3:(zY (newX 9) Mu).l.length=3:=by
     show([nU]++jW (newX 9).next (-1) Mu).length=3
     rw [aY,Oh,aH9];rfl
    have e4:d'.x.l=d'.l:=rfl;rw [e3,e4,Di] at e1;exact e1.symm
theorem aXi:jQ Mu= .agg [D.int 2,D.str ⟨#[117,108]⟩,D.str ⟨#[]⟩,D.str ⟨#[]⟩,.sl false [],.sl false [],.sl false [],D.int 0,D.int 0,D.int 0,D.int 0,D.bool false,D.bool false,.sl false [.agg [D.int 1,D.str ⟨#[]⟩,D.str ⟨#[]⟩,D.str ⟨#[97]⟩,.sl false [],.sl false [],.sl false [],D.int 0,D.int 0,D.int 0,D.int 0,D.bool false,D.bool false,.sl false []]]]:=by simp [Mu,awK]
theorem Zb  (σ:List (List D))  :Ct prog 26 [] σ (fun r σ'=>r= .bool true):=by
 refine zf func26 ?_;refine zr ⟨[],[],[],[],[66]⟩ fun _ _ Z=>?_;simp[gC,aT];apply Z;refine zr ⟨[],[],[],[],[66]⟩ fun _ _ Z=>?_;refine aF fun _ Y=>?_;simp[gC,aT];refine Lt (Ow 9 _) ?_;rintro _ τ0 ⟨m,M,l,d,rk,hr9,hx⟩;subst hr9;have hg:=hx.at_;apply Y;simp[gC,aT,hg];apply Z;apply aE;refine mK ⟨[],[],[],[],[66]⟩ fun all hall _ Z=>?_;have ga2:aO all 2=some 7:=hall 2;refine zs 3 fun _ Y=>?_;simp[gC,aT,ga2,hg];apply Y;refine zb 7 ?_ ?_<;>intro g1<;>try simp at g1
 simp[gC,aT,ga2,hg];apply Z;refine zI ?_ ?_<;>intro c2<;>try simp at c2
 apply zA;refine zk [0,1] ?_;refine zr ⟨[],[],[],[],[66]⟩ fun _ _ Z=>?_;refine zs 4 fun _ Y=>?_;simp[gC,aT,hg];and_intros<;>(try omega);apply Y;refine aF fun _ Y=>?_;simp[gC,aT,hg];obtain⟨d1,rk1,o1,τ1,q,p,hmk,hx1,hq,hp,hlen⟩:=aQc hx;rw [aXi] at hmk;have hg1:=hx1.at_;simp only [fZ,Mu,awK] at hq hp;refine cU (hmk) ?_;apply Y;simp[gC,aT,hg,hg1,hq,hp,hlen];apply Z;refine zk [0,1,2,3] ?_;refine mK ⟨[],[],[],[],[66]⟩ fun all hall _ Z=>?_;have ga2:aO all 2=some 24:=hall 2;have ga6:aO all 6=some 28:=hall 6;have ga13:aO all 13=some 35:=hall 13;have ga21:aO all 21=some 43:=hall 21;have ga33:aO all 33=some 55:=hall 33;have ga46:aO all 46=some 68:=hall 46;refine zs 3 fun _ Y=>?_;simp[gC,aT,ga2,ga6,ga13,ga21,ga33,ga46,hg,hg1,hq,hp,hlen];apply Y;refine zb 24 ?_ ?_<;>intro g3<;>try simp at g3
 refine zs 4 fun _ Y=>?_;simp[gC,aT,ga2,ga6,ga13,ga21,ga33,ga46,hg,hg1,hq,hp,hlen];apply Y;refine zb 28 ?_ ?_<;>intro g4<;>try simp at g4
 refine zs 7 fun _ Y=>?_;simp[gC,aT,ga2,ga6,ga13,ga21,ga33,ga46,hg,hg1,hq,hp,hlen];apply Y;refine zb 35 ?_ ?_<;>intro g5<;>try simp at g5
 refine zs 8 fun _ Y=>?_;simp[gC,aT,ga2,ga6,ga13,ga21,ga33,ga46,hg,hg1,hq,hp,hlen];and_intros<;>(try omega);apply Y;refine zb 43 ?_ ?_<;>intro g6<;>try simp at g6
 refine zs 8 fun _ Y=>?_;simp[gC,aT,ga2,ga6,ga13,ga21,ga33,ga46,hg,hg1,hq,hp,hlen];and_intros<;>(try omega);apply Y;refine zs 4 fun _ Y=>?_;simp[gC,aT,ga2,ga6,ga13,ga21,ga33,ga46,hg,hg1,hq,hp,hlen];apply Y;refine zb 55 ?_ ?_<;>intro g7<;>try simp at g7
 refine zs 8 fun _ Y=>?_;simp[gC,aT,ga2,ga6,ga13,ga21,ga33,ga46,hg,hg1,hq,hp,hlen];and_intros<;>(try omega);apply Y;refine zs 5 fun _ Y=>?_;simp[gC,aT,ga2,ga6,ga13,ga21,ga33,ga46,hg,hg1,hq,hp,hlen];apply Y;refine zb 68 ?_ ?_<;>intro g8<;>try simp at g8
 refine zs 4 fun _ Y=>?_;simp[gC,aT,ga2,ga6,ga13,ga21,ga33,ga46,hg,hg1,hq,hp,hlen];apply Y;refine zg ga46 fun _ Y=>?_;simp[gC,aT,ga2,ga6,ga13,ga21,ga33,ga46,hg,hg1,hq,hp,hlen];refine cU (Nd m M d1 _ hx1.ix.iv.ho (by omega)) ?_;apply Y;simp[gC,aT,ga2,ga6,ga13,ga21,ga33,ga46,hg,hg1,hq,hp,hlen];apply Z;apply aC;simp [aH]
section
variable {m M l:Nat} {d:DS} {rk:Int->Nat} {σ:List (List D)}
end
end Go.Proofs.YtbgfljpnhhdkoaaGreat
