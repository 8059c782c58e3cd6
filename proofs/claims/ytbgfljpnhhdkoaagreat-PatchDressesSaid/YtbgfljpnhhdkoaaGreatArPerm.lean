import Derived.Test.YtbgfljpnhhdkoaaGreatArLaw2
set_option linter.all false
set_option maxHeartbeats 1000000
open Go.Proofs.Tryz
namespace Go.Proofs.YtbgfljpnhhdkoaaGreat
open Go Go.Vm
variable {args:List D}{d:DS}{e:EN}{m:Nat}{s:ByteArray}{x:RD}{σ:List (List D)}
structure FrO(m:Nat)(d d':DS)(σ σ':List (List D)):Prop where
 len:σ.length<=σ'.length
 keep:∀i,i<σ.length->i≠m->(∀e∈d.es,e.o≠i)->σ'[i]?=σ[i]?
 own:∀e∈d'.es,(∃e0∈d.es,e0.o=e.o)\/σ.length<=e.o
theorem FrO.refl(m:Nat)(d:DS)(σ:List (List D)):FrO m d d σ σ:=⟨aV _,fun _ _ _ _=>rfl,fun e he=> .inl ⟨e,he,rfl⟩⟩
theorem FrO.upd {d':DS} (he:e∈d.es)(c:List D)(ho:∀e∈d'.es,∃e0∈d.es,e0.o=e.o):FrO m d d' σ (σ.set e.o c):=
 ⟨by rw [cV];exact aV _,fun i _ _ h=>by rw [eY (h e he)],fun x hx=> .inl (ho x hx)⟩
theorem FrO.upd2 {d':DS} {f:EN} (he:e∈d.es)(hf:f∈d.es)(c c':List D)(ho:∀e∈d'.es,∃e0∈d.es,e0.o=e.o):FrO m d d' σ ((σ.set e.o c).set f.o c'):=
 ⟨by rw [cV,cV];exact aV _,fun i _ _ h=>by rw [eY (h f hf),eY (h e he)],fun x hx=> .inl (ho x hx)⟩
theorem FrO.add {n:ND} {c c':List D} :FrO m d (wK d n σ.length) σ (σ.set m c++ [c']):=
 ⟨by simp,fun i hi hm _=>by rw [aW (by rw [cV];exact hi),eY (gP hm)],fun x hx=>by
  rcases cK.1 hx with h | h
  .exact .inl ⟨x,h,rfl⟩
  simp only [gO] at h;subst h;exact .inr (aV _)⟩
def DetQ(F:FuncId)(args:List D)(σ:List (List D))(d:DS)(k m M:Nat)(y:RD×Int):Prop:=∃d' rk' σ',Ct prog F args σ (fun r τ=>r=D.int y.2/\τ=σ')/\IV (k+1) m M d' rk' σ'/\d'.x=y.1/\FrO m d d' σ σ'
def DetA(F:FuncId)(args:List D)(σ:List (List D))(d:DS)(k m M:Nat)(y:RD×Int×Int):Prop:=∃d' rk' σ',Ct prog F args σ (fun r τ=>r= .tup [D.int y.2.1,D.int y.2.2]/\τ=σ')/\IV (k+1) m M d' rk' σ'/\d'.x=y.1/\FrO m d d' σ σ'
variable {k M:Nat}{rk:Int->Nat}
theorem DetQ.same {F:FuncId} (h:IV k m M d rk σ) {y:RD×Int} (hc:Ct prog F args σ (fun r τ=>r=D.int y.2/\τ=σ))(hy:y.1=d.x):DetQ F args σ d k m M y:=⟨d,rk,σ,hc,h.mono,hy.symm,FrO.refl _ _ _⟩
theorem DetA.same {F:FuncId} (h:IV k m M d rk σ) {y:RD×Int×Int} (hc:Ct prog F args σ (fun r τ=>r= .tup [D.int y.2.1,D.int y.2.2]/\τ=σ))(hy:y.1=d.x):DetA F args σ d k m M y:=⟨d,rk,σ,hc,h.mono,hy.symm,FrO.refl _ _ _⟩
theorem aH3 {N:Nat} {σ1:List (List D)} {a:List D} (h1:∀(i:Nat) (cs:List D),σ1[i]?=some cs->σ[i]?=some cs\/∀x∈cs,Sc N x)(h:∀x∈a,Sc N x):∀(i:Nat) (cs:List D),(σ1.set m a)[i]?=some cs->σ[i]?=some cs\/∀x∈cs,Sc N x:=by
 intro i cs hn;rw [bP] at hn;split at hn
 .split at hn
  .simp only [bC] at hn;subst hn;exact .inr h
  cases hn
 exact h1 i cs hn
theorem aR6 {N M:Nat} (hM:M<N)(h:∀e∈d.es,e.o<N):∀x∈sW M d,Sc N x:=by
 intro x hx;simp only [bU,fJ,fU] at hx;rcases hx with rfl | rfl | rfl
 .exact Sc.v _
 .exact Sc.v _
 refine Sc.mp hM fun k s y hy=>?_;obtain⟨e,he,hk⟩:=aX.1 hy;simp only [Ue,gN] at hk;obtain⟨rfl,rfl,rfl⟩:=hk;exact Sc.ref (h e he)
theorem aSa(N:Nat)(n:ND):∀x∈gT n,Sc N x:=by
 intro x hx;simp only [gT,bU,fJ,fU] at hx;rcases hx with rfl | rfl | rfl | rfl | rfl | rfl | rfl | rfl | rfl
 .exact Sc.v _
 .exact Sc.v _
 .exact Sc.v _
 .exact Sc.v _
 .exact Sc.sl (Sc.map fun a=>Sc.v _)
 .exact Sc.sl (Sc.map fun a=>aSg _ a)
 .exact Sc.sl (Sc.map fun a=>aSk _ a)
 .exact Sc.v _
 exact aEa N n.kids
theorem aJh (h:fF s=false):addX x 2 s=(x,0,2):=by unfold addX;rw [aI ⟨rfl,h⟩]
theorem Po {kind:Int} (h:¬(kind=2/\fF s=false))(h2:x.most<(x.l.length:Int)):addX x kind s=(x,0,8):=by unfold addX;rw [aC h,aI h2]
theorem aCw {kind:Int} (h:¬(kind=2/\fF s=false))(h2:¬x.most<(x.l.length:Int)):addX x kind s=(⟨x.most,x.next+1,x.l++ [oE x.next kind s]⟩,x.next,0):=by unfold addX;rw [aC h,aC h2]
theorem IV.bounds(h:IV k m M d rk σ)(hk:k<=900):d.es.length<=100000/\(0<=d.most/\d.most<=100000)/\(0<=d.next/\d.next<=1000000):=by
 have h1:=h.ip.len;have h2:=h.ip.most;have h3:=h.ip.nx
 exact⟨by omega,⟨by omega,by omega⟩,⟨by omega,by omega⟩⟩
theorem aUt(k m M:Nat)(d:DS)(rk:Int->Nat)(s:ByteArray)(σ:List (List D))(h:IV k m M d rk σ)(hk:k<=800)(hs:s.size<=1000):DetA 133 [.ref m 0,D.str s] σ d k m M (addX d.x 2 s):=by
 obtain⟨b1,b2,b3⟩:=h.bounds (by omega);cases hn:fF s with
 | false=>
  rw [aJh hn];exact DetA.same h (aJa m s σ hs hn) rfl
 | true=>
  have hc:¬((2:Int)=2/\fF s=false):=fun e=>by rw [hn] at e;cases e.2
  by_cases hr:d.most<(d.l.length:Int)
  .rw [Po hc hr];exact DetA.same h (aK3 m M d s σ h.ho b1 b2 (by rw [vO] at hr;omega) hs hn) rfl
  rw [aCw hc hr];have hr':(d.es.length:Int) - 1<d.most:=by rw [vO] at hr;omega
  refine⟨wK d (Ei d.next 2 s ⟨#[]⟩) σ.length,rk,_,aOe m M d s σ h.ho b1 b2 hr' b3 h.ip.fresh hs hn,h.add hr' rfl rfl rfl rfl rfl rfl (.inr rfl),?_,FrO.add⟩;simp [wK,DS.x,DS.l,Ei,oE]
theorem aS9(k m M:Nat)(d:DS)(rk:Int->Nat)(s:ByteArray)(σ:List (List D))(h:IV k m M d rk σ)(hk:k<=800):DetA 135 [.ref m 0,D.str s] σ d k m M (addX d.x 1 s):=by
 obtain⟨b1,b2,b3⟩:=h.bounds (by omega);have hc:¬((1:Int)=2/\fF s=false):=fun e=>by cases e.1
 by_cases hr:d.most<(d.l.length:Int)
 .rw [Po hc hr];exact DetA.same h (aN0 m M d s σ h.ho b1 b2 (by rw [vO] at hr;omega)) rfl
 rw [aCw hc hr];have hr':(d.es.length:Int) - 1<d.most:=by rw [vO] at hr;omega
 refine⟨wK d (Ei d.next 1 ⟨#[]⟩ s) σ.length,rk,_,aM2 m M d s σ h.ho b1 b2 hr' b3 h.ip.fresh,h.add hr' rfl rfl rfl rfl rfl rfl (.inl rfl),?_,FrO.add⟩;simp [wK,DS.x,DS.l,Ei,oE]
theorem IV.fd(h:IV k m M d rk σ) (he:e∈d.es):aG d.l e.n.ID=e.n:=nO h.ip.nd (iD he)
theorem aMg(k m M:Nat)(d:DS)(rk:Int->Nat)(p at_ id:Int)(σ:List (List D))(h:IV k m M d rk σ)(hk:k<=800):DetQ 136 [.ref m 0,D.int p,D.int at_,D.int id] σ d k m M (insX d.x (cF d.l rk) p at_ id):=by
 have hnb:=h.ip.NB (by omega);cases hp:eN d.l p with
 | false=>
  have e:insX d.x (cF d.l rk) p at_ id=(d.x,11):=by unfold insX;rw [aI (.inl hp)]
  rw [e];exact DetQ.same h (aAc m M d id at_ p σ h.ho hp) rfl
 | true =>
  obtain⟨ep,hep,rfl,hfp⟩:=pJ hp;cases hi:eN d.l id with
  | false=>
   have e:insX d.x (cF d.l rk) ep.n.ID at_ id=(d.x,11):=by unfold insX;rw [aI (.inr hi)]
   rw [e];exact DetQ.same h (aAt m M d ep at_ id σ h.ho hep hi) rfl
  | true =>
   obtain⟨en,hen,rfl,hfn⟩:=pJ hi;have c1:¬(eN d.x.l ep.n.ID=false\/eN d.x.l en.n.ID=false):=by
    rintro(e | e)
    .have e:eN d.l ep.n.ID=false:=e;rw [hp] at e;cases e
    have e:eN d.l en.n.ID=false:=e;rw [hi] at e;cases e
   have fp:aG d.x.l ep.n.ID=ep.n:=hfp;have fn:aG d.x.l en.n.ID=en.n:=hfn;by_cases hkd:ep.n.kind=2
   .have hpar:(¬en.n.parent= -1)↔0<=en.n.parent:=by
     rcases h.wt.par _ (iD hen)with e1 | ⟨q,q1,q2,q3⟩
     .omega
     have:=h.wt.nn q q1;omega
    have hct:=aR8 m M d rk ep en at_ σ h.ho hep hen hkd h.wt (hnb.en hep).1;have hbi:Es d rk ep en at_↔(en.n.ID=0\/0<=en.n.parent\/oB d.l (cF d.l rk) ep.n.ID en.n.ID=true\/at_<0\/(ep.n.kids.length:Int)<at_):=by
     unfold Es;rw [hpar]
    by_cases hb:Es d rk ep en at_
    .have e:insX d.x (cF d.l rk) ep.n.ID at_ en.n.ID=(d.x,1):=by
      unfold insX;rw [aC c1,fp,fn,aC (by rw [hkd];simp),aI];exact hbi.1 hb
     rw [e];refine DetQ.same h (hct.mono ?_) rfl;rintro r σ' (⟨h1,h2,h3⟩ | ⟨h1,h2,_⟩)
     .exact⟨h1,h3⟩
     exact absurd hb h2
    have hb':=mt hbi.2 hb;have e:insX d.x (cF d.l rk) ep.n.ID at_ en.n.ID=(⟨d.most,d.next,fI (fI d.l (jX ep.n (fV ep.n.kids at_.toNat en.n.ID))) (Jr en.n ep.n.ID)⟩,0):=by
     unfold insX;rw [aC c1,fp,fn,aC (by rw [hkd];simp),aC hb'];rfl
    rw [e];simp only [not_or] at hb';obtain⟨g1,g2,g3,g4,g5⟩:=hb';have hw:ep.n.ID∉cF d.l rk en.n.ID:=fun hm=>by
     apply g3;unfold oB;rw [hp,hi,Ji];simpa using hm
    obtain⟨d',rk',a,b,ow⟩:=h.ins hep hen (by omega) g1 hw at_.toNat (by omega);refine⟨d',rk',_,hct.mono ?_,a,b,FrO.upd2 hep hen _ _ ow⟩;rintro r σ' (⟨h1,h2,h3⟩ | ⟨h1,h2,i,h3,h4⟩)
    .exact absurd h2 hb
    subst h3;exact⟨h1,h4⟩
   have e:insX d.x (cF d.l rk) ep.n.ID at_ en.n.ID=(d.x,14):=by
    unfold insX;rw [aC c1,fp,aI hkd]
   rw [e];exact DetQ.same h (aG2 m M d ep en at_ σ h.ho hep hen hkd) rfl
theorem aNs(k m M:Nat)(d:DS)(rk:Int->Nat)(id at_:Int)(σ:List (List D))(h:IV k m M d rk σ)(hk:k<=800):DetQ 138 [.ref m 0,D.int id,D.int at_] σ d k m M (movX d.x id at_):=by
 have hnb:=h.ip.NB (by omega);cases hi:eN d.l id with
 | false=>
  have e:movX d.x id at_=(d.x,11):=by unfold movX;rw [aI hi]
  rw [e];exact DetQ.same h (aGl m M d id at_ σ h.ho hi) rfl
 | true =>
  obtain⟨n,hn,rfl,hfn⟩:=pJ hi;have c1:¬eN d.x.l n.n.ID=false:=fun e=>by have e:eN d.l n.n.ID=false:=e;rw [hi] at e;cases e
  have fn:aG d.x.l n.n.ID=n.n:=hfn;rcases h.WP.par n hn with hpar | ⟨p,hp,hpp,hoo⟩
  .have hno:eN d.l (-1)=false:=by
    cases hl:eN d.l (-1)with
    | false=>rfl
    | true=>obtain⟨y,y1,y2⟩:=nB.1 hl;have:=h.wt.nn y y1;omega
   have e:movX d.x n.n.ID at_=(d.x,1):=by
    unfold movX;rw [aC c1,fn,hpar,aI (.inl hno)]
   rw [e];exact DetQ.same h (aOl m M d n at_ σ h.ho hn hpar) rfl
  have hpnn:=h.wt.nn _ (iD hp);have fp:aG d.x.l n.n.parent=p.n:=by rw [<- hpp];exact h.fd hp
  have lp:eN d.x.l n.n.parent=true:=by rw [<- hpp];exact Gv hp
  have hmem:n.n.ID∈p.n.kids:=by
   rcases h.wt.par _ (iD hn)with e1 | ⟨q,q1,q2,q3⟩
   .omega
   have:q=p.n:=lZ h.ip.nd q1 (iD hp) (by rw [q2,hpp]);rw [<- this];exact q3
  have hkn:=h.wt.kn _ (iD hp);have hct:=aQb m M d p n at_ σ h.ho hp hn hpp (gP hoo) (hnb.en hp).1 (by omega) hkn;by_cases hb:at_<0\/(p.n.kids.length:Int)<=at_
  .have e:movX d.x n.n.ID at_=(d.x,1):=by
    unfold movX;rw [aC c1,fn,fp,lp,aI];exact .inr hb
   rw [e];refine DetQ.same h (hct.mono ?_) rfl;rintro r σ' (⟨h1,h2,h3⟩ | ⟨h1,h2,_⟩)
   .exact⟨h1,h3⟩
   exact absurd hb h2
  have e:movX d.x n.n.ID at_=(⟨d.most,d.next,fI d.l (jX p.n (fV (iK p.n.kids n.n.ID) at_.toNat n.n.ID))⟩,0):=by
   unfold movX;rw [aC c1,fn,fp,lp,aC (by rintro(e | e);cases e;exact hb e)];rfl
  rw [e];have hin:n.n.ID∉iK p.n.kids n.n.ID:=fun hm=>(vK.1 hm).2 rfl;have hsz:=(h.ip.sz _ (iD hp)).1;have hrl:=wB p.n.kids n.n.ID;have hrg:=Sq hkn n.n.ID;have hlen:(fV (iK p.n.kids n.n.ID) at_.toNat n.n.ID).length<=k+1:=by
   rw [jW _ _ _ (by omega)];omega
  obtain⟨d',a,b,ow⟩:=h.mov hp (wG (Bo hkn) hin) (fun j=>by
   rw [rF,vK];constructor
   .rintro(rfl | ⟨a,_⟩)
    .exact hmem
    exact a
   intro hj;by_cases e:j=n.n.ID
   .exact .inl e
   exact .inr ⟨hj,e⟩) hlen
  refine⟨d',rk,_,hct.mono ?_,a,b,FrO.upd hp _ ow⟩;rintro r σ' (⟨h1,h2,h3⟩ | ⟨h1,h2,i,h3,h4⟩)
  .exact absurd h2 hb
  subst h3;exact⟨h1,h4⟩
theorem aUh(k m M:Nat)(d:DS)(rk:Int->Nat)(id:Int)(σ:List (List D))(h:IV k m M d rk σ)(hk:k<=800):DetQ 140 [.ref m 0,D.int id] σ d k m M (remX d.x (cF (remP d.l id) rk) id):=by
 have hnb:=h.ip.NB (by omega);cases hi:eN d.l id with
 | false=>
  have e:remX d.x (cF (remP d.l id) rk) id=(d.x,11):=by unfold remX;rw [aI hi]
  rw [e];exact DetQ.same h (aL8 m M d id σ h.ho hi) rfl
 | true =>
  obtain⟨n,hn,rfl,hfn⟩:=pJ hi;have c1:¬eN d.x.l n.n.ID=false:=fun e=>by have e:eN d.l n.n.ID=false:=e;rw [hi] at e;cases e
  by_cases h0:n.n.ID=0
  .have e:remX d.x (cF (remP d.l n.n.ID) rk) n.n.ID=(d.x,1):=by unfold remX;rw [aC c1,aI h0]
   rw [e];exact DetQ.same h (aPo m M d n σ h.ho hn h0) rfl
  have e:remX d.x (cF (remP d.l n.n.ID) rk) n.n.ID=(⟨d.most,d.next,wS (remP d.l n.n.ID) (cF (remP d.l n.n.ID) rk n.n.ID)⟩,0):=by unfold remX;rw [aC c1,aC h0]
  rw [e];have hB:cF (remP d.l n.n.ID) rk n.n.ID=cF d.l rk n.n.ID:=aO3 h.wt (iD hn) _ (aV _);have hwt':=h.wt.rem (iD hn)
  -- with whatever its parent has come to be
  have main:∀(d1:DS) (σ1:List (List D)),d1.most=d.most->d1.next=d.next->d1.l=remP d.l n.n.ID->IP0 (k+1) d1->DO m M d1 σ1->σ1.length=σ.length->(∀i,i≠m->(∀e∈d.es,e.o≠i)->σ1[i]?=σ[i]?)->(∀e∈d1.es,∃e0∈d.es,e0.o=e.o)->(∀(i:Nat) (cs:List D),σ1[i]?=some cs->σ[i]?=some cs\/∀x∈cs,Sc σ.length x)->Ct prog 207 [.ref m 0,.ref n.o 0] σ (fun r σ'=>r= .tup []/\σ'=σ1)->
    DetQ 140 [.ref m 0,D.int n.n.ID] σ d k m M (⟨d.most,d.next,wS (remP d.l n.n.ID) (cF (remP d.l n.n.ID) rk n.n.ID)⟩,0):=by
   intro d1 σ1 em en el hip hdo hσl hkp how hsc hlv;have hnd1:(d1.l.map ND.ID).Nodup:=hip.nd;have hw1:WD d1 (cF (remP d.l n.n.ID) rk) rk:=by
    refine⟨hip.NB (by omega),fun e he=>nO hnd1 (iD he),by rw [el];exact aA5 h.wt (by have:=h.ip.len;rw [vO];omega) _,fun e he j hj=>?_⟩;have hfe:aG d1.l e.n.ID=e.n:=nO hnd1 (iD he);have hj2:j∈(aG d.l e.n.ID).kids:=(Um h.wt n.n.ID e.n.ID).subset (by rw [<- el,hfe];exact hj);have hle:eN d.l e.n.ID=true:=by
     cases hl:eN d.l e.n.ID with
     | true=>rfl
     | false=>rw [jT hl] at hj2;cases hj2
    obtain⟨q,q1,q2,q3⟩:=fE hle;rw [q3] at hj2;obtain⟨c,c1,c2,_⟩:=h.wt.kids q q1 j hj2;rw [el];have:eN d.l j=true:=nB.2 ⟨c,c1,c2⟩;unfold remP;split
    .rw [yZ];exact this
    exact this
   have hid:eN d1.l n.n.ID=true:=by
    rw [el];unfold remP;split
    .rw [yZ];exact hi
    exact hi
   have hct0:=aR7 m M d d1 n σ1 (cF (remP d.l n.n.ID) rk) rk σ h.ho hn h0 hlv hdo hw1 hid (by have:=hnd1;rwa [DS.l,iC] at this);have hl2:(wN d1 (cF (remP d.l n.n.ID) rk n.n.ID)).l=wS (remP d.l n.n.ID) (cF (remP d.l n.n.ID) rk n.n.ID):=by rw [Zk,el]
   have hsub:∀y∈(wN d1 (cF (remP d.l n.n.ID) rk n.n.ID)).l,y∈d1.l:=fun y hy=>by
    rw [Zk] at hy;exact(cY.1 hy).1
   have hlen:(wN d1 (cF (remP d.l n.n.ID) rk n.n.ID)).es.length<=d1.es.length:=gE _ _;have hct:=hct0.trim (Q':=fun r τ=>r=D.int 0/\τ=σ1.set m (sW M (wN d1 (cF (remP d.l n.n.ID) rk n.n.ID)))) fun r σ' ⟨hr,J,hs⟩=>⟨_,J,hs,by rw [cV,hσl],by rw [hr];exact Sc.v _,aH3 hsc (aR6 (by have:=hdo.hM;omega) fun e he=>by have:=hdo.lt (cY.1 he).1;omega),hr,rfl⟩;refine⟨wN d1 (cF (remP d.l n.n.ID) rk n.n.ID),rk,_,hct,⟨hdo.del _,⟨?_,?_,hip.most,hip.nx,fun y hy=>hip.lt y (hsub y hy),fun y hy=>hip.sz y (hsub y hy),fun y hy=>hip.st y (hsub y hy),?_,fun y hy=>hip.kd y (hsub y hy),?_⟩,?_⟩,?_,by rw [cV,hσl];exact aV _,fun i hi hm ho=>by rw [eY (gP hm)];exact hkp i hm ho,fun y hy=> .inl (how y (cY.1 hy).1)⟩
   .rw [hl2,hB];exact hwt'.nd
   .have:=hip.len;omega
   .obtain⟨r0,r1,r2,r3,r4⟩:=hip.rt;refine⟨r0,?_,r2,r3,r4⟩;rw [Zk];refine cY.2 ⟨r1,?_⟩;cases hc:(cF (remP d.l n.n.ID) rk n.n.ID).any fun j=>decide (j=r0.ID)with
    | false=>rfl
    | true=>
     exfalso;have hm:=(Ln _ _).1 hc;rw [hB,r2] at hm;obtain⟨z,z1,z2,z3,z4⟩:=h.ip.rt;rcases xH h.wt z1 (by rw [z2];exact hm)with e1 | ⟨q,q1,q2,_⟩
     .exact h0 (by rw [<- e1,z2])
     have:=h.wt.nn q q1;omega
   .have:=hip.room;show(_:Int) - 1<=d1.most;omega
   .rw [hl2,hB];exact hwt'
   show(⟨d1.most,d1.next,_⟩:RD)=_
   rw [hl2,em,en]
  rcases h.WP.par n hn with hpar | ⟨p,hp,hpp,hoo⟩
  .have hno:eN d.l n.n.parent=false:=by
    cases hl:eN d.l n.n.parent with
    | false=>rfl
    | true=>obtain⟨y,y1,y2⟩:=nB.1 hl;have:=h.wt.nn y y1;omega
   have hrp:remP d.l n.n.ID=d.l:=by unfold remP;rw [hfn,hno];simp
   exact main d σ rfl rfl hrp.symm (h.ip.mono (by omega)) h.ho rfl (fun _ _ _=>rfl) (fun e he=>⟨e,he,rfl⟩) (fun _ _ h=> .inl h) (aVa m M d n σ h.ho hn hno)
  have lp:eN d.l n.n.parent=true:=by rw [<- hpp];exact Gv hp
  have fp:aG d.l n.n.parent=p.n:=by rw [<- hpp];exact h.fd hp
  have hrp:remP d.l n.n.ID=fI d.l (jX p.n (iK p.n.kids n.n.ID)):=by unfold remP;rw [hfn,aI lp,fp]
  obtain⟨s1,s2,s3,s4⟩:=h.ip.sz _ (iD hp);have hrl:=wB p.n.kids n.n.ID;have hip:=h.ip.put h.ho.nd hp (k':=k+1) (by omega) (sD p.n (iK p.n.kids n.n.ID)) ⟨by show(iK _ _).length<=_;omega,by show p.n.classes.length<=_;omega,by show p.n.attrs.length<=_;omega,by show p.n.styles.length<=_;omega⟩ (h.ip.st p.n (iD hp)) (fun _=>rfl) rfl;exact main (yN d p.o (jX p.n (iK p.n.kids n.n.ID))) _ rfl rfl (by rw [hrp];exact Fk h.ho.nd h.ip.nd hp (sD _ _)) hip (h.ho.upd hp (sD _ _)) (by rw [cV]) (fun i _ hi=>by rw [eY (hi p hp)]) (yF _ _ _) (aH3 (fun _ _ h=> .inl h) (aSa _ _)) (aM7 m M d p n σ h.ho hp hn hpp (gP hoo) (hnb.en hp).1)
variable {F:FuncId}{args:List D}{e:EN}{kk q:Int}{name nm:ByteArray}
variable {k m M:Nat} {d:DS} {rk:Int->Nat} {σ:List (List D)}
def Hd(q kk:Int)(nm name:ByteArray):Prop:=(q=1/\kk=1/\nm=⟨#[]⟩)\/(¬q=1/\kk=2/\nm=name)
theorem aKl(h:IV k m M d rk σ) (he:e∈d.es) (ha:Hd q kk nm name)(ho:tO e.n kk nm=0):¬e.n.ID=0/\(q=1↔(aG d.x.l e.n.ID).kind=1)/\(q=1\/fF name=true):=by
 obtain⟨o1,o2,o3⟩:=aBp ho;have hf:aG d.x.l e.n.ID=e.n:=h.fd he;rw [hf];rcases ha with ⟨rfl,rfl,rfl⟩ | ⟨a1,rfl,rfl⟩
 .exact⟨o1,⟨fun _=>o2,fun _=>rfl⟩,.inl rfl⟩
 exact⟨o1,⟨fun e1=>absurd e1 a1,fun e1=>by omega⟩,.inr (o3 rfl)⟩
theorem aRr(h:IV k m M d rk σ) (he:e∈d.es) {v:ByteArray} {num:Int} (ha:Hd q kk nm name)(ho:¬tO e.n kk nm=0):setX d.x q e.n.ID name v num=(d.x,tO e.n kk nm):=by
 have hf:aG d.x.l e.n.ID=e.n:=h.fd he;have hl:eN d.x.l e.n.ID=true:=Gv he;by_cases h0:e.n.ID=0
 .rw [aH7 hl h0];unfold tO;rw [aI h0]
 have hkd:=h.ip.kd _ (iD he);by_cases h1:e.n.kind=kk
 .rcases ha with ⟨rfl,rfl,rfl⟩ | ⟨a1,rfl,rfl⟩
  .exfalso;apply ho;unfold tO;rw [aC h0,aC (fun q=>q h1),aC (by rintro⟨a,_⟩;omega)]
  have h2:fF nm=false:=by
   cases hn:fF nm with
   | false=>rfl
   | true=>exfalso;apply ho;unfold tO;rw [aC h0,aC (fun q=>q h1),aC (by rintro⟨_,a⟩;rw [hn] at a;cases a)]
  rw [aOn hl h0 (by rw [hf];constructor <;> intro a <;> omega) a1 h2];unfold tO;rw [aC h0,aC (fun q=>q h1),aI ⟨rfl,h2⟩]
 rw [aCl hl h0 (by rw [hf];rcases ha with ⟨rfl,rfl,rfl⟩ | ⟨a1,rfl,rfl⟩ <;> (intro a;omega))];unfold tO;rw [aC h0,aI h1]
theorem tV {id num:Int} {v:ByteArray} (h:IV k m M d rk σ)(hs:nm.size<=1000)(ha:Hd q kk nm name)
  (hN:∀c:Int,Ct prog 217 [.ref m 0,D.int id,D.int kk,D.str nm] σ (fun r σ'=>r= .tup [.v (.pointer none),D.int c]/\σ'=σ)->¬c=0->Ct prog F args σ (fun r σ'=>r=D.int c/\σ'=σ))
  (hX:∀e∈d.es,e.n.ID=id->tO e.n kk nm=0->Ct prog 217 [.ref m 0,D.int id,D.int kk,D.str nm] σ (fun r σ'=>r= .tup [.ref e.o 0,D.int 0]/\σ'=σ)->DetQ F args σ d k m M (setX d.x q id name v num)):
  DetQ F args σ d k m M (setX d.x q id name v num):=by
 cases hl:eN d.l id with
 | false=>
  have e:setX d.x q id name v num=(d.x,11):=Rr hl;rw [e];exact DetQ.same h (hN 11 (aJ1 m M d id kk nm σ h.ho hl) (by decide)) rfl
 | true=>
  obtain⟨e,he,rfl,hf⟩:=pJ hl;by_cases ho:tO e.n kk nm=0
  .exact hX e he rfl ho (aPk m M d e kk nm σ h.ho he hs ho)
  rw [aRr h he ha ho];exact DetQ.same h (hN _ (aRw m M d e kk nm σ h.ho he hs ho) ho) rfl
theorem xW {num:Int} {v:ByteArray} (h:IV k m M d rk σ) (he:e∈d.es)(ha:Hd q kk nm name)(ho:tO e.n kk nm=0) {n':ND} (hc:chN e.n q name v num=some n')
  (hid:n'.ID=e.n.ID) (h2:n'.kids=e.n.kids) (h3:n'.parent=e.n.parent) (h4:n'.kind=e.n.kind) (hs:n'.classes.length<=k+1/\n'.attrs.length<=k+1/\n'.styles.length<=k+1) (hst:Sorted nA n'.attrs/\Sorted nP n'.styles) (hct:Ct prog F args σ (fun r σ'=>r=D.int 0/\σ'=σ.set e.o (gT n'))):
  DetQ F args σ d k m M (setX d.x q e.n.ID name v num):=by
 obtain⟨a1,a2,a3⟩:=aKl h he ha ho;have hf:aG d.x.l e.n.ID=e.n:=h.fd he;rw [rD (Gv he) a1 a2 a3 (by rw [hf];exact hc)];obtain⟨b1,b2⟩:=h.set he hid h2 h3 h4 hs hst;exact⟨_,rk,_,hct,b1,b2,FrO.upd he _ (yF _ _ _)⟩
theorem Ss {num:Int} {v:ByteArray} (h:IV k m M d rk σ) (he:e∈d.es)(ha:Hd q kk nm name)(ho:tO e.n kk nm=0)(hc:chN e.n q name v num=none)(hct:Ct prog F args σ (fun r σ'=>r=D.int 1/\σ'=σ)):
  DetQ F args σ d k m M (setX d.x q e.n.ID name v num):=by
 obtain⟨a1,a2,a3⟩:=aKl h he ha ho;have hf:aG d.x.l e.n.ID=e.n:=h.fd he;rw [Ds (Gv he) a1 a2 a3 (by rw [hf];exact hc)];exact DetQ.same h hct rfl
theorem IV.szs(h:IV k m M d rk σ) (he:e∈d.es):e.n.classes.length<=k/\e.n.attrs.length<=k/\e.n.styles.length<=k:=(h.ip.sz _ (iD he)).2
theorem IV.sts(h:IV k m M d rk σ) (he:e∈d.es):Sorted nA e.n.attrs/\Sorted nP e.n.styles:=h.ip.st _ (iD he)
variable (k m M d rk)(id:Int)(s v:ByteArray)(num:Int)(σ)
theorem aCf(h:IV k m M d rk σ)(hk:k<=800)(hs:s.size<=1000):DetQ 163 [.ref m 0,D.int id,D.str s] σ d k m M (setX d.x 0 id s v num):=by
 have ha:Hd 0 2 s s:= .inr ⟨by decide,rfl,rfl⟩;refine tV h hs ha (fun c=>aMn m id c s σ) fun e he hid ho hown=>?_;subst hid;obtain⟨z1,z2,z3⟩:=h.szs he;exact xW h he ha ho (n':= { e.n with tag:=s }) (by simp [chN]) rfl rfl rfl rfl ⟨by dsimp only;omega,by dsimp only;omega,by dsimp only;omega⟩ (h.sts he) (aNq m e.o e.n.ID e.n s σ hown (h.ho.hn e he))
theorem aQ9(h:IV k m M d rk σ)(hk:k<=800):DetQ 164 [.ref m 0,D.int id,D.str v] σ d k m M (setX d.x 1 id s v num):=by
 have ha:Hd 1 1 ⟨#[]⟩ s:= .inl ⟨rfl,rfl,rfl⟩;refine tV h (by decide) ha (fun c=>aN9 m id c v σ) fun e he hid ho hown=>?_;subst hid;obtain⟨z1,z2,z3⟩:=h.szs he;exact xW h he ha ho (n':= { e.n with text:=v }) (by simp [chN]) rfl rfl rfl rfl ⟨by dsimp only;omega,by dsimp only;omega,by dsimp only;omega⟩ (h.sts he) (aM4 m e.o e.n.ID e.n v σ hown (h.ho.hn e he))
theorem aCb(h:IV k m M d rk σ)(hk:k<=800)(hs:s.size<=1000):DetQ 199 [.ref m 0,D.int id,D.str s,D.str v] σ d k m M (setX d.x 2 id s v num):=by
 have ha:Hd 2 2 s s:= .inr ⟨by decide,rfl,rfl⟩;refine tV h hs ha (fun c=>aI9 m id c s v σ) fun e he hid ho hown=>?_;subst hid;obtain⟨z1,z2,z3⟩:=h.szs he;obtain⟨y1,y2⟩:=h.sts he;have hl:=Nf nA e.n.attrs ⟨s,v⟩;exact xW h he ha ho (n':= { e.n with attrs:=gS nA e.n.attrs ⟨s,v⟩ }) (by simp [chN]) rfl rfl rfl rfl ⟨by dsimp only;omega,by dsimp only;omega,by dsimp only;omega⟩ ⟨rP nA y1 _,y2⟩ (aMx m e.o e.n.ID e.n s v σ hown (h.ho.hn e he) (by omega) y1)
theorem Vx(h:IV k m M d rk σ)(hk:k<=800)(hs:s.size<=1000):DetQ 200 [.ref m 0,D.int id,D.str s] σ d k m M (setX d.x 3 id s v num):=by
 have ha:Hd 3 2 s s:= .inr ⟨by decide,rfl,rfl⟩;refine tV h hs ha (fun c=>aMd m id c s σ) fun e he hid ho hown=>?_;subst hid;obtain⟨z1,z2,z3⟩:=h.szs he;obtain⟨y1,y2⟩:=h.sts he;have hl:=Dr nA e.n.attrs s;cases hc:jJ nA e.n.attrs s with
 | false=>exact Ss h he ha ho (by simp [chN,hc]) (aJ3 m e.o e.n.ID e.n s σ hown (h.ho.hn e he) (by omega) y1 hc)
 | true=>exact xW h he ha ho (n':= { e.n with attrs:=lN nA e.n.attrs s }) (by simp [chN,hc]) rfl rfl rfl rfl ⟨by dsimp only;omega,by dsimp only;omega,by dsimp only;omega⟩ ⟨tT nA y1 _,y2⟩ (aH8 m e.o e.n.ID e.n s σ hown (h.ho.hn e he) (by omega) y1 hc)
theorem aB5(h:IV k m M d rk σ)(hk:k<=800)(hs:s.size<=1000):DetQ 202 [.ref m 0,D.int id,D.str s,D.int num] σ d k m M (setX d.x 4 id s v num):=by
 have ha:Hd 4 2 s s:= .inr ⟨by decide,rfl,rfl⟩;refine tV h hs ha (fun c=>aMj m id c s num σ) fun e he hid ho hown=>?_;subst hid;obtain⟨z1,z2,z3⟩:=h.szs he;obtain⟨y1,y2⟩:=h.sts he;have hl:=Nf nP e.n.styles ⟨s,Ny num⟩;exact xW h he ha ho (n':= { e.n with styles:=gS nP e.n.styles ⟨s,Ny num⟩ }) (by simp [chN]) rfl rfl rfl rfl ⟨by dsimp only;omega,by dsimp only;omega,by dsimp only;omega⟩ ⟨y1,rP nP y2 _⟩ (aJf m e.o e.n.ID e.n s num σ hown (h.ho.hn e he) (by omega) y2)
theorem Xk(h:IV k m M d rk σ)(hk:k<=800)(hs:s.size<=1000):DetQ 203 [.ref m 0,D.int id,D.str s] σ d k m M (setX d.x 5 id s v num):=by
 have ha:Hd 5 2 s s:= .inr ⟨by decide,rfl,rfl⟩;refine tV h hs ha (fun c=>aLj m id c s σ) fun e he hid ho hown=>?_;subst hid;obtain⟨z1,z2,z3⟩:=h.szs he;obtain⟨y1,y2⟩:=h.sts he;have hl:=Dr nP e.n.styles s;cases hc:jJ nP e.n.styles s with
 | false=>exact Ss h he ha ho (by simp [chN,hc]) (aOk m e.o e.n.ID e.n s σ hown (h.ho.hn e he) (by omega) y2 hc)
 | true=>exact xW h he ha ho (n':= { e.n with styles:=lN nP e.n.styles s }) (by simp [chN,hc]) rfl rfl rfl rfl ⟨by dsimp only;omega,by dsimp only;omega,by dsimp only;omega⟩ ⟨y1,tT nP y2 _⟩ (aNg m e.o e.n.ID e.n s σ hown (h.ho.hn e he) (by omega) y2 hc)
theorem Xg(h:IV k m M d rk σ)(hk:k<=800)(hs:s.size<=1000):DetQ 197 [.ref m 0,D.int id,D.str s] σ d k m M (setX d.x 6 id s v num):=by
 have ha:Hd 6 2 s s:= .inr ⟨by decide,rfl,rfl⟩;refine tV h hs ha (fun c=>aLl m id c s σ) fun e he hid ho hown=>?_;subst hid;obtain⟨z1,z2,z3⟩:=h.szs he;cases hc:has s e.n.classes with
 | true=>exact Ss h he ha ho (by simp [chN,hc]) (aH1 m e.o e.n.ID e.n s σ hown (h.ho.hn e he) (by omega) hc)
 | false=>exact xW h he ha ho (n':= { e.n with classes:=e.n.classes++ [s] }) (by simp [chN,hc]) rfl rfl rfl rfl ⟨by simp;omega,by dsimp only;omega,by dsimp only;omega⟩ (h.sts he) (aIs m e.o e.n.ID e.n s σ hown (h.ho.hn e he) (by omega) hc)
theorem Ui(q:Int)(hq:¬q=0/\¬q=1/\¬q=2/\¬q=3/\¬q=4/\¬q=5/\¬q=6)(h:IV k m M d rk σ)(hk:k<=800)(hs:s.size<=1000):DetQ 196 [.ref m 0,D.int id,D.str s] σ d k m M (setX d.x q id s v num):=by
 obtain⟨q0,q1,q2,q3,q4,q5,q6⟩:=hq;have ha:Hd q 2 s s:= .inr ⟨q1,rfl,rfl⟩;refine tV h hs ha (fun c=>aNj m id c s σ) fun e he hid ho hown=>?_;subst hid;obtain⟨z1,z2,z3⟩:=h.szs he;have hl:=Pa e.n.classes s;cases hc:has s e.n.classes with
 | false=>exact Ss h he ha ho (by simp [chN,hc,q0,q1,q2,q3,q4,q5,q6]) (aN6 m e.o e.n.ID e.n s σ hown (h.ho.hn e he) (by omega) hc)
 | true=>exact xW h he ha ho (n':= { e.n with classes:=kX e.n.classes s }) (by simp [chN,hc,q0,q1,q2,q3,q4,q5,q6]) rfl rfl rfl rfl ⟨by dsimp only;omega,by dsimp only;omega,by dsimp only;omega⟩ (h.sts he) (aOi m e.o e.n.ID e.n s σ hown (h.ho.hn e he) (by omega) hc)
variable {M i k m:Nat}{a b:List ND}{rk:Int->Nat}{x:RD}{σ σ':List (List D)}
theorem Lm (h:a.Perm b)(hn:(b.map ND.ID).Nodup)(id:Int):mF a id=mF b id:=by
 have ha:(a.map ND.ID).Nodup:=(h.map ND.ID).nodup_iff.2 hn;cases e:mF b id with
 | some n=>
  obtain⟨h1,rfl⟩:=oQ e;exact Na ha (h.mem_iff.2 h1)
 | none=>
  unfold mF at e |-;rw [qC] at e |-;exact fun n h1=>e n (h.mem_iff.1 h1)
theorem oL (h:a.Perm b)(hn:(b.map ND.ID).Nodup):aG a=aG b:=funext fun id=>by unfold aG;rw [Lm h hn]
theorem aJk (h:a.Perm b)(hn:(b.map ND.ID).Nodup):eN a=eN b:=funext fun id=>by unfold eN;rw [Lm h hn]
theorem Nt (h:aG a=aG b):∀(f:Nat) (id:Int),Jo f a id=Jo f b id
 | 0,_=>rfl
 | f+1,id=>by
  simp only [Jo,h];congr 1;exact lQ fun k _=>Nt h f k
theorem vB (h:aG a=aG b)(rk:Int->Nat):cF a rk=cF b rk:=funext fun id=>Nt h _ _
structure XP(d x:RD):Prop where
 most:x.most=d.most
 next:x.next=d.next
 l:x.l.Perm d.l
 nd:(d.l.map ND.ID).Nodup
theorem XP.refl {d:RD} (h:(d.l.map ND.ID).Nodup):XP d d:=⟨rfl,rfl,List.Perm.refl _,h⟩
variable {d:RD}
theorem XP.fd(h:XP d x):aG x.l=aG d.l:=oL h.l h.nd
theorem XP.il(h:XP d x):eN x.l=eN d.l:=aJk h.l h.nd
theorem XP.wb(h:XP d x):oB x.l=oB d.l:=by funext b i o;unfold oB;rw [h.il]
theorem XP.ix(h:XP d x):Bu x.l=Bu d.l:=by funext i;unfold Bu;rw [h.il,h.fd]
theorem XP.len(h:XP d x):x.l.length=d.l.length:=h.l.length_eq
theorem XP.nb(h:XP d x)(hn:NB d.l):NB x.l:=by
 have hm:∀n∈x.l,n∈d.l:=fun n hn=>h.l.mem_iff.1 hn;exact⟨by rw [h.len];exact hn.len,fun n h1=>hn.kids n (hm n h1),fun n h1=>hn.cls n (hm n h1),fun n h1=>hn.ats n (hm n h1),fun n h1=>hn.sts n (hm n h1)⟩
theorem Tr.perm (h:aG a=aG b) {bel:Int->List Int} (ht:Tr b bel rk):Tr a bel rk:=⟨fun id=>by rw [h];exact ht.eq id,fun id=>by rw [h];exact ht.dec id,ht.len⟩
theorem XP.put(h:XP d x)(n:ND):(fI x.l n).Perm (fI d.l n):=by unfold fI;exact h.l.map _
theorem XP.remP(h:XP d x)(id:Int):(Go.Proofs.YtbgfljpnhhdkoaaGreat.remP x.l id).Perm (Go.Proofs.YtbgfljpnhhdkoaaGreat.remP d.l id):=by
 unfold Go.Proofs.YtbgfljpnhhdkoaaGreat.remP;rw [h.fd,h.il];split
 .exact h.put _
 exact h.l
theorem sV(l:List ND)(id:Int):(remP l id).map ND.ID=l.map ND.ID:=by
 unfold remP;split
 .exact nN _ _
 rfl
theorem XP.addX(h:XP d x)(hlt:∀n∈d.l,n.ID<d.next)(kind:Int)(s:ByteArray):(addX x kind s).2=(addX d kind s).2/\XP (Go.Proofs.YtbgfljpnhhdkoaaGreat.addX d kind s).1 (Go.Proofs.YtbgfljpnhhdkoaaGreat.addX x kind s).1:=by
 unfold Go.Proofs.YtbgfljpnhhdkoaaGreat.addX;rw [h.most,h.next,h.len];split
 .exact⟨rfl,h⟩
 split
 .exact⟨rfl,h⟩
 refine⟨rfl,rfl,rfl,h.l.append_right _,?_⟩;rw [dK,mR];refine⟨h.nd,by simp,fun a ha b hb=>?_⟩;simp only [eZ,oY,gO] at hb;obtain⟨n,h1,rfl⟩:=aX.1 ha;have:=hlt n h1;simp only [oE] at hb;omega
theorem XP.insX(h:XP d x)(bel:Int->List Int)(p at_ id:Int):(insX x bel p at_ id).2=(insX d bel p at_ id).2/\XP (Go.Proofs.YtbgfljpnhhdkoaaGreat.insX d bel p at_ id).1 (Go.Proofs.YtbgfljpnhhdkoaaGreat.insX x bel p at_ id).1:=by
 unfold Go.Proofs.YtbgfljpnhhdkoaaGreat.insX;rw [h.most,h.next,h.fd,h.il,h.wb];split
 .exact⟨rfl,h⟩
 split
 .exact⟨rfl,h⟩
 split
 .exact⟨rfl,h⟩
 refine⟨rfl,rfl,rfl,?_,?_⟩
 .unfold fI;exact(h.l.map _).map _
 show((fI (fI d.l _) _).map ND.ID).Nodup
 rw [nN,nN];exact h.nd
theorem XP.movX(h:XP d x)(id at_:Int):(movX x id at_).2=(movX d id at_).2/\XP (Go.Proofs.YtbgfljpnhhdkoaaGreat.movX d id at_).1 (Go.Proofs.YtbgfljpnhhdkoaaGreat.movX x id at_).1:=by
 unfold Go.Proofs.YtbgfljpnhhdkoaaGreat.movX;rw [h.most,h.next,h.fd,h.il];split
 .exact⟨rfl,h⟩
 split
 .exact⟨rfl,h⟩
 exact⟨rfl,rfl,rfl,h.put _,by show((fI d.l _).map ND.ID).Nodup;rw [nN];exact h.nd⟩
theorem XP.remX(h:XP d x)(bel:Int->List Int)(id:Int):(remX x bel id).2=(remX d bel id).2/\XP (Go.Proofs.YtbgfljpnhhdkoaaGreat.remX d bel id).1 (Go.Proofs.YtbgfljpnhhdkoaaGreat.remX x bel id).1:=by
 unfold Go.Proofs.YtbgfljpnhhdkoaaGreat.remX;rw [h.most,h.next,h.il];split
 .exact⟨rfl,h⟩
 split
 .exact⟨rfl,h⟩
 refine⟨rfl,rfl,rfl,(h.remP id).filter _,?_⟩;have hn:((Go.Proofs.YtbgfljpnhhdkoaaGreat.remP d.l id).map ND.ID).Nodup:=by rw [sV];exact h.nd
 exact hn.sublist (Ag _ sN)
theorem XP.setX(h:XP d x)(kind id:Int)(name v:ByteArray)(num:Int):(setX x kind id name v num).2=(setX d kind id name v num).2/\XP (Go.Proofs.YtbgfljpnhhdkoaaGreat.setX d kind id name v num).1 (Go.Proofs.YtbgfljpnhhdkoaaGreat.setX x kind id name v num).1:=by
 unfold Go.Proofs.YtbgfljpnhhdkoaaGreat.setX;rw [h.most,h.next,h.fd,h.il];split
 .exact⟨rfl,h⟩
 split
 .exact⟨rfl,h⟩
 split
 .exact⟨rfl,h⟩
 split
 .exact⟨rfl,h⟩
 split
 .exact⟨rfl,h⟩
 exact⟨rfl,rfl,rfl,h.put _,by show((fI d.l _).map ND.ID).Nodup;rw [nN];exact h.nd⟩
def Nx(d d':RD):Prop:=d'.most=d.most/\(d'.next=d.next\/d'.next=d.next+1)
theorem Nx.refl(d:RD):Nx d d:=⟨rfl,.inl rfl⟩
theorem aCa(d:RD)(kind:Int)(s:ByteArray):Nx d (addX d kind s).1:=by
 unfold addX;split
 .exact Nx.refl d
 split
 .exact Nx.refl d
 exact⟨rfl,.inr rfl⟩
theorem aPv(d:RD)(bel:Int->List Int)(p at_ id:Int):Nx d (insX d bel p at_ id).1:=by
 unfold insX;(repeat' split) <;> exact⟨rfl,.inl rfl⟩
theorem aRy(d:RD)(id at_:Int):Nx d (movX d id at_).1:=by
 unfold movX;(repeat' split) <;> exact⟨rfl,.inl rfl⟩
theorem aRi(d:RD)(bel:Int->List Int)(id:Int):Nx d (remX d bel id).1:=by
 unfold remX;(repeat' split) <;> exact⟨rfl,.inl rfl⟩
theorem aOy(d:RD)(kind id:Int)(name v:ByteArray)(num:Int):Nx d (setX d kind id name v num).1:=by
 unfold setX;(repeat' split) <;> exact⟨rfl,.inl rfl⟩
structure IX(k m M:Nat)(d:DS)(rk:Int->Nat)(x:RD)(σ:List (List D)):Prop where
 iv:IV k m M d rk σ
 xp:XP d.x x
theorem IX.app {d:DS} (h:IX k m M d rk x σ)(J:List (List D)):IX k m M d rk x (σ++J):=⟨h.iv.app J,h.xp⟩
theorem IX.mono {d:DS} (h:IX k m M d rk x σ):IX (k+1) m M d rk x σ:=⟨h.iv.mono,h.xp⟩
theorem DO.frame {d:DS} (h:DO m M d σ)(hl:σ.length<=σ'.length)(hf:∀i,(i=m\/∃e∈d.es,e.o=i)->σ'[i]?=σ[i]?):DO m M d σ':=
 ⟨by rw [hf m (.inl rfl)];exact h.hm,fun e he=>by rw [hf e.o (.inr ⟨e,he,rfl⟩)];exact h.hn e he,h.nm,h.nd,by have:=h.hM;omega⟩
theorem IX.frame {d:DS} (h:IX k m M d rk x σ)(hl:σ.length<=σ'.length)(hf:∀i,(i=m\/∃e∈d.es,e.o=i)->σ'[i]?=σ[i]?):IX k m M d rk x σ':=⟨⟨h.iv.ho.frame hl hf,h.iv.ip,h.iv.wt⟩,h.xp⟩
def Off(m:Nat)(d:DS)(i:Nat):Prop:=i≠m/\∀e∈d.es,e.o≠i
theorem Off.step {d d':DS} (h:Off m d i)(hi:i<σ.length)(hf:FrO m d d' σ σ'):Off m d' i/\σ'[i]?=σ[i]?:=
 ⟨⟨h.1,fun e he e1=>by
  rcases hf.own e he with ⟨e0,h0,q⟩ | h1
  .exact h.2 e0 h0 (q.trans e1)
  omega⟩,hf.keep i hi h.1 h.2⟩
theorem IX.put {d:DS} (h:IX k m M d rk x σ) (ho:Off m d i)(c:List D):IX k m M d rk x (σ.set i c):=
 h.frame (by rw [cV];exact aV _) fun j hj=>by
  rw [eY];rcases hj with rfl | ⟨e,he,rfl⟩
  .exact ho.1
  exact fun q=>ho.2 e he q.symm
theorem IX.off {d:DS} (h:IX k m M d rk x σ) (hi:σ.length<=i):Off m d i:=
 ⟨fun e=>by have:=lC h.iv.ho.hm;omega,fun e he q=>by have:=h.iv.ho.lt he;omega⟩
end Go.Proofs.YtbgfljpnhhdkoaaGreat
