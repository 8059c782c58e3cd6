import Derived.Test.YtbgfljpnhhdkoaaGreatArLaw2
set_option maxHeartbeats 8000000
set_option linter.all false
set_option maxRecDepth 20000
open Go.Proofs.Tryz
namespace Go.Proofs.YtbgfljpnhhdkoaaGreat
open Go Go.Vm
variable {args:List D}{d:DS}{e:EN}{m:Nat}{s:ByteArray}{x:RD}{σ:List (List D)}
structure FrO(m:Nat)(d d':DS)(σ σ':List (List D)):Prop where
 len:σ.length<=σ'.length
 keep:∀i,i<σ.length->i≠m->(∀e∈d.es,e.o≠i)->σ'[i]?=σ[i]?
 own:∀e∈d'.es,(∃e0∈d.es,e0.o=e.o)\/σ.length<=e.o
theorem FrO.refl(m:Nat)(d:DS)(σ:List (List D)):FrO m d d σ σ:=⟨aW _,fun _ _ _ _=>rfl,fun e he=> .inl ⟨e,he,rfl⟩⟩
theorem FrO.upd {d':DS} (he:e∈d.es)(c:List D)(ho:∀e∈d'.es,∃e0∈d.es,e0.o=e.o):FrO m d d' σ (σ.set e.o c):=
 ⟨by rw [cK];exact aW _,fun i _ _ h=>by rw [eR (h e he)],fun x hx=> .inl (ho x hx)⟩
theorem FrO.upd2 {d':DS} {f:EN} (he:e∈d.es)(hf:f∈d.es)(c c':List D)(ho:∀e∈d'.es,∃e0∈d.es,e0.o=e.o):FrO m d d' σ ((σ.set e.o c).set f.o c'):=
 ⟨by rw [cK,cK];exact aW _,fun i _ _ h=>by rw [eR (h f hf),eR (h e he)],fun x hx=> .inl (ho x hx)⟩
theorem FrO.add {n:ND} {c c':List D} :FrO m d (wB d n σ.length) σ (σ.set m c++ [c']):=
 ⟨by simp,fun i hi hm _=>by rw [bC (by rw [cK];exact hi),eR (Ne.symm hm)],fun x hx=>by
  rcases bT.1 hx with h | h
  .exact .inl ⟨x,h,rfl⟩
  simp only [fS] at h;subst h;exact .inr (aW _)⟩
def DetQ(F:FuncId)(args:List D)(σ:List (List D))(d:DS)(k m M:Nat)(y:RD×Int):Prop:=∃d' rk' σ',Ct prog F args σ (fun r τ=>r=D.int y.2/\τ=σ')/\IV (k+1) m M d' rk' σ'/\d'.x=y.1/\FrO m d d' σ σ'
def DetA(F:FuncId)(args:List D)(σ:List (List D))(d:DS)(k m M:Nat)(y:RD×Int×Int):Prop:=∃d' rk' σ',Ct prog F args σ (fun r τ=>r= .tup [D.int y.2.1,D.int y.2.2]/\τ=σ')/\IV (k+1) m M d' rk' σ'/\d'.x=y.1/\FrO m d d' σ σ'
variable {k M:Nat}{rk:Int->Nat}
theorem DetQ.same {F:FuncId} (h:IV k m M d rk σ) {y:RD×Int} (hc:Ct prog F args σ (fun r τ=>r=D.int y.2/\τ=σ))(hy:y.1=d.x):DetQ F args σ d k m M y:=⟨d,rk,σ,hc,h.mono,hy.symm,FrO.refl _ _ _⟩
theorem DetA.same {F:FuncId} (h:IV k m M d rk σ) {y:RD×Int×Int} (hc:Ct prog F args σ (fun r τ=>r= .tup [D.int y.2.1,D.int y.2.2]/\τ=σ))(hy:y.1=d.x):DetA F args σ d k m M y:=⟨d,rk,σ,hc,h.mono,hy.symm,FrO.refl _ _ _⟩
theorem aNd (h:dT s=false):addX x 2 s=(x,0,2):=by unfold addX;rw [aK ⟨rfl,h⟩]
theorem Qc {kind:Int} (h:¬(kind=2/\dT s=false))(h2:x.most<(x.l.length:Int)):addX x kind s=(x,0,8):=by unfold addX;rw [aD h,aK h2]
theorem Jd {kind:Int} (h:¬(kind=2/\dT s=false))(h2:¬x.most<(x.l.length:Int)):addX x kind s=(⟨x.most,x.next+1,x.l++ [gV x.next kind s]⟩,x.next,0):=by unfold addX;rw [aD h,aD h2]
theorem IV.bounds(h:IV k m M d rk σ)(hk:k<=900):d.es.length<=100000/\(0<=d.most/\d.most<=100000)/\(0<=d.next/\d.next<=1000000):=by
 have h1:=h.ip.len;have h2:=h.ip.most;have h3:=h.ip.nx
 exact⟨by omega,⟨by omega,by omega⟩,⟨by omega,by omega⟩⟩
theorem aU9(k m M:Nat)(d:DS)(rk:Int->Nat)(s:ByteArray)(σ:List (List D))(h:IV k m M d rk σ)(hk:k<=800)(hs:s.size<=1000):DetA 133 [.ref m 0,D.str s] σ d k m M (addX d.x 2 s):=by
 obtain⟨b1,b2,b3⟩:=h.bounds (by omega);cases hn:dT s with
 | false=>
  rw [aNd hn];exact DetA.same h (aLr m s σ hs hn) rfl
 | true=>
  have hc:¬((2:Int)=2/\dT s=false):=fun e=>by rw [hn] at e;cases e.2
  by_cases hr:d.most<(d.l.length:Int)
  .rw [Qc hc hr];exact DetA.same h (aMh m M d s σ h.ho b1 b2 (by rw [Ai] at hr;omega) hs hn) rfl
  rw [Jd hc hr];have hr':(d.es.length:Int) - 1<d.most:=by rw [Ai] at hr;omega
  refine⟨wB d (Ge d.next 2 s ⟨#[]⟩) σ.length,rk,_,aNt m M d s σ h.ho b1 b2 hr' b3 h.ip.fresh hs hn,h.add hr' rfl rfl rfl rfl rfl rfl (.inr rfl),?_,FrO.add⟩;simp [wB,DS.x,DS.l,Ge,gV]
theorem aUs(k m M:Nat)(d:DS)(rk:Int->Nat)(s:ByteArray)(σ:List (List D))(h:IV k m M d rk σ)(hk:k<=800):DetA 135 [.ref m 0,D.str s] σ d k m M (addX d.x 1 s):=by
 obtain⟨b1,b2,b3⟩:=h.bounds (by omega);have hc:¬((1:Int)=2/\dT s=false):=fun e=>by cases e.1
 by_cases hr:d.most<(d.l.length:Int)
 .rw [Qc hc hr];exact DetA.same h (aM2 m M d s σ h.ho b1 b2 (by rw [Ai] at hr;omega)) rfl
 rw [Jd hc hr];have hr':(d.es.length:Int) - 1<d.most:=by rw [Ai] at hr;omega
 refine⟨wB d (Ge d.next 1 ⟨#[]⟩ s) σ.length,rk,_,aMj m M d s σ h.ho b1 b2 hr' b3 h.ip.fresh,h.add hr' rfl rfl rfl rfl rfl rfl (.inl rfl),?_,FrO.add⟩;simp [wB,DS.x,DS.l,Ge,gV]
theorem IV.fd(h:IV k m M d rk σ) (he:e∈d.es):aJ d.l e.n.ID=e.n:=pH h.ip.nd (jN he)
theorem aUm(k m M:Nat)(d:DS)(rk:Int->Nat)(p at_ id:Int)(σ:List (List D))(h:IV k m M d rk σ)(hk:k<=800):DetQ 136 [.ref m 0,D.int p,D.int at_,D.int id] σ d k m M (insX d.x (dU d.l rk) p at_ id):=by
 have hnb:=h.ip.NB (by omega);cases hp:fP d.l p with
 | false=>
  have e:insX d.x (dU d.l rk) p at_ id=(d.x,11):=by unfold insX;rw [aK (.inl hp)]
  rw [e];exact DetQ.same h (Yc m M d id at_ p σ h.ho hp) rfl
 | true =>
  obtain⟨ep,hep,rfl,hfp⟩:=yU hp;cases hi:fP d.l id with
  | false=>
   have e:insX d.x (dU d.l rk) ep.n.ID at_ id=(d.x,11):=by unfold insX;rw [aK (.inr hi)]
   rw [e];exact DetQ.same h (aAz m M d ep at_ id σ h.ho hep hi) rfl
  | true =>
   obtain⟨en,hen,rfl,hfn⟩:=yU hi;have c1:¬(fP d.x.l ep.n.ID=false\/fP d.x.l en.n.ID=false):=by
    rintro(e | e)
    .have e:fP d.l ep.n.ID=false:=e;rw [hp] at e;cases e
    have e:fP d.l en.n.ID=false:=e;rw [hi] at e;cases e
   have fp:aJ d.x.l ep.n.ID=ep.n:=hfp;have fn:aJ d.x.l en.n.ID=en.n:=hfn;by_cases hkd:ep.n.kind=2
   .have hpar:(¬en.n.parent= -1)↔0<=en.n.parent:=by
     rcases h.wt.par _ (jN hen)with e1 | ⟨q,q1,q2,q3⟩
     .omega
     have:=h.wt.nn q q1;omega
    have hct:=aP5 m M d rk ep en at_ σ h.ho hep hen hkd h.wt (hnb.en hep).1;have hbi:Gt d rk ep en at_↔(en.n.ID=0\/0<=en.n.parent\/oH d.l (dU d.l rk) ep.n.ID en.n.ID=true\/at_<0\/(ep.n.kids.length:Int)<at_):=by
     unfold Gt;rw [hpar]
    by_cases hb:Gt d rk ep en at_
    .have e:insX d.x (dU d.l rk) ep.n.ID at_ en.n.ID=(d.x,1):=by
      unfold insX;rw [aD c1,fp,fn,aD (by rw [hkd];simp),aK];exact hbi.1 hb
     rw [e];refine DetQ.same h (hct.mono ?_) rfl;rintro r σ' (⟨h1,h2,h3⟩ | ⟨h1,h2,_⟩)
     .exact⟨h1,h3⟩
     exact absurd hb h2
    have hb':=mt hbi.2 hb;have e:insX d.x (dU d.l rk) ep.n.ID at_ en.n.ID=(⟨d.most,d.next,dK (dK d.l (lA ep.n (fQ ep.n.kids at_.toNat en.n.ID))) (Jo en.n ep.n.ID)⟩,0):=by
     unfold insX;rw [aD c1,fp,fn,aD (by rw [hkd];simp),aD hb'];rfl
    rw [e];simp only [not_or] at hb';obtain⟨g1,g2,g3,g4,g5⟩:=hb';have hw:ep.n.ID∉dU d.l rk en.n.ID:=fun hm=>by
     apply g3;unfold oH;rw [hp,hi,Iz];simpa using hm
    obtain⟨d',rk',a,b,ow⟩:=h.ins hep hen (by omega) g1 hw at_.toNat (by omega);refine⟨d',rk',_,hct.mono ?_,a,b,FrO.upd2 hep hen _ _ ow⟩;rintro r σ' (⟨h1,h2,h3⟩ | ⟨h1,h2,i,h3,h4⟩)
    .exact absurd h2 hb
    subst h3;exact⟨h1,h4⟩
   have e:insX d.x (dU d.l rk) ep.n.ID at_ en.n.ID=(d.x,14):=by
    unfold insX;rw [aD c1,fp,aK hkd]
   rw [e];exact DetQ.same h (aEt m M d ep en at_ σ h.ho hep hen hkd) rfl
variable {F:FuncId}{args:List D}{e:EN}{kk q:Int}{name nm:ByteArray}
variable {k m M:Nat} {d:DS} {rk:Int->Nat} {σ:List (List D)}
def Lk(q kk:Int)(nm name:ByteArray):Prop:=(q=1/\kk=1/\nm=⟨#[]⟩)\/(¬q=1/\kk=2/\nm=name)
theorem aIt(h:IV k m M d rk σ) (he:e∈d.es) (ha:Lk q kk nm name)(ho:tP e.n kk nm=0):¬e.n.ID=0/\(q=1↔(aJ d.x.l e.n.ID).kind=1)/\(q=1\/dT name=true):=by
 obtain⟨o1,o2,o3⟩:=aCg ho;have hf:aJ d.x.l e.n.ID=e.n:=h.fd he;rw [hf];rcases ha with ⟨rfl,rfl,rfl⟩ | ⟨a1,rfl,rfl⟩
 .exact⟨o1,⟨fun _=>o2,fun _=>rfl⟩,.inl rfl⟩
 exact⟨o1,⟨fun e1=>absurd e1 a1,fun e1=>by omega⟩,.inr (o3 rfl)⟩
theorem aP3(h:IV k m M d rk σ) (he:e∈d.es) {v:ByteArray} {num:Int} (ha:Lk q kk nm name)(ho:¬tP e.n kk nm=0):setX d.x q e.n.ID name v num=(d.x,tP e.n kk nm):=by
 have hf:aJ d.x.l e.n.ID=e.n:=h.fd he;have hl:fP d.x.l e.n.ID=true:=Td he;by_cases h0:e.n.ID=0
 .rw [aMl hl h0];unfold tP;rw [aK h0]
 have hkd:=h.ip.kd _ (jN he);by_cases h1:e.n.kind=kk
 .rcases ha with ⟨rfl,rfl,rfl⟩ | ⟨a1,rfl,rfl⟩
  .exfalso;apply ho;unfold tP;rw [aD h0,aD (fun q=>q h1),aD (by rintro⟨a,_⟩;omega)]
  have h2:dT nm=false:=by
   cases hn:dT nm with
   | false=>rfl
   | true=>exfalso;apply ho;unfold tP;rw [aD h0,aD (fun q=>q h1),aD (by rintro⟨_,a⟩;rw [hn] at a;cases a)]
  rw [aM7 hl h0 (by rw [hf];constructor <;> intro a <;> omega) a1 h2];unfold tP;rw [aD h0,aD (fun q=>q h1),aK ⟨rfl,h2⟩]
 rw [aCh hl h0 (by rw [hf];rcases ha with ⟨rfl,rfl,rfl⟩ | ⟨a1,rfl,rfl⟩ <;> (intro a;omega))];unfold tP;rw [aD h0,aK h1]
theorem zH {id num:Int} {v:ByteArray} (h:IV k m M d rk σ)(hs:nm.size<=1000)(ha:Lk q kk nm name)
  (hN:∀c:Int,Ct prog 217 [.ref m 0,D.int id,D.int kk,D.str nm] σ (fun r σ'=>r= .tup [.v (.pointer none),D.int c]/\σ'=σ)->¬c=0->Ct prog F args σ (fun r σ'=>r=D.int c/\σ'=σ))
  (hX:∀e∈d.es,e.n.ID=id->tP e.n kk nm=0->Ct prog 217 [.ref m 0,D.int id,D.int kk,D.str nm] σ (fun r σ'=>r= .tup [.ref e.o 0,D.int 0]/\σ'=σ)->DetQ F args σ d k m M (setX d.x q id name v num)):
  DetQ F args σ d k m M (setX d.x q id name v num):=by
 cases hl:fP d.l id with
 | false=>
  have e:setX d.x q id name v num=(d.x,11):=aBo hl;rw [e];exact DetQ.same h (hN 11 (aNe m M d id kk nm σ h.ho hl) (by decide)) rfl
 | true=>
  obtain⟨e,he,rfl,hf⟩:=yU hl;by_cases ho:tP e.n kk nm=0
  .exact hX e he rfl ho (aRh m M d e kk nm σ h.ho he hs ho)
  rw [aP3 h he ha ho];exact DetQ.same h (hN _ (aQ7 m M d e kk nm σ h.ho he hs ho) ho) rfl
theorem Fa {num:Int} {v:ByteArray} (h:IV k m M d rk σ) (he:e∈d.es)(ha:Lk q kk nm name)(ho:tP e.n kk nm=0) {n':ND} (hc:chN e.n q name v num=some n')
  (hid:n'.ID=e.n.ID) (h2:n'.kids=e.n.kids) (h3:n'.parent=e.n.parent) (h4:n'.kind=e.n.kind) (hs:n'.classes.length<=k+1/\n'.attrs.length<=k+1/\n'.styles.length<=k+1) (hst:Sorted nA n'.attrs/\Sorted nP n'.styles) (hct:Ct prog F args σ (fun r σ'=>r=D.int 0/\σ'=σ.set e.o (jU n'))):
  DetQ F args σ d k m M (setX d.x q e.n.ID name v num):=by
 obtain⟨a1,a2,a3⟩:=aIt h he ha ho;have hf:aJ d.x.l e.n.ID=e.n:=h.fd he;rw [qZ (Td he) a1 a2 a3 (by rw [hf];exact hc)];obtain⟨b1,b2⟩:=h.set he hid h2 h3 h4 hs hst;exact⟨_,rk,_,hct,b1,b2,FrO.upd he _ (Eg _ _ _)⟩
theorem Sb {num:Int} {v:ByteArray} (h:IV k m M d rk σ) (he:e∈d.es)(ha:Lk q kk nm name)(ho:tP e.n kk nm=0)(hc:chN e.n q name v num=none)(hct:Ct prog F args σ (fun r σ'=>r=D.int 1/\σ'=σ)):
  DetQ F args σ d k m M (setX d.x q e.n.ID name v num):=by
 obtain⟨a1,a2,a3⟩:=aIt h he ha ho;have hf:aJ d.x.l e.n.ID=e.n:=h.fd he;rw [Dd (Td he) a1 a2 a3 (by rw [hf];exact hc)];exact DetQ.same h hct rfl
theorem IV.szs(h:IV k m M d rk σ) (he:e∈d.es):e.n.classes.length<=k/\e.n.attrs.length<=k/\e.n.styles.length<=k:=(h.ip.sz _ (jN he)).2
theorem IV.sts(h:IV k m M d rk σ) (he:e∈d.es):Sorted nA e.n.attrs/\Sorted nP e.n.styles:=h.ip.st _ (jN he)
variable (k m M d rk)(id:Int)(s v:ByteArray)(num:Int)(σ)
theorem aQx(h:IV k m M d rk σ)(hk:k<=800)(hs:s.size<=1000):DetQ 199 [.ref m 0,D.int id,D.str s,D.str v] σ d k m M (setX d.x 2 id s v num):=by
 have ha:Lk 2 2 s s:= .inr ⟨by decide,rfl,rfl⟩;refine zH h hs ha (fun c=>aMr m id c s v σ) fun e he hid ho hown=>?_;subst hid;obtain⟨z1,z2,z3⟩:=h.szs he;obtain⟨y1,y2⟩:=h.sts he;have hl:=Cx nA e.n.attrs ⟨s,v⟩;exact Fa h he ha ho (n':= { e.n with attrs:=fU nA e.n.attrs ⟨s,v⟩ }) (by simp [chN]) rfl rfl rfl rfl ⟨by dsimp only;omega,by dsimp only;omega,by dsimp only;omega⟩ ⟨nI nA y1 _,y2⟩ (aL8 m e.o e.n.ID e.n s v σ hown (h.ho.hn e he) (by omega) y1)
theorem aJy(h:IV k m M d rk σ)(hk:k<=800)(hs:s.size<=1000):DetQ 200 [.ref m 0,D.int id,D.str s] σ d k m M (setX d.x 3 id s v num):=by
 have ha:Lk 3 2 s s:= .inr ⟨by decide,rfl,rfl⟩;refine zH h hs ha (fun c=>aK6 m id c s σ) fun e he hid ho hown=>?_;subst hid;obtain⟨z1,z2,z3⟩:=h.szs he;obtain⟨y1,y2⟩:=h.sts he;have hl:=Ed nA e.n.attrs s;cases hc:mA nA e.n.attrs s with
 | false=>exact Sb h he ha ho (by simp [chN,hc]) (aLu m e.o e.n.ID e.n s σ hown (h.ho.hn e he) (by omega) y1 hc)
 | true=>exact Fa h he ha ho (n':= { e.n with attrs:=lF nA e.n.attrs s }) (by simp [chN,hc]) rfl rfl rfl rfl ⟨by dsimp only;omega,by dsimp only;omega,by dsimp only;omega⟩ ⟨tT nA y1 _,y2⟩ (aJe m e.o e.n.ID e.n s σ hown (h.ho.hn e he) (by omega) y1 hc)
theorem aQr(h:IV k m M d rk σ)(hk:k<=800)(hs:s.size<=1000):DetQ 202 [.ref m 0,D.int id,D.str s,D.int num] σ d k m M (setX d.x 4 id s v num):=by
 have ha:Lk 4 2 s s:= .inr ⟨by decide,rfl,rfl⟩;refine zH h hs ha (fun c=>aJl m id c s num σ) fun e he hid ho hown=>?_;subst hid;obtain⟨z1,z2,z3⟩:=h.szs he;obtain⟨y1,y2⟩:=h.sts he;have hl:=Cx nP e.n.styles ⟨s,Av num⟩;exact Fa h he ha ho (n':= { e.n with styles:=fU nP e.n.styles ⟨s,Av num⟩ }) (by simp [chN]) rfl rfl rfl rfl ⟨by dsimp only;omega,by dsimp only;omega,by dsimp only;omega⟩ ⟨y1,nI nP y2 _⟩ (aHt m e.o e.n.ID e.n s num σ hown (h.ho.hn e he) (by omega) y2)
theorem aN8(h:IV k m M d rk σ)(hk:k<=800)(hs:s.size<=1000):DetQ 203 [.ref m 0,D.int id,D.str s] σ d k m M (setX d.x 5 id s v num):=by
 have ha:Lk 5 2 s s:= .inr ⟨by decide,rfl,rfl⟩;refine zH h hs ha (fun c=>aMt m id c s σ) fun e he hid ho hown=>?_;subst hid;obtain⟨z1,z2,z3⟩:=h.szs he;obtain⟨y1,y2⟩:=h.sts he;have hl:=Ed nP e.n.styles s;cases hc:mA nP e.n.styles s with
 | false=>exact Sb h he ha ho (by simp [chN,hc]) (aL4 m e.o e.n.ID e.n s σ hown (h.ho.hn e he) (by omega) y2 hc)
 | true=>exact Fa h he ha ho (n':= { e.n with styles:=lF nP e.n.styles s }) (by simp [chN,hc]) rfl rfl rfl rfl ⟨by dsimp only;omega,by dsimp only;omega,by dsimp only;omega⟩ ⟨y1,tT nP y2 _⟩ (aNm m e.o e.n.ID e.n s σ hown (h.ho.hn e he) (by omega) y2 hc)
theorem aK7(h:IV k m M d rk σ)(hk:k<=800)(hs:s.size<=1000):DetQ 197 [.ref m 0,D.int id,D.str s] σ d k m M (setX d.x 6 id s v num):=by
 have ha:Lk 6 2 s s:= .inr ⟨by decide,rfl,rfl⟩;refine zH h hs ha (fun c=>aKt m id c s σ) fun e he hid ho hown=>?_;subst hid;obtain⟨z1,z2,z3⟩:=h.szs he;cases hc:has s e.n.classes with
 | true=>exact Sb h he ha ho (by simp [chN,hc]) (aMk m e.o e.n.ID e.n s σ hown (h.ho.hn e he) (by omega) hc)
 | false=>exact Fa h he ha ho (n':= { e.n with classes:=e.n.classes++ [s] }) (by simp [chN,hc]) rfl rfl rfl rfl ⟨by simp;omega,by dsimp only;omega,by dsimp only;omega⟩ (h.sts he) (aMp m e.o e.n.ID e.n s σ hown (h.ho.hn e he) (by omega) hc)
theorem aL7(q:Int)(hq:¬q=0/\¬q=1/\¬q=2/\¬q=3/\¬q=4/\¬q=5/\¬q=6)(h:IV k m M d rk σ)(hk:k<=800)(hs:s.size<=1000):DetQ 196 [.ref m 0,D.int id,D.str s] σ d k m M (setX d.x q id s v num):=by
 obtain⟨q0,q1,q2,q3,q4,q5,q6⟩:=hq;have ha:Lk q 2 s s:= .inr ⟨q1,rfl,rfl⟩;refine zH h hs ha (fun c=>aHy m id c s σ) fun e he hid ho hown=>?_;subst hid;obtain⟨z1,z2,z3⟩:=h.szs he;have hl:=Ou e.n.classes s;cases hc:has s e.n.classes with
 | false=>exact Sb h he ha ho (by simp [chN,hc,q0,q1,q2,q3,q4,q5,q6]) (aJd m e.o e.n.ID e.n s σ hown (h.ho.hn e he) (by omega) hc)
 | true=>exact Fa h he ha ho (n':= { e.n with classes:=kS e.n.classes s }) (by simp [chN,hc,q0,q1,q2,q3,q4,q5,q6]) rfl rfl rfl rfl ⟨by dsimp only;omega,by dsimp only;omega,by dsimp only;omega⟩ (h.sts he) (aH0 m e.o e.n.ID e.n s σ hown (h.ho.hn e he) (by omega) hc)
variable {M i k m:Nat}{a b:List ND}{rk:Int->Nat}{x:RD}{σ σ':List (List D)}
theorem Ku (h:a.Perm b)(hn:(b.map ND.ID).Nodup)(id:Int):kU a id=kU b id:=by
 have ha:(a.map ND.ID).Nodup:=(h.map ND.ID).nodup_iff.2 hn;cases e:kU b id with
 | some n=>
  obtain⟨h1,rfl⟩:=oS e;exact Jn ha (h.mem_iff.2 h1)
 | none=>
  unfold kU at e |-;rw [nQ] at e |-;exact fun n h1=>e n (h.mem_iff.1 h1)
theorem vX (h:a.Perm b)(hn:(b.map ND.ID).Nodup):aJ a=aJ b:=funext fun id=>by unfold aJ;rw [Ku h hn]
theorem aK2 (h:a.Perm b)(hn:(b.map ND.ID).Nodup):fP a=fP b:=funext fun id=>by unfold fP;rw [Ku h hn]
theorem Lx (h:aJ a=aJ b):∀(f:Nat) (id:Int),Cy f a id=Cy f b id
 | 0,_=>rfl
 | f+1,id=>by
  simp only [Cy,h];congr 1;exact mZ fun k _=>Lx h f k
theorem Gw (h:aJ a=aJ b)(rk:Int->Nat):dU a rk=dU b rk:=funext fun id=>Lx h _ _
structure XP(d x:RD):Prop where
 most:x.most=d.most
 next:x.next=d.next
 l:x.l.Perm d.l
 nd:(d.l.map ND.ID).Nodup
theorem XP.refl {d:RD} (h:(d.l.map ND.ID).Nodup):XP d d:=⟨rfl,rfl,List.Perm.refl _,h⟩
variable {d:RD}
theorem XP.fd(h:XP d x):aJ x.l=aJ d.l:=vX h.l h.nd
theorem XP.il(h:XP d x):fP x.l=fP d.l:=aK2 h.l h.nd
theorem XP.wb(h:XP d x):oH x.l=oH d.l:=by funext b i o;unfold oH;rw [h.il]
theorem XP.ix(h:XP d x):aVc x.l=aVc d.l:=by funext i;unfold aVc;rw [h.il,h.fd]
theorem XP.len(h:XP d x):x.l.length=d.l.length:=h.l.length_eq
theorem XP.nb(h:XP d x)(hn:NB d.l):NB x.l:=by
 have hm:∀n∈x.l,n∈d.l:=fun n hn=>h.l.mem_iff.1 hn;exact⟨by rw [h.len];exact hn.len,fun n h1=>hn.kids n (hm n h1),fun n h1=>hn.cls n (hm n h1),fun n h1=>hn.ats n (hm n h1),fun n h1=>hn.sts n (hm n h1)⟩
theorem Tr.perm (h:aJ a=aJ b) {bel:Int->List Int} (ht:Tr b bel rk):Tr a bel rk:=⟨fun id=>by rw [h];exact ht.eq id,fun id=>by rw [h];exact ht.dec id,ht.len⟩
theorem XP.put(h:XP d x)(n:ND):(dK x.l n).Perm (dK d.l n):=by unfold dK;exact h.l.map _
theorem XP.remP(h:XP d x)(id:Int):(Go.Proofs.YtbgfljpnhhdkoaaGreat.remP x.l id).Perm (Go.Proofs.YtbgfljpnhhdkoaaGreat.remP d.l id):=by
 unfold Go.Proofs.YtbgfljpnhhdkoaaGreat.remP;rw [h.fd,h.il];split
 .exact h.put _
 exact h.l
theorem Dg(l:List ND)(id:Int):(remP l id).map ND.ID=l.map ND.ID:=by
 unfold remP;split
 .exact nC _ _
 rfl
theorem XP.addX(h:XP d x)(hlt:∀n∈d.l,n.ID<d.next)(kind:Int)(s:ByteArray):(addX x kind s).2=(addX d kind s).2/\XP (Go.Proofs.YtbgfljpnhhdkoaaGreat.addX d kind s).1 (Go.Proofs.YtbgfljpnhhdkoaaGreat.addX x kind s).1:=by
 unfold Go.Proofs.YtbgfljpnhhdkoaaGreat.addX;rw [h.most,h.next,h.len];split
 .exact⟨rfl,h⟩
 split
 .exact⟨rfl,h⟩
 refine⟨rfl,rfl,rfl,h.l.append_right _,?_⟩;rw [cE,mJ];refine⟨h.nd,by simp,fun a ha b hb=>?_⟩;simp only [cC,kP,fS] at hb;obtain⟨n,h1,rfl⟩:=aV.1 ha;have:=hlt n h1;simp only [gV] at hb;omega
theorem XP.insX(h:XP d x)(bel:Int->List Int)(p at_ id:Int):(insX x bel p at_ id).2=(insX d bel p at_ id).2/\XP (Go.Proofs.YtbgfljpnhhdkoaaGreat.insX d bel p at_ id).1 (Go.Proofs.YtbgfljpnhhdkoaaGreat.insX x bel p at_ id).1:=by
 unfold Go.Proofs.YtbgfljpnhhdkoaaGreat.insX;rw [h.most,h.next,h.fd,h.il,h.wb];split
 .exact⟨rfl,h⟩
 split
 .exact⟨rfl,h⟩
 split
 .exact⟨rfl,h⟩
 refine⟨rfl,rfl,rfl,?_,?_⟩
 .unfold dK;exact(h.l.map _).map _
 show((dK (dK d.l _) _).map ND.ID).Nodup
 rw [nC,nC];exact h.nd
theorem XP.movX(h:XP d x)(id at_:Int):(movX x id at_).2=(movX d id at_).2/\XP (Go.Proofs.YtbgfljpnhhdkoaaGreat.movX d id at_).1 (Go.Proofs.YtbgfljpnhhdkoaaGreat.movX x id at_).1:=by
 unfold Go.Proofs.YtbgfljpnhhdkoaaGreat.movX;rw [h.most,h.next,h.fd,h.il];split
 .exact⟨rfl,h⟩
 split
 .exact⟨rfl,h⟩
 exact⟨rfl,rfl,rfl,h.put _,by show((dK d.l _).map ND.ID).Nodup;rw [nC];exact h.nd⟩
theorem XP.remX(h:XP d x)(bel:Int->List Int)(id:Int):(remX x bel id).2=(remX d bel id).2/\XP (Go.Proofs.YtbgfljpnhhdkoaaGreat.remX d bel id).1 (Go.Proofs.YtbgfljpnhhdkoaaGreat.remX x bel id).1:=by
 unfold Go.Proofs.YtbgfljpnhhdkoaaGreat.remX;rw [h.most,h.next,h.il];split
 .exact⟨rfl,h⟩
 split
 .exact⟨rfl,h⟩
 refine⟨rfl,rfl,rfl,(h.remP id).filter _,?_⟩;have hn:((Go.Proofs.YtbgfljpnhhdkoaaGreat.remP d.l id).map ND.ID).Nodup:=by rw [Dg];exact h.nd
 exact hn.sublist (List.Sublist.map _ zF)
theorem XP.setX(h:XP d x)(kind id:Int)(name v:ByteArray)(num:Int):(setX x kind id name v num).2=(setX d kind id name v num).2/\XP (Go.Proofs.YtbgfljpnhhdkoaaGreat.setX d kind id name v num).1 (Go.Proofs.YtbgfljpnhhdkoaaGreat.setX x kind id name v num).1:=by
 unfold Go.Proofs.YtbgfljpnhhdkoaaGreat.setX;rw [h.most,h.next,h.fd,h.il];split
 .exact⟨rfl,h⟩
 split
 .exact⟨rfl,h⟩
 split
 .exact⟨rfl,h⟩
 split
 .exact⟨rfl,h⟩
 split
 .exact⟨rfl,h⟩
 exact⟨rfl,rfl,rfl,h.put _,by show((dK d.l _).map ND.ID).Nodup;rw [nC];exact h.nd⟩
def Nx(d d':RD):Prop:=d'.most=d.most/\(d'.next=d.next\/d'.next=d.next+1)
theorem Nx.refl(d:RD):Nx d d:=⟨rfl,.inl rfl⟩
structure IX(k m M:Nat)(d:DS)(rk:Int->Nat)(x:RD)(σ:List (List D)):Prop where
 iv:IV k m M d rk σ
 xp:XP d.x x
theorem IX.app {d:DS} (h:IX k m M d rk x σ)(J:List (List D)):IX k m M d rk x (σ++J):=⟨h.iv.app J,h.xp⟩
theorem IX.mono {d:DS} (h:IX k m M d rk x σ):IX (k+1) m M d rk x σ:=⟨h.iv.mono,h.xp⟩
theorem DO.frame {d:DS} (h:DO m M d σ)(hl:σ.length<=σ'.length)(hf:∀i,(i=m\/∃e∈d.es,e.o=i)->σ'[i]?=σ[i]?):DO m M d σ':=
 ⟨by rw [hf m (.inl rfl)];exact h.hm,fun e he=>by rw [hf e.o (.inr ⟨e,he,rfl⟩)];exact h.hn e he,h.nm,h.nd,by have:=h.hM;omega⟩
theorem IX.frame {d:DS} (h:IX k m M d rk x σ)(hl:σ.length<=σ'.length)(hf:∀i,(i=m\/∃e∈d.es,e.o=i)->σ'[i]?=σ[i]?):IX k m M d rk x σ':=⟨⟨h.iv.ho.frame hl hf,h.iv.ip,h.iv.wt⟩,h.xp⟩
def Off(m:Nat)(d:DS)(i:Nat):Prop:=i≠m/\∀e∈d.es,e.o≠i
theorem Off.step {d d':DS} (h:Off m d i)(hi:i<σ.length)(hf:FrO m d d' σ σ'):Off m d' i/\σ'[i]?=σ[i]?:=
 ⟨⟨h.1,fun e he e1=>by
  rcases hf.own e he with ⟨e0,h0,q⟩ | h1
  .exact h.2 e0 h0 (q.trans e1)
  omega⟩,hf.keep i hi h.1 h.2⟩
theorem IX.put {d:DS} (h:IX k m M d rk x σ) (ho:Off m d i)(c:List D):IX k m M d rk x (σ.set i c):=
 h.frame (by rw [cK];exact aW _) fun j hj=>by
  rw [eR];rcases hj with rfl | ⟨e,he,rfl⟩
  .exact ho.1
  exact fun q=>ho.2 e he q.symm
theorem IX.off {d:DS} (h:IX k m M d rk x σ) (hi:σ.length<=i):Off m d i:=
 ⟨fun e=>by have:=pY h.iv.ho.hm;omega,fun e he q=>by have:=h.iv.ho.lt he;omega⟩
variable {M k m:Nat}{d:DS}{rk:Int->Nat}{σ:List (List D)}
structure Act where
 kind:Int
 a:Int
 b:Int
 c:Int
 name:ByteArray
 value:ByteArray
 deriving DecidableEq
@[simp] abbrev bAg(s:Act):D:= .agg [.v (.int .i64 s.kind),.v (.int .i64 s.a),.v (.int .i64 s.b),.v (.int .i64 s.c),.v (.string s.name),.v (.string s.value)]
def mW(a:Act):Act:= { a with name:=uC 20 a.name,value:=uC 40 a.value }
def d0(most:Int)(o:Nat):DS:=⟨max 1 (min most 65536),1,1, [⟨oA,o,0⟩]⟩
theorem yQ(x:Int):Nd x 1 65536=max 1 (min x 65536):=by
 unfold Nd;(repeat' split) <;> omega
theorem aXl(most:Int)(σ:List (List D)):IV 0 (σ.length+1) σ.length (d0 most (σ.length+2)) (fun _=>0) (σ++ [[],At σ.length (d0 most (σ.length+2)),jU oA]):=by
 have hl:(d0 most (σ.length+2)).l= [oA]:=rfl;have hm:∀n∈(d0 most (σ.length+2)).l,n=oA:=fun n hn=>by rw [hl] at hn;simpa using hn
 have hwt:WT (d0 most (σ.length+2)).l (fun _=>0):=by
  refine⟨by rw [hl];simp,fun n hn k hk=>?_,fun n hn=>?_,fun n hn=>?_,fun n hn=>?_,fun n hn k hk=>?_⟩ <;> have:=hm n hn <;> subst this
  .cases hk
  .exact .inl rfl
  .exact mM _
  .exact vL
  cases hk
 refine⟨⟨by simp,fun e he=>?_,fun e he=>?_,by simp [d0],by simp⟩,⟨hwt.nd,by simp [d0],?_,by simp [d0],fun n hn=>?_,fun n hn=>?_,fun n hn=>?_,⟨oA,by rw [hl];simp,rfl,rfl,rfl⟩,fun n hn=>?_,?_⟩,hwt⟩
 .simp only [d0,fS] at he;subst he;simp
 .simp only [d0,fS] at he;subst he;show σ.length+2≠σ.length+1;omega
 .show 1<=max 1 (min most 65536)/\max 1 (min most 65536)<=65536;omega
 .have:=hm n hn;subst this;show(0:Int)<1;omega
 .have:=hm n hn;subst this;simp [oA]
 .have:=hm n hn;subst this;exact⟨List.Pairwise.nil,List.Pairwise.nil⟩
 .have:=hm n hn;subst this;exact .inr rfl
 show(([_]:List EN).length:Int) - 1<=max 1 (min most 65536);simp;omega
theorem aPf(most:Int)(σ:List (List D))  :Ct prog 58 [D.int most] σ (fun r σ'=>r= .ref (σ.length+1) 0/\σ'=σ++ [[],At σ.length (d0 most (σ.length+2)),jU oA]):=by
 refine zf func58 ?_;refine zr ⟨[],[],[8,14],[],[]⟩ fun _ _ Z=>?_;simp[bI,aX,aI,aG,yQ];apply Z;refine zr ⟨[],[],[8,14],[],[]⟩ fun _ _ Z=>?_;refine zs 1 fun _ Y=>?_;simp[bI,aX,aI,aG,yQ];apply Y;refine aF fun _ Y=>?_;simp[bI,aX,aI,aG,yQ];refine cT (aOu ..) ?_;apply Y;simp[bI,aX,aI,aG,yQ];and_intros<;>(try omega);apply Z;refine Ni 6 (σ.length+1) 2 (N:=σ.length) (kd:= .int .i64) (clock:=0) (kvs:= []) (by simp) (by simp [bI,aX,aI,aG] <;> rfl) (by simp <;> rfl) ?_;simp only [aX,gD,fY];refine zr ⟨[],[],[8,14],[],[]⟩ fun _ _ Z=>?_;simp[bI,aX,aI,aG,yQ];refine⟨σ.length+1,2,0, [],1,_,⟨⟨_,by simp [bI,aX,aI,aG] <;> rfl,rfl⟩,uD _,rfl,.inr ⟨by simp,rfl,rfl⟩⟩,?_⟩;rw [aBx (by simp [bI,aX,aI,aG] <;> rfl)];and_intros<;>(try omega);apply Z;refine Wm (σ.length+2) 8 1 (by simp [bI,aX,aI,aG];rfl) rfl ?_;simp only [aX,gD,fY];refine Nt (σ.length+2) (jU oA) (by simp [bI,aX,aI,aG];rfl) (by simp [leC,oA,D.s1]) ?_;simp only [aX,gD,fY];refine zk [2,3] ?_;refine zr ⟨[],[],[8,14],[],[]⟩ fun _ _ Z=>?_;simp[bI,aX,aI,aG,yQ];apply Z;apply aC;simp [aH,d0,kvE,oA,At]
theorem aVm (h:IV k m M d rk σ)(hk:k<=800)(i:Int):(aJ d.x.l i).kids.length<=900:=by
 cases hl:fP d.x.l i with
 | false=>rw [kV hl];simp [Ts]
 | true=>
  obtain⟨n,n1,_,n3⟩:=eX hl;rw [n3];have:=(h.ip.sz n n1).1;omega
theorem aT9 (h:IV k m M d rk σ)(i:Int):(aJ d.x.l i).kids.Nodup:=by
 cases hl:fP d.x.l i with
 | false=>rw [kV hl];exact vL
 | true=>
  obtain⟨n,n1,_,n3⟩:=eX hl;rw [n3];exact h.wt.kn n n1
theorem aSg (h:IV k m M d rk σ)(i:Int):Sorted nA (aJ d.x.l i).attrs:=by
 cases hl:fP d.x.l i with
 | false=>rw [kV hl];exact List.Pairwise.nil
 | true=>
  obtain⟨n,n1,_,n3⟩:=eX hl;rw [n3];exact(h.ip.st n n1).1
theorem aSr (h:IV k m M d rk σ)(i:Int):Sorted nP (aJ d.x.l i).styles:=by
 cases hl:fP d.x.l i with
 | false=>rw [kV hl];exact List.Pairwise.nil
 | true=>
  obtain⟨n,n1,_,n3⟩:=eX hl;rw [n3];exact(h.ip.st n n1).2
end Go.Proofs.YtbgfljpnhhdkoaaGreat
