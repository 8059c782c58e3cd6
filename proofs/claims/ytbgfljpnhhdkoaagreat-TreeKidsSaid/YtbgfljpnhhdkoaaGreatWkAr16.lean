import Derived.Test.YtbgfljpnhhdkoaaGreatArLaw2
set_option maxHeartbeats 8000000
set_option linter.all false
set_option maxRecDepth 20000
open Go.Proofs.Tryz
namespace Go.Proofs.YtbgfljpnhhdkoaaGreat
open Go Go.Vm
variable {args:List D}{d:DS}{e:EN}{m:Nat}{s:ByteArray}{x:RD}{σ:List (List D)}
structure FrO(m:Nat)(d d':DS)(σ σ':List (List D)):Prop where
 len:σ.length<=σ'.length
 keep:∀i,i<σ.length->i≠m->(∀e∈d.es,e.o≠i)->σ'[i]?=σ[i]?
 own:∀e∈d'.es,(∃e0∈d.es,e0.o=e.o)\/σ.length<=e.o
theorem FrO.refl(m:Nat)(d:DS)(σ:List (List D)):FrO m d d σ σ:=⟨aX _,fun _ _ _ _=>rfl,fun e he=> .inl ⟨e,he,rfl⟩⟩
theorem FrO.upd {d':DS} (he:e∈d.es)(c:List D)(ho:∀e∈d'.es,∃e0∈d.es,e0.o=e.o):FrO m d d' σ (σ.set e.o c):=
 ⟨by rw [cE];exact aX _,fun i _ _ h=>by rw [eK (h e he)],fun x hx=> .inl (ho x hx)⟩
theorem FrO.upd2 {d':DS} {f:EN} (he:e∈d.es)(hf:f∈d.es)(c c':List D)(ho:∀e∈d'.es,∃e0∈d.es,e0.o=e.o):FrO m d d' σ ((σ.set e.o c).set f.o c'):=
 ⟨by rw [cE,cE];exact aX _,fun i _ _ h=>by rw [eK (h f hf),eK (h e he)],fun x hx=> .inl (ho x hx)⟩
theorem FrO.add {n:ND} {c c':List D} :FrO m d (uV d n σ.length) σ (σ.set m c++ [c']):=
 ⟨by simp,fun i hi hm _=>by rw [bB (by rw [cE];exact hi),eK (Ne.symm hm)],fun x hx=>by
  rcases bN.1 hx with h | h
  .exact .inl ⟨x,h,rfl⟩
  simp only [fO] at h;subst h;exact .inr (aX _)⟩
def DetQ(F:FuncId)(args:List D)(σ:List (List D))(d:DS)(k m M:Nat)(y:RD×Int):Prop:=∃d' rk' σ',Ct prog F args σ (fun r τ=>r=D.int y.2/\τ=σ')/\IV (k+1) m M d' rk' σ'/\d'.x=y.1/\FrO m d d' σ σ'
def DetA(F:FuncId)(args:List D)(σ:List (List D))(d:DS)(k m M:Nat)(y:RD×Int×Int):Prop:=∃d' rk' σ',Ct prog F args σ (fun r τ=>r= .tup [D.int y.2.1,D.int y.2.2]/\τ=σ')/\IV (k+1) m M d' rk' σ'/\d'.x=y.1/\FrO m d d' σ σ'
variable {k M:Nat}{rk:Int->Nat}
theorem DetQ.same {F:FuncId} (h:IV k m M d rk σ) {y:RD×Int} (hc:Ct prog F args σ (fun r τ=>r=D.int y.2/\τ=σ))(hy:y.1=d.x):DetQ F args σ d k m M y:=⟨d,rk,σ,hc,h.mono,hy.symm,FrO.refl _ _ _⟩
theorem DetA.same {F:FuncId} (h:IV k m M d rk σ) {y:RD×Int×Int} (hc:Ct prog F args σ (fun r τ=>r= .tup [D.int y.2.1,D.int y.2.2]/\τ=σ))(hy:y.1=d.x):DetA F args σ d k m M y:=⟨d,rk,σ,hc,h.mono,hy.symm,FrO.refl _ _ _⟩
theorem aLk (h:dO s=false):addX x 2 s=(x,0,2):=by unfold addX;rw [aJ ⟨rfl,h⟩]
theorem Nv {kind:Int} (h:¬(kind=2/\dO s=false))(h2:x.most<(x.l.length:Int)):addX x kind s=(x,0,8):=by unfold addX;rw [aD h,aJ h2]
theorem Hu {kind:Int} (h:¬(kind=2/\dO s=false))(h2:¬x.most<(x.l.length:Int)):addX x kind s=(⟨x.most,x.next+1,x.l++ [gT x.next kind s]⟩,x.next,0):=by unfold addX;rw [aD h,aD h2]
theorem IV.bounds(h:IV k m M d rk σ)(hk:k<=900):d.es.length<=100000/\(0<=d.most/\d.most<=100000)/\(0<=d.next/\d.next<=1000000):=by
 have h1:=h.ip.len;have h2:=h.ip.most;have h3:=h.ip.nx
 exact⟨by omega,⟨by omega,by omega⟩,⟨by omega,by omega⟩⟩
theorem aQ3(k m M:Nat)(d:DS)(rk:Int->Nat)(s:ByteArray)(σ:List (List D))(h:IV k m M d rk σ)(hk:k<=800)(hs:s.size<=1000):DetA 133 [.ref m 0,D.str s] σ d k m M (addX d.x 2 s):=by
 obtain⟨b1,b2,b3⟩:=h.bounds (by omega);cases hn:dO s with
 | false=>
  rw [aLk hn];exact DetA.same h (aId m s σ hs hn) rfl
 | true=>
  have hc:¬((2:Int)=2/\dO s=false):=fun e=>by rw [hn] at e;cases e.2
  by_cases hr:d.most<(d.l.length:Int)
  .rw [Nv hc hr];exact DetA.same h (aI7 m M d s σ h.ho b1 b2 (by rw [Cv] at hr;omega) hs hn) rfl
  rw [Hu hc hr];have hr':(d.es.length:Int) - 1<d.most:=by rw [Cv] at hr;omega
  refine⟨uV d (Dx d.next 2 s ⟨#[]⟩) σ.length,rk,_,aIt m M d s σ h.ho b1 b2 hr' b3 h.ip.fresh hs hn,h.add hr' rfl rfl rfl rfl rfl rfl (.inr rfl),?_,FrO.add⟩;simp [uV,DS.x,DS.l,Dx,gT]
theorem aTa(k m M:Nat)(d:DS)(rk:Int->Nat)(s:ByteArray)(σ:List (List D))(h:IV k m M d rk σ)(hk:k<=800):DetA 135 [.ref m 0,D.str s] σ d k m M (addX d.x 1 s):=by
 obtain⟨b1,b2,b3⟩:=h.bounds (by omega);have hc:¬((1:Int)=2/\dO s=false):=fun e=>by cases e.1
 by_cases hr:d.most<(d.l.length:Int)
 .rw [Nv hc hr];exact DetA.same h (aHe m M d s σ h.ho b1 b2 (by rw [Cv] at hr;omega)) rfl
 rw [Hu hc hr];have hr':(d.es.length:Int) - 1<d.most:=by rw [Cv] at hr;omega
 refine⟨uV d (Dx d.next 1 ⟨#[]⟩ s) σ.length,rk,_,aJ6 m M d s σ h.ho b1 b2 hr' b3 h.ip.fresh,h.add hr' rfl rfl rfl rfl rfl rfl (.inl rfl),?_,FrO.add⟩;simp [uV,DS.x,DS.l,Dx,gT]
theorem IV.fd(h:IV k m M d rk σ) (he:e∈d.es):aI d.l e.n.ID=e.n:=qS h.ip.nd (jB he)
theorem aRc(k m M:Nat)(d:DS)(rk:Int->Nat)(p at_ id:Int)(σ:List (List D))(h:IV k m M d rk σ)(hk:k<=800):DetQ 136 [.ref m 0,D.int p,D.int at_,D.int id] σ d k m M (insX d.x (dP d.l rk) p at_ id):=by
 have hnb:=h.ip.NB (by omega);cases hp:fK d.l p with
 | false=>
  have e:insX d.x (dP d.l rk) p at_ id=(d.x,11):=by unfold insX;rw [aJ (.inl hp)]
  rw [e];exact DetQ.same h (Zt m M d id at_ p σ h.ho hp) rfl
 | true =>
  obtain⟨ep,hep,rfl,hfp⟩:=xG hp;cases hi:fK d.l id with
  | false=>
   have e:insX d.x (dP d.l rk) ep.n.ID at_ id=(d.x,11):=by unfold insX;rw [aJ (.inr hi)]
   rw [e];exact DetQ.same h (Yv m M d ep at_ id σ h.ho hep hi) rfl
  | true =>
   obtain⟨en,hen,rfl,hfn⟩:=xG hi;have c1:¬(fK d.x.l ep.n.ID=false\/fK d.x.l en.n.ID=false):=by
    rintro(e | e)
    .have e:fK d.l ep.n.ID=false:=e;rw [hp] at e;cases e
    have e:fK d.l en.n.ID=false:=e;rw [hi] at e;cases e
   have fp:aI d.x.l ep.n.ID=ep.n:=hfp;have fn:aI d.x.l en.n.ID=en.n:=hfn;by_cases hkd:ep.n.kind=2
   .have hpar:(¬en.n.parent= -1)↔0<=en.n.parent:=by
     rcases h.wt.par _ (jB hen)with e1 | ⟨q,q1,q2,q3⟩
     .omega
     have:=h.wt.nn q q1;omega
    have hct:=aO5 m M d rk ep en at_ σ h.ho hep hen hkd h.wt (hnb.en hep).1;have hbi:Ec d rk ep en at_↔(en.n.ID=0\/0<=en.n.parent\/nO d.l (dP d.l rk) ep.n.ID en.n.ID=true\/at_<0\/(ep.n.kids.length:Int)<at_):=by
     unfold Ec;rw [hpar]
    by_cases hb:Ec d rk ep en at_
    .have e:insX d.x (dP d.l rk) ep.n.ID at_ en.n.ID=(d.x,1):=by
      unfold insX;rw [aD c1,fp,fn,aD (by rw [hkd];simp),aJ];exact hbi.1 hb
     rw [e];refine DetQ.same h (hct.mono ?_) rfl;rintro r σ' (⟨h1,h2,h3⟩ | ⟨h1,h2,_⟩)
     .exact⟨h1,h3⟩
     exact absurd hb h2
    have hb':=mt hbi.2 hb;have e:insX d.x (dP d.l rk) ep.n.ID at_ en.n.ID=(⟨d.most,d.next,dF (dF d.l (kQ ep.n (fI ep.n.kids at_.toNat en.n.ID))) (Ke en.n ep.n.ID)⟩,0):=by
     unfold insX;rw [aD c1,fp,fn,aD (by rw [hkd];simp),aD hb'];rfl
    rw [e];simp only [not_or] at hb';obtain⟨g1,g2,g3,g4,g5⟩:=hb';have hw:ep.n.ID∉dP d.l rk en.n.ID:=fun hm=>by
     apply g3;unfold nO;rw [hp,hi,Hq];simpa using hm
    obtain⟨d',rk',a,b,ow⟩:=h.ins hep hen (by omega) g1 hw at_.toNat (by omega);refine⟨d',rk',_,hct.mono ?_,a,b,FrO.upd2 hep hen _ _ ow⟩;rintro r σ' (⟨h1,h2,h3⟩ | ⟨h1,h2,i,h3,h4⟩)
    .exact absurd h2 hb
    subst h3;exact⟨h1,h4⟩
   have e:insX d.x (dP d.l rk) ep.n.ID at_ en.n.ID=(d.x,14):=by
    unfold insX;rw [aD c1,fp,aJ hkd]
   rw [e];exact DetQ.same h (aFk m M d ep en at_ σ h.ho hep hen hkd) rfl
variable {F:FuncId}{args:List D}{e:EN}{kk q:Int}{name nm:ByteArray}
variable {k m M:Nat} {d:DS} {rk:Int->Nat} {σ:List (List D)}
def Ik(q kk:Int)(nm name:ByteArray):Prop:=(q=1/\kk=1/\nm=⟨#[]⟩)\/(¬q=1/\kk=2/\nm=name)
theorem aG9(h:IV k m M d rk σ) (he:e∈d.es) (ha:Ik q kk nm name)(ho:sW e.n kk nm=0):¬e.n.ID=0/\(q=1↔(aI d.x.l e.n.ID).kind=1)/\(q=1\/dO name=true):=by
 obtain⟨o1,o2,o3⟩:=aBh ho;have hf:aI d.x.l e.n.ID=e.n:=h.fd he;rw [hf];rcases ha with ⟨rfl,rfl,rfl⟩ | ⟨a1,rfl,rfl⟩
 .exact⟨o1,⟨fun _=>o2,fun _=>rfl⟩,.inl rfl⟩
 exact⟨o1,⟨fun e1=>absurd e1 a1,fun e1=>by omega⟩,.inr (o3 rfl)⟩
theorem aM3(h:IV k m M d rk σ) (he:e∈d.es) {v:ByteArray} {num:Int} (ha:Ik q kk nm name)(ho:¬sW e.n kk nm=0):setX d.x q e.n.ID name v num=(d.x,sW e.n kk nm):=by
 have hf:aI d.x.l e.n.ID=e.n:=h.fd he;have hl:fK d.x.l e.n.ID=true:=Qk he;by_cases h0:e.n.ID=0
 .rw [aJ4 hl h0];unfold sW;rw [aJ h0]
 have hkd:=h.ip.kd _ (jB he);by_cases h1:e.n.kind=kk
 .rcases ha with ⟨rfl,rfl,rfl⟩ | ⟨a1,rfl,rfl⟩
  .exfalso;apply ho;unfold sW;rw [aD h0,aD (fun q=>q h1),aD (by rintro⟨a,_⟩;omega)]
  have h2:dO nm=false:=by
   cases hn:dO nm with
   | false=>rfl
   | true=>exfalso;apply ho;unfold sW;rw [aD h0,aD (fun q=>q h1),aD (by rintro⟨_,a⟩;rw [hn] at a;cases a)]
  rw [aJy hl h0 (by rw [hf];constructor <;> intro a <;> omega) a1 h2];unfold sW;rw [aD h0,aD (fun q=>q h1),aJ ⟨rfl,h2⟩]
 rw [aBs hl h0 (by rw [hf];rcases ha with ⟨rfl,rfl,rfl⟩ | ⟨a1,rfl,rfl⟩ <;> (intro a;omega))];unfold sW;rw [aD h0,aJ h1]
theorem xX {id num:Int} {v:ByteArray} (h:IV k m M d rk σ)(hs:nm.size<=1000)(ha:Ik q kk nm name)
  (hN:∀c:Int,Ct prog 217 [.ref m 0,D.int id,D.int kk,D.str nm] σ (fun r σ'=>r= .tup [.v (.pointer none),D.int c]/\σ'=σ)->¬c=0->Ct prog F args σ (fun r σ'=>r=D.int c/\σ'=σ))
  (hX:∀e∈d.es,e.n.ID=id->sW e.n kk nm=0->Ct prog 217 [.ref m 0,D.int id,D.int kk,D.str nm] σ (fun r σ'=>r= .tup [.ref e.o 0,D.int 0]/\σ'=σ)->DetQ F args σ d k m M (setX d.x q id name v num)):
  DetQ F args σ d k m M (setX d.x q id name v num):=by
 cases hl:fK d.l id with
 | false=>
  have e:setX d.x q id name v num=(d.x,11):=aA3 hl;rw [e];exact DetQ.same h (hN 11 (aHl m M d id kk nm σ h.ho hl) (by decide)) rfl
 | true=>
  obtain⟨e,he,rfl,hf⟩:=xG hl;by_cases ho:sW e.n kk nm=0
  .exact hX e he rfl ho (aPm m M d e kk nm σ h.ho he hs ho)
  rw [aM3 h he ha ho];exact DetQ.same h (hN _ (aMs m M d e kk nm σ h.ho he hs ho) ho) rfl
theorem Fw {num:Int} {v:ByteArray} (h:IV k m M d rk σ) (he:e∈d.es)(ha:Ik q kk nm name)(ho:sW e.n kk nm=0) {n':ND} (hc:chN e.n q name v num=some n')
  (hid:n'.ID=e.n.ID) (h2:n'.kids=e.n.kids) (h3:n'.parent=e.n.parent) (h4:n'.kind=e.n.kind) (hs:n'.classes.length<=k+1/\n'.attrs.length<=k+1/\n'.styles.length<=k+1) (hst:Sorted nA n'.attrs/\Sorted nP n'.styles) (hct:Ct prog F args σ (fun r σ'=>r=D.int 0/\σ'=σ.set e.o (jH n'))):
  DetQ F args σ d k m M (setX d.x q e.n.ID name v num):=by
 obtain⟨a1,a2,a3⟩:=aG9 h he ha ho;have hf:aI d.x.l e.n.ID=e.n:=h.fd he;rw [qJ (Qk he) a1 a2 a3 (by rw [hf];exact hc)];obtain⟨b1,b2⟩:=h.set he hid h2 h3 h4 hs hst;exact⟨_,rk,_,hct,b1,b2,FrO.upd he _ (Bw _ _ _)⟩
theorem Px {num:Int} {v:ByteArray} (h:IV k m M d rk σ) (he:e∈d.es)(ha:Ik q kk nm name)(ho:sW e.n kk nm=0)(hc:chN e.n q name v num=none)(hct:Ct prog F args σ (fun r σ'=>r=D.int 1/\σ'=σ)):
  DetQ F args σ d k m M (setX d.x q e.n.ID name v num):=by
 obtain⟨a1,a2,a3⟩:=aG9 h he ha ho;have hf:aI d.x.l e.n.ID=e.n:=h.fd he;rw [Co (Qk he) a1 a2 a3 (by rw [hf];exact hc)];exact DetQ.same h hct rfl
theorem IV.szs(h:IV k m M d rk σ) (he:e∈d.es):e.n.classes.length<=k/\e.n.attrs.length<=k/\e.n.styles.length<=k:=(h.ip.sz _ (jB he)).2
theorem IV.sts(h:IV k m M d rk σ) (he:e∈d.es):Sorted nA e.n.attrs/\Sorted nP e.n.styles:=h.ip.st _ (jB he)
variable (k m M d rk)(id:Int)(s v:ByteArray)(num:Int)(σ)
theorem aM5(h:IV k m M d rk σ)(hk:k<=800)(hs:s.size<=1000):DetQ 199 [.ref m 0,D.int id,D.str s,D.str v] σ d k m M (setX d.x 2 id s v num):=by
 have ha:Ik 2 2 s s:= .inr ⟨by decide,rfl,rfl⟩;refine xX h hs ha (fun c=>aJq m id c s v σ) fun e he hid ho hown=>?_;subst hid;obtain⟨z1,z2,z3⟩:=h.szs he;obtain⟨y1,y2⟩:=h.sts he;have hl:=Cq nA e.n.attrs ⟨s,v⟩;exact Fw h he ha ho (n':= { e.n with attrs:=fU nA e.n.attrs ⟨s,v⟩ }) (by simp [chN]) rfl rfl rfl rfl ⟨by dsimp only;omega,by dsimp only;omega,by dsimp only;omega⟩ ⟨mH nA y1 _,y2⟩ (aGr m e.o e.n.ID e.n s v σ hown (h.ho.hn e he) (by omega) y1)
theorem aK8(h:IV k m M d rk σ)(hk:k<=800)(hs:s.size<=1000):DetQ 200 [.ref m 0,D.int id,D.str s] σ d k m M (setX d.x 3 id s v num):=by
 have ha:Ik 3 2 s s:= .inr ⟨by decide,rfl,rfl⟩;refine xX h hs ha (fun c=>aHu m id c s σ) fun e he hid ho hown=>?_;subst hid;obtain⟨z1,z2,z3⟩:=h.szs he;obtain⟨y1,y2⟩:=h.sts he;have hl:=Cj nA e.n.attrs s;cases hc:lL nA e.n.attrs s with
 | false=>exact Px h he ha ho (by simp [chN,hc]) (aHm m e.o e.n.ID e.n s σ hown (h.ho.hn e he) (by omega) y1 hc)
 | true=>exact Fw h he ha ho (n':= { e.n with attrs:=kP nA e.n.attrs s }) (by simp [chN,hc]) rfl rfl rfl rfl ⟨by dsimp only;omega,by dsimp only;omega,by dsimp only;omega⟩ ⟨tD nA y1 _,y2⟩ (aGb m e.o e.n.ID e.n s σ hown (h.ho.hn e he) (by omega) y1 hc)
theorem aM9(h:IV k m M d rk σ)(hk:k<=800)(hs:s.size<=1000):DetQ 202 [.ref m 0,D.int id,D.str s,D.int num] σ d k m M (setX d.x 4 id s v num):=by
 have ha:Ik 4 2 s s:= .inr ⟨by decide,rfl,rfl⟩;refine xX h hs ha (fun c=>aL8 m id c s num σ) fun e he hid ho hown=>?_;subst hid;obtain⟨z1,z2,z3⟩:=h.szs he;obtain⟨y1,y2⟩:=h.sts he;have hl:=Cq nP e.n.styles ⟨s,Ae num⟩;exact Fw h he ha ho (n':= { e.n with styles:=fU nP e.n.styles ⟨s,Ae num⟩ }) (by simp [chN]) rfl rfl rfl rfl ⟨by dsimp only;omega,by dsimp only;omega,by dsimp only;omega⟩ ⟨y1,mH nP y2 _⟩ (aHa m e.o e.n.ID e.n s num σ hown (h.ho.hn e he) (by omega) y2)
theorem aLi(h:IV k m M d rk σ)(hk:k<=800)(hs:s.size<=1000):DetQ 203 [.ref m 0,D.int id,D.str s] σ d k m M (setX d.x 5 id s v num):=by
 have ha:Ik 5 2 s s:= .inr ⟨by decide,rfl,rfl⟩;refine xX h hs ha (fun c=>aIk m id c s σ) fun e he hid ho hown=>?_;subst hid;obtain⟨z1,z2,z3⟩:=h.szs he;obtain⟨y1,y2⟩:=h.sts he;have hl:=Cj nP e.n.styles s;cases hc:lL nP e.n.styles s with
 | false=>exact Px h he ha ho (by simp [chN,hc]) (aHx m e.o e.n.ID e.n s σ hown (h.ho.hn e he) (by omega) y2 hc)
 | true=>exact Fw h he ha ho (n':= { e.n with styles:=kP nP e.n.styles s }) (by simp [chN,hc]) rfl rfl rfl rfl ⟨by dsimp only;omega,by dsimp only;omega,by dsimp only;omega⟩ ⟨y1,tD nP y2 _⟩ (aJn m e.o e.n.ID e.n s σ hown (h.ho.hn e he) (by omega) y2 hc)
theorem aIs(h:IV k m M d rk σ)(hk:k<=800)(hs:s.size<=1000):DetQ 197 [.ref m 0,D.int id,D.str s] σ d k m M (setX d.x 6 id s v num):=by
 have ha:Ik 6 2 s s:= .inr ⟨by decide,rfl,rfl⟩;refine xX h hs ha (fun c=>aHn m id c s σ) fun e he hid ho hown=>?_;subst hid;obtain⟨z1,z2,z3⟩:=h.szs he;cases hc:has s e.n.classes with
 | true=>exact Px h he ha ho (by simp [chN,hc]) (aI8 m e.o e.n.ID e.n s σ hown (h.ho.hn e he) (by omega) hc)
 | false=>exact Fw h he ha ho (n':= { e.n with classes:=e.n.classes++ [s] }) (by simp [chN,hc]) rfl rfl rfl rfl ⟨by simp;omega,by dsimp only;omega,by dsimp only;omega⟩ (h.sts he) (aG2 m e.o e.n.ID e.n s σ hown (h.ho.hn e he) (by omega) hc)
theorem aKh(q:Int)(hq:¬q=0/\¬q=1/\¬q=2/\¬q=3/\¬q=4/\¬q=5/\¬q=6)(h:IV k m M d rk σ)(hk:k<=800)(hs:s.size<=1000):DetQ 196 [.ref m 0,D.int id,D.str s] σ d k m M (setX d.x q id s v num):=by
 obtain⟨q0,q1,q2,q3,q4,q5,q6⟩:=hq;have ha:Ik q 2 s s:= .inr ⟨q1,rfl,rfl⟩;refine xX h hs ha (fun c=>aHs m id c s σ) fun e he hid ho hown=>?_;subst hid;obtain⟨z1,z2,z3⟩:=h.szs he;have hl:=Nd e.n.classes s;cases hc:has s e.n.classes with
 | false=>exact Px h he ha ho (by simp [chN,hc,q0,q1,q2,q3,q4,q5,q6]) (aG4 m e.o e.n.ID e.n s σ hown (h.ho.hn e he) (by omega) hc)
 | true=>exact Fw h he ha ho (n':= { e.n with classes:=kG e.n.classes s }) (by simp [chN,hc,q0,q1,q2,q3,q4,q5,q6]) rfl rfl rfl rfl ⟨by dsimp only;omega,by dsimp only;omega,by dsimp only;omega⟩ (h.sts he) (aJc m e.o e.n.ID e.n s σ hown (h.ho.hn e he) (by omega) hc)
variable {M i k m:Nat}{a b:List ND}{rk:Int->Nat}{x:RD}{σ σ':List (List D)}
theorem Is (h:a.Perm b)(hn:(b.map ND.ID).Nodup)(id:Int):kF a id=kF b id:=by
 have ha:(a.map ND.ID).Nodup:=(h.map ND.ID).nodup_iff.2 hn;cases e:kF b id with
 | some n=>
  obtain⟨h1,rfl⟩:=oG e;exact Hz ha (h.mem_iff.2 h1)
 | none=>
  unfold kF at e |-;rw [sB] at e |-;exact fun n h1=>e n (h.mem_iff.1 h1)
theorem vC (h:a.Perm b)(hn:(b.map ND.ID).Nodup):aI a=aI b:=funext fun id=>by unfold aI;rw [Is h hn]
theorem aH6 (h:a.Perm b)(hn:(b.map ND.ID).Nodup):fK a=fK b:=funext fun id=>by unfold fK;rw [Is h hn]
theorem Kn (h:aI a=aI b):∀(f:Nat) (id:Int),Ci f a id=Ci f b id
 | 0,_=>rfl
 | f+1,id=>by
  simp only [Ci,h];congr 1;exact mG fun k _=>Kn h f k
theorem Gc (h:aI a=aI b)(rk:Int->Nat):dP a rk=dP b rk:=funext fun id=>Kn h _ _
structure XP(d x:RD):Prop where
 most:x.most=d.most
 next:x.next=d.next
 l:x.l.Perm d.l
 nd:(d.l.map ND.ID).Nodup
theorem XP.refl {d:RD} (h:(d.l.map ND.ID).Nodup):XP d d:=⟨rfl,rfl,List.Perm.refl _,h⟩
variable {d:RD}
theorem XP.fd(h:XP d x):aI x.l=aI d.l:=vC h.l h.nd
theorem XP.il(h:XP d x):fK x.l=fK d.l:=aH6 h.l h.nd
theorem XP.wb(h:XP d x):nO x.l=nO d.l:=by funext b i o;unfold nO;rw [h.il]
theorem XP.ix(h:XP d x):aR3 x.l=aR3 d.l:=by funext i;unfold aR3;rw [h.il,h.fd]
theorem XP.len(h:XP d x):x.l.length=d.l.length:=h.l.length_eq
theorem XP.nb(h:XP d x)(hn:NB d.l):NB x.l:=by
 have hm:∀n∈x.l,n∈d.l:=fun n hn=>h.l.mem_iff.1 hn;exact⟨by rw [h.len];exact hn.len,fun n h1=>hn.kids n (hm n h1),fun n h1=>hn.cls n (hm n h1),fun n h1=>hn.ats n (hm n h1),fun n h1=>hn.sts n (hm n h1)⟩
theorem Tr.perm (h:aI a=aI b) {bel:Int->List Int} (ht:Tr b bel rk):Tr a bel rk:=⟨fun id=>by rw [h];exact ht.eq id,fun id=>by rw [h];exact ht.dec id,ht.len⟩
theorem XP.put(h:XP d x)(n:ND):(dF x.l n).Perm (dF d.l n):=by unfold dF;exact h.l.map _
theorem XP.remP(h:XP d x)(id:Int):(Go.Proofs.YtbgfljpnhhdkoaaGreat.remP x.l id).Perm (Go.Proofs.YtbgfljpnhhdkoaaGreat.remP d.l id):=by
 unfold Go.Proofs.YtbgfljpnhhdkoaaGreat.remP;rw [h.fd,h.il];split
 .exact h.put _
 exact h.l
theorem Bl(l:List ND)(id:Int):(remP l id).map ND.ID=l.map ND.ID:=by
 unfold remP;split
 .exact mJ _ _
 rfl
theorem XP.addX(h:XP d x)(hlt:∀n∈d.l,n.ID<d.next)(kind:Int)(s:ByteArray):(addX x kind s).2=(addX d kind s).2/\XP (Go.Proofs.YtbgfljpnhhdkoaaGreat.addX d kind s).1 (Go.Proofs.YtbgfljpnhhdkoaaGreat.addX x kind s).1:=by
 unfold Go.Proofs.YtbgfljpnhhdkoaaGreat.addX;rw [h.most,h.next,h.len];split
 .exact⟨rfl,h⟩
 split
 .exact⟨rfl,h⟩
 refine⟨rfl,rfl,rfl,h.l.append_right _,?_⟩;rw [cO,lO];refine⟨h.nd,by simp,fun a ha b hb=>?_⟩;simp only [cK,kY,fO] at hb;obtain⟨n,h1,rfl⟩:=aW.1 ha;have:=hlt n h1;simp only [gT] at hb;omega
theorem XP.insX(h:XP d x)(bel:Int->List Int)(p at_ id:Int):(insX x bel p at_ id).2=(insX d bel p at_ id).2/\XP (Go.Proofs.YtbgfljpnhhdkoaaGreat.insX d bel p at_ id).1 (Go.Proofs.YtbgfljpnhhdkoaaGreat.insX x bel p at_ id).1:=by
 unfold Go.Proofs.YtbgfljpnhhdkoaaGreat.insX;rw [h.most,h.next,h.fd,h.il,h.wb];split
 .exact⟨rfl,h⟩
 split
 .exact⟨rfl,h⟩
 split
 .exact⟨rfl,h⟩
 refine⟨rfl,rfl,rfl,?_,?_⟩
 .unfold dF;exact(h.l.map _).map _
 show((dF (dF d.l _) _).map ND.ID).Nodup
 rw [mJ,mJ];exact h.nd
theorem XP.movX(h:XP d x)(id at_:Int):(movX x id at_).2=(movX d id at_).2/\XP (Go.Proofs.YtbgfljpnhhdkoaaGreat.movX d id at_).1 (Go.Proofs.YtbgfljpnhhdkoaaGreat.movX x id at_).1:=by
 unfold Go.Proofs.YtbgfljpnhhdkoaaGreat.movX;rw [h.most,h.next,h.fd,h.il];split
 .exact⟨rfl,h⟩
 split
 .exact⟨rfl,h⟩
 exact⟨rfl,rfl,rfl,h.put _,by show((dF d.l _).map ND.ID).Nodup;rw [mJ];exact h.nd⟩
theorem XP.remX(h:XP d x)(bel:Int->List Int)(id:Int):(remX x bel id).2=(remX d bel id).2/\XP (Go.Proofs.YtbgfljpnhhdkoaaGreat.remX d bel id).1 (Go.Proofs.YtbgfljpnhhdkoaaGreat.remX x bel id).1:=by
 unfold Go.Proofs.YtbgfljpnhhdkoaaGreat.remX;rw [h.most,h.next,h.il];split
 .exact⟨rfl,h⟩
 split
 .exact⟨rfl,h⟩
 refine⟨rfl,rfl,rfl,(h.remP id).filter _,?_⟩;have hn:((Go.Proofs.YtbgfljpnhhdkoaaGreat.remP d.l id).map ND.ID).Nodup:=by rw [Bl];exact h.nd
 exact hn.sublist (List.Sublist.map _ yL)
theorem XP.setX(h:XP d x)(kind id:Int)(name v:ByteArray)(num:Int):(setX x kind id name v num).2=(setX d kind id name v num).2/\XP (Go.Proofs.YtbgfljpnhhdkoaaGreat.setX d kind id name v num).1 (Go.Proofs.YtbgfljpnhhdkoaaGreat.setX x kind id name v num).1:=by
 unfold Go.Proofs.YtbgfljpnhhdkoaaGreat.setX;rw [h.most,h.next,h.fd,h.il];split
 .exact⟨rfl,h⟩
 split
 .exact⟨rfl,h⟩
 split
 .exact⟨rfl,h⟩
 split
 .exact⟨rfl,h⟩
 split
 .exact⟨rfl,h⟩
 exact⟨rfl,rfl,rfl,h.put _,by show((dF d.l _).map ND.ID).Nodup;rw [mJ];exact h.nd⟩
def Nx(d d':RD):Prop:=d'.most=d.most/\(d'.next=d.next\/d'.next=d.next+1)
theorem Nx.refl(d:RD):Nx d d:=⟨rfl,.inl rfl⟩
structure IX(k m M:Nat)(d:DS)(rk:Int->Nat)(x:RD)(σ:List (List D)):Prop where
 iv:IV k m M d rk σ
 xp:XP d.x x
theorem IX.app {d:DS} (h:IX k m M d rk x σ)(J:List (List D)):IX k m M d rk x (σ++J):=⟨h.iv.app J,h.xp⟩
theorem IX.mono {d:DS} (h:IX k m M d rk x σ):IX (k+1) m M d rk x σ:=⟨h.iv.mono,h.xp⟩
theorem DO.frame {d:DS} (h:DO m M d σ)(hl:σ.length<=σ'.length)(hf:∀i,(i=m\/∃e∈d.es,e.o=i)->σ'[i]?=σ[i]?):DO m M d σ':=
 ⟨by rw [hf m (.inl rfl)];exact h.hm,fun e he=>by rw [hf e.o (.inr ⟨e,he,rfl⟩)];exact h.hn e he,h.nm,h.nd,by have:=h.hM;omega⟩
theorem IX.frame {d:DS} (h:IX k m M d rk x σ)(hl:σ.length<=σ'.length)(hf:∀i,(i=m\/∃e∈d.es,e.o=i)->σ'[i]?=σ[i]?):IX k m M d rk x σ':=⟨⟨h.iv.ho.frame hl hf,h.iv.ip,h.iv.wt⟩,h.xp⟩
def Off(m:Nat)(d:DS)(i:Nat):Prop:=i≠m/\∀e∈d.es,e.o≠i
theorem Off.step {d d':DS} (h:Off m d i)(hi:i<σ.length)(hf:FrO m d d' σ σ'):Off m d' i/\σ'[i]?=σ[i]?:=
 ⟨⟨h.1,fun e he e1=>by
  rcases hf.own e he with ⟨e0,h0,q⟩ | h1
  .exact h.2 e0 h0 (q.trans e1)
  omega⟩,hf.keep i hi h.1 h.2⟩
theorem IX.put {d:DS} (h:IX k m M d rk x σ) (ho:Off m d i)(c:List D):IX k m M d rk x (σ.set i c):=
 h.frame (by rw [cE];exact aX _) fun j hj=>by
  rw [eK];rcases hj with rfl | ⟨e,he,rfl⟩
  .exact ho.1
  exact fun q=>ho.2 e he q.symm
theorem IX.off {d:DS} (h:IX k m M d rk x σ) (hi:σ.length<=i):Off m d i:=
 ⟨fun e=>by have:=pC h.iv.ho.hm;omega,fun e he q=>by have:=h.iv.ho.lt he;omega⟩
variable {M k m:Nat}{d:DS}{rk:Int->Nat}{σ:List (List D)}
structure Act where
 kind:Int
 a:Int
 b:Int
 c:Int
 name:ByteArray
 value:ByteArray
 deriving DecidableEq
@[simp] abbrev aXw(s:Act):D:= .agg [.v (.int .i64 s.kind),.v (.int .i64 s.a),.v (.int .i64 s.b),.v (.int .i64 s.c),.v (.string s.name),.v (.string s.value)]
def mP(a:Act):Act:= { a with name:=tH 20 a.name,value:=tH 40 a.value }
def d0(most:Int)(o:Nat):DS:=⟨max 1 (min most 65536),1,1, [⟨nR,o,0⟩]⟩
theorem yA(x:Int):Ly x 1 65536=max 1 (min x 65536):=by
 unfold Ly;(repeat' split) <;> omega
theorem aT8(most:Int)(σ:List (List D)):IV 0 (σ.length+1) σ.length (d0 most (σ.length+2)) (fun _=>0) (σ++ [[],zX σ.length (d0 most (σ.length+2)),jH nR]):=by
 have hl:(d0 most (σ.length+2)).l= [nR]:=rfl;have hm:∀n∈(d0 most (σ.length+2)).l,n=nR:=fun n hn=>by rw [hl] at hn;simpa using hn
 have hwt:WT (d0 most (σ.length+2)).l (fun _=>0):=by
  refine⟨by rw [hl];simp,fun n hn k hk=>?_,fun n hn=>?_,fun n hn=>?_,fun n hn=>?_,fun n hn k hk=>?_⟩ <;> have:=hm n hn <;> subst this
  .cases hk
  .exact .inl rfl
  .exact lS _
  .exact tV
  cases hk
 refine⟨⟨by simp,fun e he=>?_,fun e he=>?_,by simp [d0],by simp⟩,⟨hwt.nd,by simp [d0],?_,by simp [d0],fun n hn=>?_,fun n hn=>?_,fun n hn=>?_,⟨nR,by rw [hl];simp,rfl,rfl,rfl⟩,fun n hn=>?_,?_⟩,hwt⟩
 .simp only [d0,fO] at he;subst he;simp
 .simp only [d0,fO] at he;subst he;show σ.length+2≠σ.length+1;omega
 .show 1<=max 1 (min most 65536)/\max 1 (min most 65536)<=65536;omega
 .have:=hm n hn;subst this;show(0:Int)<1;omega
 .have:=hm n hn;subst this;simp [nR]
 .have:=hm n hn;subst this;exact⟨List.Pairwise.nil,List.Pairwise.nil⟩
 .have:=hm n hn;subst this;exact .inr rfl
 show(([_]:List EN).length:Int) - 1<=max 1 (min most 65536);simp;omega
theorem aMx(most:Int)(σ:List (List D))  :Ct prog 58 [D.int most] σ (fun r σ'=>r= .ref (σ.length+1) 0/\σ'=σ++ [[],zX σ.length (d0 most (σ.length+2)),jH nR]):=by
 refine zf func58 ?_;refine zr ⟨[],[],[8,14],[],[]⟩ fun _ _ Z=>?_;simp[bH,aV,aK,aH,yA];apply Z;refine zr ⟨[],[],[8,14],[],[]⟩ fun _ _ Z=>?_;refine zs 1 fun _ Y=>?_;simp[bH,aV,aK,aH,yA];apply Y;refine aF fun _ Y=>?_;simp[bH,aV,aK,aH,yA];refine cN (aOa ..) ?_;apply Y;simp[bH,aV,aK,aH,yA];and_intros<;>(try omega);apply Z;refine Lu 6 (σ.length+1) 2 (N:=σ.length) (kd:= .int .i64) (clock:=0) (kvs:= []) (by simp) (by simp [bH,aV,aK,aH] <;> rfl) (by simp <;> rfl) ?_;simp only [aV,jE,iR];refine zr ⟨[],[],[8,14],[],[]⟩ fun _ _ Z=>?_;simp[bH,aV,aK,aH,yA];refine⟨σ.length+1,2,0, [],1,_,⟨⟨_,by simp [bH,aV,aK,aH] <;> rfl,rfl⟩,tF _,rfl,.inr ⟨by simp,rfl,rfl⟩⟩,?_⟩;rw [aAs (by simp [bH,aV,aK,aH] <;> rfl)];and_intros<;>(try omega);apply Z;refine Uo (σ.length+2) 8 1 (by simp [bH,aV,aK,aH];rfl) rfl ?_;simp only [aV,jE,iR];refine Mj (σ.length+2) (jH nR) (by simp [bH,aV,aK,aH];rfl) (by simp [leC,nR,D.s1]) ?_;simp only [aV,jE,iR];refine zk [2,3] ?_;refine zr ⟨[],[],[8,14],[],[]⟩ fun _ _ Z=>?_;simp[bH,aV,aK,aH,yA];apply Z;apply aC;simp [aG,d0,kvE,nR,zX]
theorem aSu (h:IV k m M d rk σ)(hk:k<=800)(i:Int):(aI d.x.l i).kids.length<=900:=by
 cases hl:fK d.x.l i with
 | false=>rw [kK hl];simp [Rx]
 | true=>
  obtain⟨n,n1,_,n3⟩:=eN hl;rw [n3];have:=(h.ip.sz n n1).1;omega
theorem aQw (h:IV k m M d rk σ)(i:Int):(aI d.x.l i).kids.Nodup:=by
 cases hl:fK d.x.l i with
 | false=>rw [kK hl];exact tV
 | true=>
  obtain⟨n,n1,_,n3⟩:=eN hl;rw [n3];exact h.wt.kn n n1
theorem aP1 (h:IV k m M d rk σ)(i:Int):Sorted nA (aI d.x.l i).attrs:=by
 cases hl:fK d.x.l i with
 | false=>rw [kK hl];exact List.Pairwise.nil
 | true=>
  obtain⟨n,n1,_,n3⟩:=eN hl;rw [n3];exact(h.ip.st n n1).1
theorem aP0 (h:IV k m M d rk σ)(i:Int):Sorted nP (aI d.x.l i).styles:=by
 cases hl:fK d.x.l i with
 | false=>rw [kK hl];exact List.Pairwise.nil
 | true=>
  obtain⟨n,n1,_,n3⟩:=eN hl;rw [n3];exact(h.ip.st n n1).2
end Go.Proofs.YtbgfljpnhhdkoaaGreat
