import Derived.Test.YtbgfljpnhhdkoaaGreatPaKid
import Derived.Test.YtbgfljpnhhdkoaaGreatWkDr7
import Derived.Test.YtbgfljpnhhdkoaaGreatVmZ
set_option maxHeartbeats 1000000
set_option linter.all false
namespace Go.Proofs.YtbgfljpnhhdkoaaGreat
open Go Go.Vm
variable {c name v:ByteArray}{n:ND}{x:RD}
def NmOk(n:ND):Prop:=(∀c∈n.classes,dT c=true)/\(∀p∈n.attrs,dT p.name=true)/\∀p∈n.styles,dT p.name=true
theorem NmOk.cl (h:NmOk n):∀c∈n.classes,dT c=true:=h.1
theorem NmOk.at_ (h:NmOk n):∀p∈n.attrs,dT p.name=true:=h.2.1
theorem NmOk.st (h:NmOk n):∀p∈n.styles,dT p.name=true:=h.2.2
def NmsOk(x:RD):Prop:=∀n∈x.l,NmOk n
theorem NmsOk.new(most:Int):NmsOk (newX most):=fun n hn=>by
 have:n=oA:=by simpa [newX] using hn
 subst this;exact⟨by simp [oA],by simp [oA],by simp [oA]⟩
theorem NmsOk.find {x:RD} (h:NmsOk x) {id:Int} (hl:fP x.l id=true):NmOk (aJ x.l id):=by
 obtain⟨n,h1,h2,h3⟩:=eX hl;rw [h3];exact h n h1
theorem NmOk.put {l:List ND} (h:∀n∈l,NmOk n) {n':ND} (hn:NmOk n'):∀n∈dK l n',NmOk n:=fun n hm=>by
 unfold dK at hm;obtain⟨y,hy,rfl⟩:=aV.1 hm;split
 .exact hn
 exact h y hy
theorem NmsOk.add (h:NmsOk x)(kind:Int)(s:ByteArray)(hk:kind=1\/kind=2):NmsOk (addX x kind s).1:=by
 unfold addX;split
 .exact h
 rename_i c1;split
 .exact h
 intro n hn;rcases bT.1 hn with hn | hn
 .exact h n hn
 have:n=gV x.next kind s:=by simpa using hn
 subst this;exact⟨by simp [gV],by simp [gV],by simp [gV]⟩
theorem NmsOk.ins (h:NmsOk x)(b:Int->List Int)(p at_ id:Int):NmsOk (insX x b p at_ id).1:=by
 unfold insX;split
 .exact h
 rename_i c1;have i1:fP x.l p=true:=by cases q:fP x.l p with | true=>rfl | false=>exact absurd (.inl q) c1
 have i2:fP x.l id=true:=by cases q:fP x.l id with | true=>rfl | false=>exact absurd (.inr q) c1
 split
 .exact h
 split
 .exact h
 show ∀n∈dK (dK x.l _) _,NmOk n
 refine NmOk.put (NmOk.put h ?_) ?_
 .exact h.find i1
 exact h.find i2
theorem NmsOk.mov (h:NmsOk x)(id at_:Int):NmsOk (movX x id at_).1:=by
 unfold movX;split
 .exact h
 split
 .exact h
 rename_i c2;have i1:fP x.l (aJ x.l id).parent=true:=by cases q:fP x.l (aJ x.l id).parent with | true=>rfl | false=>exact absurd (.inl q) c2
 show ∀n∈dK x.l _,NmOk n
 refine NmOk.put h ?_;exact h.find i1
theorem NmsOk.rem (h:NmsOk x)(b:Int->List Int)(id:Int):NmsOk (remX x b id).1:=by
 unfold remX;split
 .exact h
 split
 .exact h
 intro n hn;have hn:=(cS.1 hn).1;unfold remP at hn;split at hn
 .rename_i c;exact NmOk.put h (by exact h.find c) n hn
 exact h n hn
theorem NmsOk.chN {n':ND} (h:NmOk n) {kind:Int} {num:Int} (hv:¬(¬kind=1/\dT name=false))(e:chN n kind name v num=some n'):NmOk n':=by
 have hv:¬kind=1->dT name=true:=fun a=>by
  cases q:dT name with
  | true=>rfl
  | false=>exact absurd ⟨a,q⟩ hv
 unfold Go.Proofs.YtbgfljpnhhdkoaaGreat.chN at e;split at e
 .cases e;exact⟨h.cl,h.at_,h.st⟩
 split at e
 .cases e;exact⟨h.cl,h.at_,h.st⟩
 rename_i k0 k1;have hv:=hv k1;split at e
 .cases e;refine⟨h.cl,fun p hp=>?_,h.st⟩;rcases Dp nA hp with rfl | hp
  .exact hv
  exact h.at_ p hp
 split at e
 .split at e
  .cases e;exact⟨h.cl,fun p hp=>h.at_ p (cS.1 hp).1,h.st⟩
  cases e
 split at e
 .cases e;refine⟨h.cl,h.at_,fun p hp=>?_⟩;rcases Dp nP hp with rfl | hp
  .exact hv
  exact h.st p hp
 split at e
 .split at e
  .cases e;exact⟨h.cl,h.at_,fun p hp=>h.st p (cS.1 hp).1⟩
  cases e
 split at e
 .split at e
  .cases e
  cases e;refine⟨fun c hc=>?_,h.at_,h.st⟩;rcases bT.1 hc with hc | hc
  .exact h.cl c hc
  rw [fS.1 hc];exact hv
 split at e
 .cases e;exact⟨fun c hc=>h.cl c (cS.1 hc).1,h.at_,h.st⟩
 cases e
theorem NmsOk.set (h:NmsOk x)(kind id:Int)(name v:ByteArray)(num:Int):NmsOk (setX x kind id name v num).1:=by
 unfold setX;split
 .exact h
 rename_i c1;have i1:fP x.l id=true:=by cases q:fP x.l id with | true=>rfl | false=>exact absurd q c1
 split
 .exact h
 split
 .exact h
 split
 .exact h
 rename_i c4;split
 .exact h
 rename_i n hn;exact NmOk.put h (NmsOk.chN (h.find i1) c4 hn)
section
variable {α β:Type} {nm:α->ByteArray}
theorem Sorted.uniq {l:List α} (h:Sorted nm l):∀ {p q:α},p∈l->q∈l->nm p=nm q->p=q:=by
 induction l with
 | nil=>intro p q hp;cases hp
 | cons x l ih =>
  intro p q hp hq e;obtain⟨h1,h2⟩:=jB.1 h;rcases bM.1 hp with e1 | hp'
  .subst e1;rcases bM.1 hq with e2 | hq
   .exact e2.symm
   exact absurd e (qY (h1 q hq))
  rcases bM.1 hq with e2 | hq
  .subst e2;exact absurd e.symm (qY (h1 p hp'))
  exact ih h2 hp' hq e
theorem Sorted.ne {l:List α} (h:Sorted nm l):l.Pairwise fun a b=>nm a≠nm b:=h.imp fun h=>qY h
theorem pP {l:List α} :mA nm l c=true↔∃p∈l,nm p=c:=by
 unfold mA;rw [oW];simp
theorem Di {l:List α} {q:α} :q∈lF nm l c↔q∈l/\nm q≠c:=by
 unfold lF;rw [cS];simp
theorem Wj {l:List α} (h:Sorted nm l)(p:α) {q:α} :q∈fU nm l p↔q=p\/(q∈l/\nm q≠nm p):=by
 induction l with
 | nil=>simp [fU]
 | cons x l ih =>
  obtain⟨h1,h2⟩:=jB.1 h;unfold fU;split
  .rename_i c;rw [bM,ih h2,bM];have:=qY c;constructor
   .rintro(rfl | rfl | ⟨a,b⟩)
    .exact .inr ⟨.inl rfl,this⟩
    .exact .inl rfl
    exact .inr ⟨.inr a,b⟩
   rintro(rfl | ⟨rfl | a,b⟩)
   .exact .inr (.inl rfl)
   .exact .inl rfl
   exact .inr (.inr ⟨a,b⟩)
  rename_i c;have hne:∀y∈l,nm x=nm p\/dS (nm p) (nm x)=true->nm y≠nm p:=fun y hy hc e=>by
   have:=h1 y hy;rw [e] at this;exact c this
  split
  .rename_i c2;rw [bM,bM];constructor
   .rintro(rfl | a)
    .exact .inl rfl
    exact .inr ⟨.inr a,hne q a (.inl c2)⟩
   rintro(rfl | ⟨rfl | a,b⟩)
   .exact .inl rfl
   .exact absurd c2 b
   exact .inr a
  rename_i c2;rw [bM,bM];constructor
  .rintro(rfl | rfl | a)
   .exact .inl rfl
   .exact .inr ⟨.inl rfl,c2⟩
   exact .inr ⟨.inr a,fun e=>c (by have:=h1 q a;rwa [e] at this)⟩
  rintro(rfl | ⟨rfl | a,b⟩)
  .exact .inl rfl
  .exact .inr (.inl rfl)
  exact .inr (.inr a)
theorem aEf [DecidableEq α] {A:List α} (h:Sorted nm A)(p:α):wW nm A p=true↔p∈A:=by
 unfold wW;rw [gP,fN];constructor
 .rintro⟨-,b⟩;exact bE b
 intro hp;have hf:Lt nm A (nm p)=true:=by rw [Iw nm h];exact pP.2 ⟨p,hp,rfl⟩
 have hl:=Be nm hf;refine⟨hf,?_⟩;have e:=Sj nm A (nm p) hl;rw [hf] at e;rw [aS hl,h.uniq (bS hl) hp (by simpa using e.symm)]
end
def xG(n:ND)(q:DO_):Option ND:=chN n (q.kind - 6) q.name q.value q.num
def tB:ND->List DO_->Option ND
 | n, []=>some n
 | n,q::O=>match xG n q with
  | none=>none
  | some n'=>tB n' O
theorem mO {m:ND} {q:DO_} {O:List DO_} (h:xG n q=some m):tB n (q::O)=tB m O:=by simp [tB,h]
theorem wZ:∀ {O P:List DO_} {n n':ND},tB n O=some n'->tB n (O++P)=tB n' P
 | [],P,n,n',h=>by
  have:n=n':=by simpa [tB] using h
  rw [this];rfl
 | q :: O, P, n, n', h => by
  cases e:xG n q with
  | none=>simp [tB,e] at h
  | some m=>
   rw [mO e] at h;rw [aQ,mO e];exact wZ h
theorem aLx:∀(P:List AT) (n:ND),Sorted nA n.attrs->(P.Pairwise fun a b=>a.name≠b.name)->(∀p∈P,mA nA n.attrs p.name=true)->
  ∃L,tB n (P.map fun p=> .da p.name)=some { n with attrs:=L } /\Sorted nA L/\∀q,q∈L↔q∈n.attrs/\∀p∈P,q.name≠p.name
 | [],n,h,_,_=>⟨n.attrs,rfl,h,fun q=>by simp⟩
 | p :: P, n, h, hd, hh => by
  obtain⟨d1,d2⟩:=jB.1 hd;obtain⟨L,e,s,m⟩:=aLx P { n with attrs:=lF nA n.attrs p.name } (tT nA h _) d2 fun q hq=>by
   obtain⟨x,x1,x2⟩:=pP.1 (hh q (eV _ hq));exact pP.2 ⟨x,Di.2 ⟨x1,by rw [x2];exact(d1 q hq).symm⟩,x2⟩
  have hs:xG n (.da p.name)=some { n with attrs:=lF nA n.attrs p.name } :=by
   show chN n 3 p.name _ _=_
   unfold chN;rw [aD (by decide),aD (by decide),aD (by decide),aK rfl,aK (hh p dH)]
  refine⟨L,?_,s,fun q=>?_⟩
  .rw [cC,mO hs];exact e
  rw [m];show q∈lF nA n.attrs p.name/\_↔_
  rw [Di];simp only [bM,yV];exact and_assoc
theorem aJ4:∀(P:List AT) (n:ND),Sorted nA n.attrs->(P.Pairwise fun a b=>a.name≠b.name)->
  ∃L,tB n (P.map fun p=> .sa p.name p.value)=some { n with attrs:=L } /\Sorted nA L/\∀q,q∈L↔q∈P\/(q∈n.attrs/\∀p∈P,q.name≠p.name)
 | [],n,h,_=>⟨n.attrs,rfl,h,fun q=>by simp⟩
 | p :: P, n, h, hd => by
  obtain⟨d1,d2⟩:=jB.1 hd;obtain⟨L,e,s,m⟩:=aJ4 P { n with attrs:=fU nA n.attrs p } (nI nA h _) d2;have hs:xG n (.sa p.name p.value)=some { n with attrs:=fU nA n.attrs p } :=by
   show chN n 2 p.name p.value _=_
   unfold chN;rw [aD (by decide),aD (by decide),aK rfl]
  refine⟨L,?_,s,fun q=>?_⟩
  .rw [cC,mO hs];exact e
  rw [m];show _\/(q∈fU nA n.attrs p/\_)↔_
  rw [Wj h];simp only [bM,yV];constructor
  .rintro(a | ⟨rfl | ⟨a,b⟩,c⟩)
   .exact .inl (.inr a)
   .exact .inl (.inl rfl)
   exact .inr ⟨a,b,c⟩
  rintro((rfl | a) | ⟨a,b,c⟩)
  .exact .inr ⟨.inl rfl,d1⟩
  .exact .inl a
  exact .inr ⟨.inr ⟨a,b⟩,c⟩
theorem aIj:∀(P:List PI) (n:ND),Sorted nP n.styles->(P.Pairwise fun a b=>a.name≠b.name)->(∀p∈P,mA nP n.styles p.name=true)->
  ∃L,tB n (P.map fun p=> .ds p.name)=some { n with styles:=L } /\Sorted nP L/\∀q,q∈L↔q∈n.styles/\∀p∈P,q.name≠p.name
 | [],n,h,_,_=>⟨n.styles,rfl,h,fun q=>by simp⟩
 | p :: P, n, h, hd, hh => by
  obtain⟨d1,d2⟩:=jB.1 hd;obtain⟨L,e,s,m⟩:=aIj P { n with styles:=lF nP n.styles p.name } (tT nP h _) d2 fun q hq=>by
   obtain⟨x,x1,x2⟩:=pP.1 (hh q (eV _ hq));exact pP.2 ⟨x,Di.2 ⟨x1,by rw [x2];exact(d1 q hq).symm⟩,x2⟩
  have hs:xG n (.ds p.name)=some { n with styles:=lF nP n.styles p.name } :=by
   show chN n 5 p.name _ _=_
   unfold chN;rw [aD (by decide),aD (by decide),aD (by decide),aD (by decide),aD (by decide),aK rfl,aK (hh p dH)]
  refine⟨L,?_,s,fun q=>?_⟩
  .rw [cC,mO hs];exact e
  rw [m];show q∈lF nP n.styles p.name/\_↔_
  rw [Di];simp only [bM,yV];exact and_assoc
theorem aMi:∀(P:List PI) (n:ND),Sorted nP n.styles->(P.Pairwise fun a b=>a.name≠b.name)->(∀p∈P,Av p.value=p.value)->
  ∃L,tB n (P.map fun p=> .ss p.name p.value)=some { n with styles:=L } /\Sorted nP L/\∀q,q∈L↔q∈P\/(q∈n.styles/\∀p∈P,q.name≠p.name)
 | [],n,h,_,_=>⟨n.styles,rfl,h,fun q=>by simp⟩
 | p :: P, n, h, hd, hv => by
  obtain⟨d1,d2⟩:=jB.1 hd;obtain⟨L,e,s,m⟩:=aMi P { n with styles:=fU nP n.styles p } (nI nP h _) d2 fun q hq=>hv q (eV _ hq);have hs:xG n (.ss p.name p.value)=some { n with styles:=fU nP n.styles p } :=by
   show chN n 4 p.name _ p.value=_
   unfold chN;rw [aD (by decide),aD (by decide),aD (by decide),aD (by decide),aK rfl,hv p dH]
  refine⟨L,?_,s,fun q=>?_⟩
  .rw [cC,mO hs];exact e
  rw [m];show _\/(q∈fU nP n.styles p/\_)↔_
  rw [Wj h];simp only [bM,yV];constructor
  .rintro(a | ⟨rfl | ⟨a,b⟩,c⟩)
   .exact .inl (.inr a)
   .exact .inl (.inl rfl)
   exact .inr ⟨a,b,c⟩
  rintro((rfl | a) | ⟨a,b,c⟩)
  .exact .inr ⟨.inl rfl,d1⟩
  .exact .inl a
  exact .inr ⟨.inr ⟨a,b⟩,c⟩
theorem Xk(l:Ls)(c:ByteArray):bU (kS l c)=kS (bU l) c:=by
 obtain⟨r,rfl⟩:∃r,l=List.reverse r:=⟨l.reverse,by simp⟩;induction r with
 | nil=>rfl
 | cons x r ih =>
  rw [Ho];generalize r.reverse=l at *;rw [wE,nF];by_cases e:x=c
  .rw [aK e,gH,ih];unfold rN;split
   .rfl
   rw [wE,aK e,gH]
  rw [aD e,nF,ih];have hx:has x (kS (bU l) c)=has x (bU l):=by
   rw [iZ,jL,jL];unfold kS;rw [cS];simp [e]
  unfold rN;rw [hx];split
  .rfl
  rw [wE,aD e]
def okS:Ls->List Stp->Prop
 | _, []=>True
 | Y,s::S=>(if s.drop=true then has s.name Y=true else ¬has s.name Y=true)/\okS (rU Y s) S
theorem aCw:∀ {S T:List Stp} {Y:Ls},okS Y S->okS (S.foldl rU Y) T->okS Y (S++T)
 | [],T,Y,_,h=>h
 | s::S,T,Y,⟨h1,h2⟩,h=>⟨h1,aCw h2 h⟩
theorem Wy:∀(N Y:Ls),N.Nodup->(∀c∈N,has c Y=true)->okS Y (N.map (Stp.mk true))
 | [],_,_,_=>trivial
 | c::N,Y,hn,h=>by
  obtain⟨n1,n2⟩:=gY.1 hn;refine⟨by rw [aK rfl];exact h c dH,Wy N _ n2 fun x hx=>?_⟩;show has x (kS Y c)=true
  rw [jL];unfold kS;rw [cS];refine⟨(jL _ _).1 (h x (eV _ hx)),?_⟩;have:¬x=c:=by rintro rfl;exact n1 hx
  simpa using this
theorem aC5:∀(N Y:Ls),(Y++N).Nodup->okS Y (N.map (Stp.mk false))
 | [],_,_=>trivial
 | c :: N, Y, hn => by
  have hc:¬has c Y=true:=by
   rw [jL];intro e;exact(mJ.1 hn).2.2 c e c (by simp) rfl
  refine⟨by rw [aD (by simp)];exact hc,?_⟩;have hs:rU Y ⟨false,c⟩=Y++ [c]:=by
   simp only [rU,rN,hc];simp
  rw [hs];exact aC5 N (Y++ [c]) (by simpa using hn)
theorem aKc(a b:Ls):okS (bU a) (jT a b):=by
 unfold jT Pp Ip;have h1:(bU a).filter (fun c=> !has c ((bU a).filter fun c=> !has c ((bU b).take (kB (bU b) (bU a)))))=(bU b).take (kB (bU b) (bU a)):=by
  refine Eq.trans (gZ fun c hc=>?_) (La (Vw (bU b) (bU a)) (oX a));rw [iZ];simp only [mE,qL,ne_eq,jL,cS,not_and,Gf];exact⟨fun h=>h hc,fun h _=>h⟩
 refine aCw (Wy _ _ ((oX a).filter _) fun c hc=>(jL _ _).2 (cS.1 hc).1) ?_;rw [uA,h1];exact aC5 _ _ (by rw [eZ];exact oX b)
def jW(n:ND)(o:OW):List DO_:=(jT n.classes o.classes).map cOp++(jJ nA Aj n.attrs o.attrs).map aOp++(jJ nP Dm n.styles o.styles).map sOp
structure OwOk(o:OW):Prop where
 sa:Sorted nA o.attrs
 ss:Sorted nP o.styles
 sv:∀p∈o.styles,Av p.value=p.value
structure Has(n:ND)(o:OW):Prop where
 cl:bU n.classes=bU o.classes
 at_:∀p,p∈n.attrs↔p∈o.attrs
 st:∀p,p∈n.styles↔p∈o.styles
section
variable {α β:Type} [DecidableEq α] {nm:α->ByteArray}
theorem Dc {A B:List α} (hA:Sorted nm A)(hB:Sorted nm B)(mk:Bool->α->β):jJ nm mk A B=(A.filter fun p=> !mA nm B (nm p)).map (mk true)++(B.filter fun p=> !decide (p∈A)).map (mk false):=by
 unfold jJ uT tQ;rw [rP nm hA,rP nm hB];congr 2
 .exact gZ fun p _=>by rw [Iw nm hB]
 exact gZ fun p _=>by
  congr 1;rw [iZ,aEf hA,fN]
theorem Ww {A B L M:List α} (hA:Sorted nm A)(hB:Sorted nm B)(h1:∀q,q∈L↔q∈A/\∀p∈A.filter (fun p=> !mA nm B (nm p)),nm q≠nm p)(h2:∀q,q∈M↔q∈B.filter (fun p=> !decide (p∈A))\/(q∈L/\∀p∈B.filter (fun p=> !decide (p∈A)),nm q≠nm p)):∀q,q∈M↔q∈B:=fun q=>by
 rw [h2,h1];simp only [cS,mE,decide_eq_false_iff_not];constructor
 .rintro(⟨a, -⟩ | ⟨⟨a,b⟩,c⟩)
  .exact a
  cases e:mA nm B (nm q)with
  | false=>exact absurd rfl (b q ⟨a,e⟩)
  | true=>
   obtain⟨p,p1,p2⟩:=pP.1 e;by_cases hp:p∈A
   .rw [<- hA.uniq hp a p2];exact p1
   exact absurd p2.symm (c p ⟨p1,hp⟩)
 intro hq;by_cases a:q∈A
 .refine .inr ⟨⟨a,fun p hp e=>?_⟩,fun p hp e=>?_⟩
  .have:mA nm B (nm p)=true:=pP.2 ⟨q,hq,e⟩;rw [hp.2] at this;cases this
  exact hp.2 (hB.uniq hp.1 hq e.symm ▸ a)
 exact .inl ⟨hq,a⟩
end
theorem Eh {l:Ls} :c∈bU l↔c∈l:=by rw [<- jL,<- jL,Ft]
theorem aOd {o:OW} (ho:OwOk o)(ha:Sorted nA n.attrs)(hs:Sorted nP n.styles)(hn:NmOk n)(hno:∀s∈fK o,dT s=true)(hv:∀p∈o.attrs,p.value.size<=1000):∀q∈jW n o,dT q.name=true/\q.value.size<=1000:=by
 intro q hq;have e0:(⟨#[]⟩:ByteArray).size<=1000:=by decide
 have m1:∀c∈o.classes,dT c=true:=fun c hc=>hno c (by unfold fK;simp [hc]);have m2:∀p∈o.attrs,dT p.name=true:=fun p hp=>hno p.name (by unfold fK;rw [bT,bT];exact .inl (.inr (yY hp)));have m3:∀p∈o.styles,dT p.name=true:=fun p hp=>hno p.name (by unfold fK;rw [bT,bT];exact .inr (yY hp));unfold jW at hq;rw [Dc ha ho.sa,Dc hs ho.ss] at hq;simp only [cE,eA,bT] at hq;rcases hq with (hq | hq | hq) | hq | hq
 .obtain⟨s,hs,rfl⟩:=aV.1 hq;have hn:dT s.name=true:=by
   unfold jT Pp Ip at hs;rcases bT.1 hs with hs | hs
   .obtain⟨c,hc,rfl⟩:=aV.1 hs;exact hn.cl c (Eh.1 (cS.1 hc).1)
   obtain⟨c,hc,rfl⟩:=aV.1 hs;exact m1 c (Eh.1 (zN hc))
  unfold cOp;split <;> exact⟨hn,e0⟩
 .obtain⟨p,hp,rfl⟩:=aV.1 hq;exact⟨hn.at_ p (cS.1 hp).1,e0⟩
 .obtain⟨p,hp,rfl⟩:=aV.1 hq;exact⟨m2 p (cS.1 hp).1,hv p (cS.1 hp).1⟩
 .obtain⟨p,hp,rfl⟩:=aV.1 hq;exact⟨hn.st p (cS.1 hp).1,e0⟩
 obtain⟨p,hp,rfl⟩:=aV.1 hq;exact⟨m3 p (cS.1 hp).1,e0⟩
theorem Gk {s:ByteArray} (h:dT s=true):s.size<=16:=by
 unfold dT Bw at h;simp only [gP,fN] at h;exact h.1.1.2
theorem DO_.kind_ge(q:DO_):8<=q.kind:=by cases q <;> simp [DO_.kind]
theorem aJh {m:ND} {kind:Int} {num:Int} (e:chN n kind name v num=some m):m.ID=n.ID/\m.kind=n.kind:=by
 unfold chN at e
 (repeat' split at e) <;> first | (cases e;exact⟨rfl,rfl⟩) | cases e
variable {k m M l:Nat}{d d':DS}{rk rk':Int->Nat}{σ σ2:List (List D)}{y:RD}{ops:List TOp}{i:Int}{o:OW}
theorem aVh(h:IX k m M d rk x σ)(i:Int)(o:OW):Tg (aJ d.l i) (fP d.l i) o=Mz (aJ x.l i) (fP x.l i) i o:=by
 rw [aEi h,aXw h];unfold Tg Mz;cases e:fP d.l i with
 | false=>rfl
 | true=>
  obtain⟨n,n1,n2,n3⟩:=eX e;rw [n3,n2]
theorem aVg {is:Bool} (h:Mz n is i o=0):is=true/\¬i=0/\n.kind=2/\∀s∈fK o,dT s=true:=by
 unfold Mz at h;split at h
 .cases h
 split at h
 .cases h
 split at h
 .cases h
 split at h
 .cases h
 rename_i a b c e;refine⟨by cases is <;> simp_all,b,by omega,fun s hs=>?_⟩;cases q:dT s with
 | true=>rfl
 | false=>exact absurd (oW.2 ⟨s,hs,by simp [q]⟩) e
theorem aZz {α β γ δ:Type} {A:List α} {B:List β} {C:List γ} {f:α->δ} {g:β->δ} {e:γ->δ} {O:List δ} (hO:O=A.map f++B.map g++C.map e):(∀j (h:j<A.length) (h':j<O.length),O[j]=f A[j])/\(∀j (h:j<B.length) (h':A.length+j<O.length),O[A.length+j]=g B[j])/\(∀j (h:j<C.length) (h':A.length+B.length+j<O.length),O[A.length+B.length+j]=e C[j]):=by
 subst hO;refine⟨fun j h h'=>?_,fun j h h'=>?_,fun j h h'=>?_⟩
 .rw [uR (by simp;omega),uR (by simpa using h),kN]
 .rw [uR (by simp;omega),uZ (by simp),kN];congr 2;simp
 rw [uZ (by simp),kN];congr 2;simp
structure Dressed(k m M l:Nat)(i:Int)(o:OW)(x:RD)(ops:List TOp)(k':Nat)(d':DS)(rk':Int->Nat)(y:RD)(ops':List TOp)(σ':List (List D)):Prop where
 lx:LX k' m M l d' rk' y ops' σ'
 kk:k'<=4 * k+24
 op:ops'=ops++aZo i (aJ x.l i) (fP x.l i) o
 path:∀x0,RPath x0 ops x->RPath x0 ops' y
 has:Mz (aJ x.l i) (fP x.l i) i o=0->Mz (aJ y.l i) (fP y.l i) i o=0/\jW (aJ y.l i) o= []
end Go.Proofs.YtbgfljpnhhdkoaaGreat
namespace Go.Vm
open Go
variable {rr:Option Nat} {dfr:List Deferred}
theorem Ok.freezeB {w:World} {g:Gh} {st:St} {val:Nat->Value} (h:Ok w g st val)(n i N len cap k:Nat)(cs ds es:List D)(hn:st.loc[n]?=some cs)(hi:cs[i]?=some (.slo N 0 len cap))(hN:st.obj[N]?=some ds)(hk:0<k)(hcs:ds.length=cap * k)(hl:es.length=len)
  (hes:∀d∈es,d.ncells=k/\d.arr=true) (he:es.flatMap D.cells<+:ds):
  ∃g':Gh,g'.bl=g.bl/\Fr w g w g'/\Ok w g' { st with loc:=st.loc.set n (cs.set i (.sl false es)),obj:=st.obj.set N [] } val:=by
 have hnl:=(aP.1 hn).1;have hNl:=(aP.1 hN).1;obtain⟨bn,hbn⟩:∃bn,g.bl[n]?=some bn:=⟨_,aS (by rw [h.ll];exact hnl)⟩;obtain⟨b,hbN⟩:∃b,g.bs[N]?=some b:=⟨_,aS (by rw [h.ol];exact hNl)⟩;have hne:cs≠ []:=by rintro rfl;simp at hi
 obtain⟨curn,En,m1,m2,m3,m4,m5⟩:=(h.loc n bn cs hbn hn).resolve_left hne;have hil:=(aP.1 hi).1;obtain⟨v,hvi⟩:∃v,curn[i]?=some v:=⟨_,bR (by rw [m2];exact hil)⟩;obtain⟨hr,_,hone⟩:=m5 i _ v hi hvi;have hlen:∀d∈es,d.cells.length=k:=fun d hd=>by rw [eH];exact(hes d hd).1
 -- what is known for good
 obtain⟨M',t1,t2,t3,t4⟩:∃M':Mem,g.M.le M'/\(∀(b':Nat) (t:mV),g.X b'=some t->t.1≠ .obj N->∀o,g.M b' o=none->M' b' o=none)/\(∀(b' o:Nat) (c:Value),M' b' o=some c->w.cell? ⟨b',o,none⟩=some c)/\
   (R M' g.bs (.sl false es) v/\∀(b':Nat),g.X b'=none->∀o,M' b' o=g.M b' o):=by
  cases hr with
  | slo _ _ _ _ x hb hc hmx=>
  by_cases hes0:es= []
  .subst hes0;have hl0:len=0:=by simpa using hl.symm
   subst hl0;refine⟨g.M,fun _ _ _ h=>h,fun _ _ _ _ _ h=>h,h.mem,?_,fun _ _ _=>rfl⟩;cases x with
   | some a=>exact .emp _ a cap hmx
   | none=>
    rcases uX cap with hc0 | hc0
    .subst hc0;exact .nil _
    obtain⟨_,_,e⟩:=hb hc0;cases e
  have hcap0:0<cap:=by
   have:0<es.length:=List.length_pos_iff.2 hes0;omega
  obtain⟨b',hb2,rfl⟩:=hb hcap0;have ebb:b'=b:=by rw [hbN] at hb2;simpa using hb2.symm
  subst ebb;have hdne:ds≠ []:=by
   intro e;rw [e] at hcs;have:0<cap * k:=qA hcap0 hk;simp at hcs;omega
  obtain⟨cur,E,o1,o2,o3,o4,o5⟩:=(h.obj N b' ds hb2 hN).resolve_left hdne;have hfit:∀i,i<es.length->i * k+k<=es.length * k:=fun i hi=>by
   have:(i+1) * k<=es.length * k:=fO _ hi;rw [dB] at this;omega
  have hcap:es.length * k<=cur.size:=by rw [o2,hcs];exact fO _ (by omega)
  have o9:∀(o:Nat) (c:Value),cur[o]?=some c->c.oneCell'=true:=fun o c ho=>by
   have hlt:=(dL.1 ho).1;rw [o2] at hlt;exact(o5 o _ c (aS hlt) ho).2.2
  have hle:g.M.le (fun b2 o=>if b2=b' then(if o<es.length * k then cur[o]? else none)else g.M b2 o):=fun b2 o c hc=>by
   by_cases e:b2=b'
   .subst e;rw [o4] at hc;cases hc
   simp only [aD e];exact hc
  refine⟨fun b2 o=>if b2=b' then(if o<es.length * k then cur[o]? else none)else g.M b2 o,hle,fun b2 t hx ht o ho=>?_,fun b2 o c hc=>?_,?_,fun b2 hx o=>?_⟩
  .have:b2≠b':=by intro e;subst e;rw [o3] at hx;simp only [bF] at hx;subst hx;exact ht rfl
   simp only [aD this];exact ho
  .by_cases e:b2=b'
   .subst e;simp only [aU] at hc;split at hc
    .rw [cell_of_row w b2 o cur E (0,0) o1];exact hc
    cases hc
   simp only [aD e] at hc;exact h.mem b2 o c hc
  .have el:∀(i:Nat) (d:D),es[i]?=some d->R (fun b2 o=>if b2=b' then(if o<es.length * k then cur[o]? else none)else g.M b2 o) g.bs d (Mp cur k i d)/\(Mp cur k i d).cells.size=k/\∀(j:Nat) (c:Value),(Mp cur k i d).cells[j]?=some c->j<k/\cur[i * k+j]?=some c:=by
    intro i d hi;have hil:=(aP.1 hi).1;have:=hfit i hil;obtain⟨r1,r2,r3⟩:=aAh (M:=g.M) (bs:=g.bs) (cur:=cur) (i:=i) (hes d (bE hi)).1 (hes d (bE hi)).2 (by omega) o9 (fun j e hj=>by
     have hcell:=De hk es hlen hi hj;obtain⟨rest,hrest⟩:=he;have hcc:ds[i * k+j]?=some e:=by
      rw [<- hrest,bC (by exact(aP.1 hcell).1)];exact hcell
     have hlt:=(aP.1 hcc).1;rw [<- o2] at hlt;exact⟨_,bR hlt,(o5 _ e _ hcc (bR hlt)).1⟩) hk
    exact⟨r1.mono hle (fun _ _ h=>h),r2,r3⟩
   have hvs:∀(i:Nat) (x:Value),(es.mapIdx fun i d=>Mp cur k i d)[i]?=some x->∃d,es[i]?=some d/\x=Mp cur k i d:=by
    intro i x hi;rw [List.getElem?_mapIdx,dG] at hi;obtain⟨d,h1,h2⟩:=hi;exact⟨d,h1,h2.symm⟩
   refine .sl false es b' 0 _ cap k (es.mapIdx fun i d=>Mp cur k i d) (by simp) hl.symm hk (by omega) hmx (fun i d x a1 a2=>?_) (fun i d hi=>(hes d (bE hi)).1) (fun i x a2=>?_)
   .obtain⟨d',h1,rfl⟩:=hvs i x a2;rw [a1] at h1;have:d=d':=by simpa using h1
    subst this;exact(el i d a1).1
   obtain⟨d',h1,rfl⟩:=hvs i x a2;obtain⟨r1,r2,r3⟩:=el i d' h1;refine⟨r2,fun j c hj=>?_⟩;obtain⟨hj1,hj2⟩:=r3 j c hj;have:=hfit i (aP.1 h1).1;refine⟨o9 _ c hj2,?_⟩;simp only [aU,eL];rw [aK (by omega)];exact hj2
  have:b2≠b':=by intro e;subst e;rw [o3] at hx;cases hx
  simp only [aD this]
 have other:∀(hd:Holder),hd≠ .obj N->∀(b':Nat) (q:List Nat),g.X b'=some (hd,q)->w.heap[b']?=w.heap[b']?/\(∀o,g.M b' o=none->M' b' o=none)/\g.X b'=some (hd,q):=
  fun hd hne b' q hx=>⟨rfl,t2 b' _ hx hne,hx⟩
 refine⟨{ g with M:=M' },rfl,⟨rfl,rfl,rfl,aW _,fun b' hb' hx=>⟨rfl,hx,t4.2 b' hx⟩,t1,fun _ _ h=>h⟩,t3,h.xlt,fun u=>?_,by simp [h.ll],fun n' b' cs' h1 h2=>?_,by simp [h.ol],fun n' b' cs' h1 h2=>?_⟩
 .exact(h.slot u).keep t1 (fun _ _ h=>h) (fun _ _ h=>h) (other _ (by simp))
 .rw [cL] at h2;split at h2
  .rename_i e;subst e;have h2':cs.set i (.sl false es)=cs':=by simpa [hnl] using h2
   subst h2';have ebm:b'=bn:=by rw [hbn] at h1;simpa using h1.symm
   subst ebm;refine .inr ⟨curn,En,m1,by simpa using m2,m3,fun o=>t2 _ _ m3 (by simp) o (m4 o),fun j d x a1 a2=>?_⟩;rw [cL] at a1;split at a1
   .rename_i e;subst e;have hd:D.sl false es=d:=by first | (simpa [hil] using a1) | exact a1
    subst hd;have hx:x=v:=by rw [hvi] at a2;simpa using a2.symm
    subst hx;exact⟨t4.1,.flat _ _ _ rfl,hone⟩
   obtain⟨r1,r2,r3⟩:=m5 j d x a1 a2;exact⟨r1.mono t1 (fun _ _ h=>h),r2.keep t1 (fun _ _ h=>h) (other _ (by simp)),r3⟩
  exact(h.loc n' b' cs' h1 h2).keep t1 (fun _ _ h=>h) (other _ (by simp))
 rw [cL] at h2;split at h2
 .exact .inl (by simpa [hNl] using h2.symm)
 rename_i e;exact(h.obj n' b' cs' h1 h2).keep t1 (fun _ _ h=>h) (other _ (by simp;exact fun e'=>e e'.symm))
theorem Hx {P:Program} (i0 i N len cap k:Nat)(cs ds es:List D) {c:Code} {n:Nat} {l:List (Nat×Slot)} {loc obj:List (List D)} {Q:Exit->St->Prop} (hn:loc[i0]?=some cs)(hi:cs[i]?=some (.slo N 0 len cap))(hN:obj[N]?=some ds)(hk:0<k)(hcs:ds.length=cap * k)(hl:es.length=len)
  (hes:∀d∈es,d.ncells=k/\d.arr=true) (he:es.flatMap D.cells<+:ds) (h:fD rr dfr P c Q (St.mk' n l (loc.set i0 (cs.set i (.sl false es))) (obj.set N []))):fD rr dfr P c Q (St.mk' n l loc obj):=by
 intro w0 g0 w g tmps hf hok hn0;obtain⟨g',_,hfr,hok'⟩:=hok.freezeB i0 i N len cap k cs ds es hn hi hN hk hcs hl hes he;exact h w0 g0 w g' tmps (hf.trans hfr) hok' hn0
end Go.Vm
