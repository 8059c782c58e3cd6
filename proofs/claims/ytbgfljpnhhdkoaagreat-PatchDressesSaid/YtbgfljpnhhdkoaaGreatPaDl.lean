import Derived.Test.YtbgfljpnhhdkoaaGreatPaKid
import Derived.Test.YtbgfljpnhhdkoaaGreatWkDr7
set_option linter.all false
set_option maxHeartbeats 1000000
namespace Go.Proofs.YtbgfljpnhhdkoaaGreat
open Go Go.Vm
variable {c name v:ByteArray}{n:ND}{o:OW}{x:RD}
def NmOk(n:ND):Prop:=(∀c∈n.classes,fF c=true)/\(∀p∈n.attrs,fF p.name=true)/\∀p∈n.styles,fF p.name=true
theorem NmOk.cl (h:NmOk n):∀c∈n.classes,fF c=true:=h.1
theorem NmOk.at_ (h:NmOk n):∀p∈n.attrs,fF p.name=true:=h.2.1
theorem NmOk.st (h:NmOk n):∀p∈n.styles,fF p.name=true:=h.2.2
def NmsOk(x:RD):Prop:=∀n∈x.l,NmOk n
theorem NmsOk.new(most:Int):NmsOk (newX most):=fun n hn=>by
 have:n=pF:=by simpa [newX] using hn
 subst this;exact⟨by simp [pF],by simp [pF],by simp [pF]⟩
theorem NmsOk.find {x:RD} (h:NmsOk x) {id:Int} (hl:eN x.l id=true):NmOk (aG x.l id):=by
 obtain⟨n,h1,h2,h3⟩:=fE hl;rw [h3];exact h n h1
theorem NmOk.put {l:List ND} (h:∀n∈l,NmOk n) {n':ND} (hn:NmOk n'):∀n∈fI l n',NmOk n:=fun n hm=>by
 unfold fI at hm;obtain⟨y,hy,rfl⟩:=aX.1 hm;split
 .exact hn
 exact h y hy
theorem NmsOk.add (h:NmsOk x)(kind:Int)(s:ByteArray)(hk:kind=1\/kind=2):NmsOk (addX x kind s).1:=by
 unfold addX;split
 .exact h
 rename_i c1;split
 .exact h
 intro n hn;rcases cK.1 hn with hn | hn
 .exact h n hn
 have:n=oE x.next kind s:=by simpa using hn
 subst this;exact⟨by simp [oE],by simp [oE],by simp [oE]⟩
theorem NmsOk.ins (h:NmsOk x)(b:Int->List Int)(p at_ id:Int):NmsOk (insX x b p at_ id).1:=by
 unfold insX;split
 .exact h
 rename_i c1;have i1:eN x.l p=true:=by cases q:eN x.l p with | true=>rfl | false=>exact absurd (.inl q) c1
 have i2:eN x.l id=true:=by cases q:eN x.l id with | true=>rfl | false=>exact absurd (.inr q) c1
 split
 .exact h
 split
 .exact h
 show ∀n∈fI (fI x.l _) _,NmOk n
 refine NmOk.put (NmOk.put h ?_) ?_
 .exact h.find i1
 exact h.find i2
theorem NmsOk.mov (h:NmsOk x)(id at_:Int):NmsOk (movX x id at_).1:=by
 unfold movX;split
 .exact h
 split
 .exact h
 rename_i c2;have i1:eN x.l (aG x.l id).parent=true:=by cases q:eN x.l (aG x.l id).parent with | true=>rfl | false=>exact absurd (.inl q) c2
 show ∀n∈fI x.l _,NmOk n
 refine NmOk.put h ?_;exact h.find i1
theorem NmsOk.rem (h:NmsOk x)(b:Int->List Int)(id:Int):NmsOk (remX x b id).1:=by
 unfold remX;split
 .exact h
 split
 .exact h
 intro n hn;have hn:=(cY.1 hn).1;unfold remP at hn;split at hn
 .rename_i c;exact NmOk.put h (by exact h.find c) n hn
 exact h n hn
theorem NmsOk.chN {n':ND} (h:NmOk n) {kind:Int} {num:Int} (hv:¬(¬kind=1/\fF name=false))(e:chN n kind name v num=some n'):NmOk n':=by
 have hv:¬kind=1->fF name=true:=fun a=>by
  cases q:fF name with
  | true=>rfl
  | false=>exact absurd ⟨a,q⟩ hv
 unfold Go.Proofs.YtbgfljpnhhdkoaaGreat.chN at e;split at e
 .cases e;exact⟨h.cl,h.at_,h.st⟩
 split at e
 .cases e;exact⟨h.cl,h.at_,h.st⟩
 rename_i k0 k1;have hv:=hv k1;split at e
 .cases e;refine⟨h.cl,fun p hp=>?_,h.st⟩;rcases Da nA hp with rfl | hp
  .exact hv
  exact h.at_ p hp
 split at e
 .split at e
  .cases e;exact⟨h.cl,fun p hp=>h.at_ p (cY.1 hp).1,h.st⟩
  cases e
 split at e
 .cases e;refine⟨h.cl,h.at_,fun p hp=>?_⟩;rcases Da nP hp with rfl | hp
  .exact hv
  exact h.st p hp
 split at e
 .split at e
  .cases e;exact⟨h.cl,h.at_,fun p hp=>h.st p (cY.1 hp).1⟩
  cases e
 split at e
 .split at e
  .cases e
  cases e;refine⟨fun c hc=>?_,h.at_,h.st⟩;rcases cK.1 hc with hc | hc
  .exact h.cl c hc
  rw [gO.1 hc];exact hv
 split at e
 .cases e;exact⟨fun c hc=>h.cl c (cY.1 hc).1,h.at_,h.st⟩
 cases e
theorem NmsOk.set (h:NmsOk x)(kind id:Int)(name v:ByteArray)(num:Int):NmsOk (setX x kind id name v num).1:=by
 unfold setX;split
 .exact h
 rename_i c1;have i1:eN x.l id=true:=by cases q:eN x.l id with | true=>rfl | false=>exact absurd q c1
 split
 .exact h
 split
 .exact h
 split
 .exact h
 rename_i c4;split
 .exact h
 rename_i n hn;exact NmOk.put h (NmsOk.chN (h.find i1) c4 hn)
theorem NmsOk.act {y:RD} {a:Act} (h:NmsOk x)(hd:DoS a x y):NmsOk y:=by
 cases hd with
 | el q=>exact h.add _ _ (.inr rfl)
 | tx q=>exact h.add _ _ (.inl rfl)
 | ins b q hb=>exact h.ins _ _ _ _
 | mov q=>exact h.mov _ _
 | rem b q hb=>exact h.rem _ _
 | set q=>exact h.set _ _ _ _ _
 | no=>exact h
section
variable {α β:Type} {nm:α->ByteArray}
theorem Sorted.uniq {l:List α} (h:Sorted nm l):∀ {p q:α},p∈l->q∈l->nm p=nm q->p=q:=by
 induction l with
 | nil=>intro p q hp;cases hp
 | cons x l ih =>
  intro p q hp hq e;obtain⟨h1,h2⟩:=kP.1 h;rcases bU.1 hp with e1 | hp'
  .subst e1;rcases bU.1 hq with e2 | hq
   .exact e2.symm
   exact absurd e (tX (h1 q hq))
  rcases bU.1 hq with e2 | hq
  .subst e2;exact absurd e.symm (tX (h1 p hp'))
  exact ih h2 hp' hq e
theorem Sorted.ne {l:List α} (h:Sorted nm l):l.Pairwise fun a b=>nm a≠nm b:=h.imp fun h=>tX h
theorem mH {l:List α} :jJ nm l c=true↔∃p∈l,nm p=c:=by
 unfold jJ;rw [lU];simp
theorem Cx {l:List α} {q:α} :q∈lN nm l c↔q∈l/\nm q≠c:=by
 unfold lN;rw [cY];simp
theorem Wf {l:List α} (h:Sorted nm l)(p:α) {q:α} :q∈gS nm l p↔q=p\/(q∈l/\nm q≠nm p):=by
 induction l with
 | nil=>simp [gS]
 | cons x l ih =>
  obtain⟨h1,h2⟩:=kP.1 h;unfold gS;split
  .rename_i c;rw [bU,ih h2,bU];have:=tX c;constructor
   .rintro(rfl | rfl | ⟨a,b⟩)
    .exact .inr ⟨.inl rfl,this⟩
    .exact .inl rfl
    exact .inr ⟨.inr a,b⟩
   rintro(rfl | ⟨rfl | a,b⟩)
   .exact .inr (.inl rfl)
   .exact .inl rfl
   exact .inr (.inr ⟨a,b⟩)
  rename_i c;have hne:∀y∈l,nm x=nm p\/eF (nm p) (nm x)=true->nm y≠nm p:=fun y hy hc e=>by
   have:=h1 y hy;rw [e] at this;exact c this
  split
  .rename_i c2;rw [bU,bU];constructor
   .rintro(rfl | a)
    .exact .inl rfl
    exact .inr ⟨.inr a,hne q a (.inl c2)⟩
   rintro(rfl | ⟨rfl | a,b⟩)
   .exact .inl rfl
   .exact absurd c2 b
   exact .inr a
  rename_i c2;rw [bU,bU];constructor
  .rintro(rfl | rfl | a)
   .exact .inl rfl
   .exact .inr ⟨.inl rfl,c2⟩
   exact .inr ⟨.inr a,fun e=>c (by have:=h1 q a;rwa [e] at this)⟩
  rintro(rfl | ⟨rfl | a,b⟩)
  .exact .inl rfl
  .exact .inr (.inl rfl)
  exact .inr (.inr a)
theorem aG0 [DecidableEq α] {A:List α} (h:Sorted nm A)(p:α):xS nm A p=true↔p∈A:=by
 unfold xS;rw [fQ,eO];constructor
 .rintro⟨-,b⟩;exact bA b
 intro hp;have hf:Kv nm A (nm p)=true:=by rw [Iz nm h];exact mH.2 ⟨p,hp,rfl⟩
 have hl:=Bm nm hf;refine⟨hf,?_⟩;have e:=Sx nm A (nm p) hl;rw [hf] at e;rw [aQ hl,h.uniq (cN hl) hp (by simpa using e.symm)]
end
theorem Cu {α:Type} {l:List α} {p:α->Bool} {x:α} (h:x∈l)(e:p x=true):∃y∈l,p y=true/\l.find? p=some y:=by
 cases q:l.find? p with
 | none=>rw [qC] at q;exact absurd e (q x h)
 | some y=>exact⟨y,Hc q,List.find?_some q,rfl⟩
theorem aE1 {A:List AT} (h:Sorted nA A)(p:AT):Bb A p=true↔p∈A:=by
 unfold Bb;rw [fQ,eO,mH];constructor
 .rintro⟨⟨x,hx,e⟩,hv⟩;obtain⟨y,y1,y2,y3⟩:=Cu (p:=fun q:AT=>decide (q.name=p.name)) hx (by simpa using e);unfold aE6 at hv;rw [y3] at hv;have y2:y.name=p.name:=by simpa using y2
  have:y=p:=by
   cases y;cases p;simp only at y2;subst y2;simpa using hv
  exact this ▸ y1
 intro hp;refine⟨⟨p,hp,rfl⟩,?_⟩;obtain⟨y,y1,y2,y3⟩:=Cu (p:=fun q:AT=>decide (q.name=p.name)) hp (by simp);unfold aE6;rw [y3,h.uniq y1 hp (by simpa using y2)];rfl
theorem aEe {A:List PI} (h:Sorted nP A)(p:PI):Dp A p=true↔p∈A:=by
 unfold Dp;rw [fQ,eO,mH];constructor
 .rintro⟨⟨x,hx,e⟩,hv⟩;obtain⟨y,y1,y2,y3⟩:=Cu (l:=A.reverse) (p:=fun q:PI=>decide (q.name=p.name)) (sO.2 hx) (by simpa using e);unfold Yf at hv;rw [y3] at hv;have y2:y.name=p.name:=by simpa using y2
  have:y=p:=by
   cases y;cases p;simp only at y2;subst y2;simpa using hv
  exact this ▸ sO.1 y1
 intro hp;refine⟨⟨p,hp,rfl⟩,?_⟩;obtain⟨y,y1,y2,y3⟩:=Cu (l:=A.reverse) (p:=fun q:PI=>decide (q.name=p.name)) (sO.2 hp) (by simp);unfold Yf;rw [y3,h.uniq (sO.1 y1) hp (by simpa using y2)];rfl
def Ba(n:ND)(q:DO_):Option ND:=chN n (q.kind - 6) q.name q.value q.num
def uT:ND->List DO_->Option ND
 | n, []=>some n
 | n,q::O=>match Ba n q with
  | none=>none
  | some n'=>uT n' O
theorem nY {m:ND} {q:DO_} {O:List DO_} (h:Ba n q=some m):uT n (q::O)=uT m O:=by simp [uT,h]
theorem yE:∀ {O P:List DO_} {n n':ND},uT n O=some n'->uT n (O++P)=uT n' P
 | [],P,n,n',h=>by
  have:n=n':=by simpa [uT] using h
  rw [this];rfl
 | q :: O, P, n, n', h => by
  cases e:Ba n q with
  | none=>simp [uT,e] at h
  | some m=>
   rw [nY e] at h;rw [aP,nY e];exact yE h
theorem aJt:∀(P:List AT) (n:ND),Sorted nA n.attrs->(P.Pairwise fun a b=>a.name≠b.name)->(∀p∈P,jJ nA n.attrs p.name=true)->
  ∃L,uT n (P.map fun p=> .da p.name)=some { n with attrs:=L } /\Sorted nA L/\∀q,q∈L↔q∈n.attrs/\∀p∈P,q.name≠p.name
 | [],n,h,_,_=>⟨n.attrs,rfl,h,fun q=>by simp⟩
 | p :: P, n, h, hd, hh => by
  obtain⟨d1,d2⟩:=kP.1 hd;obtain⟨L,e,s,m⟩:=aJt P { n with attrs:=lN nA n.attrs p.name } (tT nA h _) d2 fun q hq=>by
   obtain⟨x,x1,x2⟩:=mH.1 (hh q (lE _ hq));exact mH.2 ⟨x,Cx.2 ⟨x1,by rw [x2];exact(d1 q hq).symm⟩,x2⟩
  have hs:Ba n (.da p.name)=some { n with attrs:=lN nA n.attrs p.name } :=by
   show chN n 3 p.name _ _=_
   unfold chN;rw [aC (by decide),aC (by decide),aC (by decide),aI rfl,aI (hh p kO)]
  refine⟨L,?_,s,fun q=>?_⟩
  .rw [eZ,nY hs];exact e
  rw [m];show q∈lN nA n.attrs p.name/\_↔_
  rw [Cx];simp only [bU,zC];exact and_assoc
theorem aI4:∀(P:List AT) (n:ND),Sorted nA n.attrs->(P.Pairwise fun a b=>a.name≠b.name)->
  ∃L,uT n (P.map fun p=> .sa p.name p.value)=some { n with attrs:=L } /\Sorted nA L/\∀q,q∈L↔q∈P\/(q∈n.attrs/\∀p∈P,q.name≠p.name)
 | [],n,h,_=>⟨n.attrs,rfl,h,fun q=>by simp⟩
 | p :: P, n, h, hd => by
  obtain⟨d1,d2⟩:=kP.1 hd;obtain⟨L,e,s,m⟩:=aI4 P { n with attrs:=gS nA n.attrs p } (rP nA h _) d2;have hs:Ba n (.sa p.name p.value)=some { n with attrs:=gS nA n.attrs p } :=by
   show chN n 2 p.name p.value _=_
   unfold chN;rw [aC (by decide),aC (by decide),aI rfl]
  refine⟨L,?_,s,fun q=>?_⟩
  .rw [eZ,nY hs];exact e
  rw [m];show _\/(q∈gS nA n.attrs p/\_)↔_
  rw [Wf h];simp only [bU,zC];constructor
  .rintro(a | ⟨rfl | ⟨a,b⟩,c⟩)
   .exact .inl (.inr a)
   .exact .inl (.inl rfl)
   exact .inr ⟨a,b,c⟩
  rintro((rfl | a) | ⟨a,b,c⟩)
  .exact .inr ⟨.inl rfl,d1⟩
  .exact .inl a
  exact .inr ⟨.inr ⟨a,b⟩,c⟩
theorem aIe:∀(P:List PI) (n:ND),Sorted nP n.styles->(P.Pairwise fun a b=>a.name≠b.name)->(∀p∈P,jJ nP n.styles p.name=true)->
  ∃L,uT n (P.map fun p=> .ds p.name)=some { n with styles:=L } /\Sorted nP L/\∀q,q∈L↔q∈n.styles/\∀p∈P,q.name≠p.name
 | [],n,h,_,_=>⟨n.styles,rfl,h,fun q=>by simp⟩
 | p :: P, n, h, hd, hh => by
  obtain⟨d1,d2⟩:=kP.1 hd;obtain⟨L,e,s,m⟩:=aIe P { n with styles:=lN nP n.styles p.name } (tT nP h _) d2 fun q hq=>by
   obtain⟨x,x1,x2⟩:=mH.1 (hh q (lE _ hq));exact mH.2 ⟨x,Cx.2 ⟨x1,by rw [x2];exact(d1 q hq).symm⟩,x2⟩
  have hs:Ba n (.ds p.name)=some { n with styles:=lN nP n.styles p.name } :=by
   show chN n 5 p.name _ _=_
   unfold chN;rw [aC (by decide),aC (by decide),aC (by decide),aC (by decide),aC (by decide),aI rfl,aI (hh p kO)]
  refine⟨L,?_,s,fun q=>?_⟩
  .rw [eZ,nY hs];exact e
  rw [m];show q∈lN nP n.styles p.name/\_↔_
  rw [Cx];simp only [bU,zC];exact and_assoc
theorem aJz:∀(P:List PI) (n:ND),Sorted nP n.styles->(P.Pairwise fun a b=>a.name≠b.name)->(∀p∈P,Ny p.value=p.value)->
  ∃L,uT n (P.map fun p=> .ss p.name p.value)=some { n with styles:=L } /\Sorted nP L/\∀q,q∈L↔q∈P\/(q∈n.styles/\∀p∈P,q.name≠p.name)
 | [],n,h,_,_=>⟨n.styles,rfl,h,fun q=>by simp⟩
 | p :: P, n, h, hd, hv => by
  obtain⟨d1,d2⟩:=kP.1 hd;obtain⟨L,e,s,m⟩:=aJz P { n with styles:=gS nP n.styles p } (rP nP h _) d2 fun q hq=>hv q (lE _ hq);have hs:Ba n (.ss p.name p.value)=some { n with styles:=gS nP n.styles p } :=by
   show chN n 4 p.name _ p.value=_
   unfold chN;rw [aC (by decide),aC (by decide),aC (by decide),aC (by decide),aI rfl,hv p kO]
  refine⟨L,?_,s,fun q=>?_⟩
  .rw [eZ,nY hs];exact e
  rw [m];show _\/(q∈gS nP n.styles p/\_)↔_
  rw [Wf h];simp only [bU,zC];constructor
  .rintro(a | ⟨rfl | ⟨a,b⟩,c⟩)
   .exact .inl (.inr a)
   .exact .inl (.inl rfl)
   exact .inr ⟨a,b,c⟩
  rintro((rfl | a) | ⟨a,b,c⟩)
  .exact .inr ⟨.inl rfl,d1⟩
  .exact .inl a
  exact .inr ⟨.inr ⟨a,b⟩,c⟩
theorem Wi(l:Ls)(c:ByteArray):bG (kX l c)=kX (bG l) c:=by
 obtain⟨r,rfl⟩:∃r,l=List.reverse r:=⟨l.reverse,by simp⟩;induction r with
 | nil=>rfl
 | cons x r ih =>
  rw [Hl];generalize r.reverse=l at *;rw [wA,oM];by_cases e:x=c
  .rw [aI e,fZ,ih];unfold tQ;split
   .rfl
   rw [wA,aI e,fZ]
  rw [aC e,oM,ih];have hx:has x (kX (bG l) c)=has x (bG l):=by
   rw [iQ,jY,jY];unfold kX;rw [cY];simp [e]
  unfold tQ;rw [hx];split
  .rfl
  rw [wA,aC e]
def okS:Ls->List Stp->Prop
 | _, []=>True
 | Y,s::S=>(if s.drop=true then has s.name Y=true else ¬has s.name Y=true)/\okS (tI Y s) S
theorem aDf:∀ {S T:List Stp} {Y:Ls},okS Y S->okS (S.foldl tI Y) T->okS Y (S++T)
 | [],T,Y,_,h=>h
 | s::S,T,Y,⟨h1,h2⟩,h=>⟨h1,aDf h2 h⟩
theorem Wj:∀(N Y:Ls),N.Nodup->(∀c∈N,has c Y=true)->okS Y (N.map (Stp.mk true))
 | [],_,_,_=>trivial
 | c::N,Y,hn,h=>by
  obtain⟨n1,n2⟩:=iR.1 hn;refine⟨by rw [aI rfl];exact h c kO,Wj N _ n2 fun x hx=>?_⟩;show has x (kX Y c)=true
  rw [jY];unfold kX;rw [cY];refine⟨(jY _ _).1 (h x (lE _ hx)),?_⟩;have:¬x=c:=by rintro rfl;exact n1 hx
  simpa using this
theorem aC3:∀(N Y:Ls),(Y++N).Nodup->okS Y (N.map (Stp.mk false))
 | [],_,_=>trivial
 | c :: N, Y, hn => by
  have hc:¬has c Y=true:=by
   rw [jY];intro e;exact(mR.1 hn).2.2 c e c (by simp) rfl
  refine⟨by rw [aC (by simp)];exact hc,?_⟩;have hs:tI Y ⟨false,c⟩=Y++ [c]:=by
   simp only [tI,tQ,hc];simp
  rw [hs];exact aC3 N (Y++ [c]) (by simpa using hn)
theorem aIw(a b:Ls):okS (bG a) (jG a b):=by
 unfold jG Ic Aq;have h1:(bG a).filter (fun c=> !has c ((bG a).filter fun c=> !has c ((bG b).take (iE (bG b) (bG a)))))=(bG b).take (iE (bG b) (bG a)):=by
  refine Eq.trans (iA fun c hc=>?_) (Ll (Nc (bG b) (bG a)) (rG a));rw [iQ];simp only [lM,rA,ne_eq,jY,cY,not_and,He];exact⟨fun h=>h hc,fun h _=>h⟩
 refine aDf (Wj _ _ ((rG a).filter _) fun c hc=>(jY _ _).2 (cY.1 hc).1) ?_;rw [uF,h1];exact aC3 _ _ (by rw [fP];exact rG b)
theorem aOr:∀(S:List Stp) (n:ND),okS (bG n.classes) S->∃X,uT n (S.map cOp)=some { n with classes:=X } /\bG X=S.foldl tI (bG n.classes)
 | [],n,_=>⟨n.classes,rfl,rfl⟩
 | s :: S, n, ⟨h1, h2⟩ => by
  by_cases e:s.drop=true
  .rw [aI e,uU] at h1;have hs:Ba n (cOp s)=some { n with classes:=kX n.classes s.name } :=by
    unfold cOp;rw [aI e];show chN n 7 s.name _ _=_
    unfold chN;rw [aC (by decide),aC (by decide),aC (by decide),aC (by decide),aC (by decide),aC (by decide),aC (by decide),aI h1]
   have hc:tI (bG n.classes) s=bG (kX n.classes s.name):=by
    unfold tI;rw [aI e,Wi]
   obtain⟨X,e1,e2⟩:=aOr S { n with classes:=kX n.classes s.name } (by rw [hc] at h2;exact h2);refine⟨X,?_,by rw [e2,dV,hc]⟩;rw [eZ,nY hs];exact e1
  rw [aC e,uU] at h1;have hs:Ba n (cOp s)=some { n with classes:=n.classes++ [s.name] } :=by
   unfold cOp;rw [aC e];show chN n 6 s.name _ _=_
   unfold chN;rw [aC (by decide),aC (by decide),aC (by decide),aC (by decide),aC (by decide),aC (by decide),aI rfl,aC h1]
  have hc:tI (bG n.classes) s=bG (n.classes++ [s.name]):=by
   unfold tI;rw [aC e,oM]
  obtain⟨X,e1,e2⟩:=aOr S { n with classes:=n.classes++ [s.name] } (by rw [hc] at h2;exact h2);refine⟨X,?_,by rw [e2,dV,hc]⟩;rw [eZ,nY hs];exact e1
def iP(n:ND)(o:OW):List DO_:=(jG n.classes o.classes).map cOp++(jF nA zD n.attrs o.attrs).map aOp++(jF nP Ao n.styles o.styles).map sOp
structure OwOk(o:OW):Prop where
 sa:Sorted nA o.attrs
 ss:Sorted nP o.styles
 sv:∀p∈o.styles,Ny p.value=p.value
structure Has(n:ND)(o:OW):Prop where
 cl:bG n.classes=bG o.classes
 at_:∀p,p∈n.attrs↔p∈o.attrs
 st:∀p,p∈n.styles↔p∈o.styles
section
variable {α β:Type} [DecidableEq α] {nm:α->ByteArray}
theorem tH {A B:List α} (hA:Sorted nm A)(hB:Sorted nm B)(mk:Bool->α->β):jF nm mk A B=(A.filter fun p=> !jJ nm B (nm p)).map (mk true)++(B.filter fun p=> !decide (p∈A)).map (mk false):=by
 unfold jF vP tP;rw [rT nm hA,rT nm hB];congr 2
 .exact iA fun p _=>by rw [Iz nm hB]
 exact iA fun p _=>by
  congr 1;rw [iQ,aG0 hA,eO]
theorem Vl {A B L M:List α} (hA:Sorted nm A)(hB:Sorted nm B)(h1:∀q,q∈L↔q∈A/\∀p∈A.filter (fun p=> !jJ nm B (nm p)),nm q≠nm p)(h2:∀q,q∈M↔q∈B.filter (fun p=> !decide (p∈A))\/(q∈L/\∀p∈B.filter (fun p=> !decide (p∈A)),nm q≠nm p)):∀q,q∈M↔q∈B:=fun q=>by
 rw [h2,h1];simp only [cY,lM,Qd];constructor
 .rintro(⟨a, -⟩ | ⟨⟨a,b⟩,c⟩)
  .exact a
  cases e:jJ nm B (nm q)with
  | false=>exact absurd rfl (b q ⟨a,e⟩)
  | true=>
   obtain⟨p,p1,p2⟩:=mH.1 e;by_cases hp:p∈A
   .rw [<- hA.uniq hp a p2];exact p1
   exact absurd p2.symm (c p ⟨p1,hp⟩)
 intro hq;by_cases a:q∈A
 .refine .inr ⟨⟨a,fun p hp e=>?_⟩,fun p hp e=>?_⟩
  .have:jJ nm B (nm p)=true:=mH.2 ⟨q,hq,e⟩;rw [hp.2] at this;cases this
  exact hp.2 (hB.uniq hp.1 hq e.symm ▸ a)
 exact .inl ⟨hq,a⟩
theorem Ya {A B:List α} (hA:Sorted nm A)(hB:Sorted nm B)(mk:Bool->α->β)(h:∀q,q∈A↔q∈B):jF nm mk A B= []:=by
 rw [tH hA hB];have e1:(A.filter fun p=> !jJ nm B (nm p))= []:=mQ.2 fun p hp=>by simp [mH.2 ⟨p,(h p).1 hp,rfl⟩]
 have e2:(B.filter fun p=> !decide (p∈A))= []:=mQ.2 fun p hp=>by simp [(h p).2 hp]
 rw [e1,e2];rfl
end
theorem Yo {a b:Ls} (h:bG a=bG b):jG a b= []:=by
 unfold jG Ic Aq;rw [h];have hk:iE (bG b) (bG b)=(bG b).length:=by
  have h1:=yK (bG b) (bG b);have:=@aCp (bG b) (bG b) (bG b).length (aV _) (by rw [eH];exact yQ.2 (zH _)) fun m h1 h2=>by omega
  exact this.symm
 rw [hk,eH,List.drop_length];have:(bG b).filter (fun c=> !has c (bG b))= []:=mQ.2 fun c hc=>by simp [(jY _ _).2 hc]
 rw [this];rfl
theorem aHl (ho:OwOk o)(ha:Sorted nA n.attrs)(hs:Sorted nP n.styles):∃n',uT n (iP n o)=some n'/\n'.ID=n.ID/\n'.kind=n.kind/\Sorted nA n'.attrs/\Sorted nP n'.styles/\Has n' o:=by
 obtain⟨X,x1,x2⟩:=aOr (jG n.classes o.classes) n (aIw _ _);have hx:bG X=bG o.classes:=by rw [x2];exact Yu _ _
 obtain⟨L,l1,l2,l3⟩:=aJt (n.attrs.filter fun p=> !jJ nA o.attrs p.name) { n with classes:=X } ha (ha.ne.filter _) fun p hp=>mH.2 ⟨p,(cY.1 hp).1,rfl⟩;obtain⟨M,m1,m2,m3⟩:=aI4 (o.attrs.filter fun p=> !decide (p∈n.attrs)) { n with classes:=X,attrs:=L } l2 (ho.sa.ne.filter _);obtain⟨P,p1,p2,p3⟩:=aIe (n.styles.filter fun p=> !jJ nP o.styles p.name) { n with classes:=X,attrs:=M } hs (hs.ne.filter _) fun p hp=>mH.2 ⟨p,(cY.1 hp).1,rfl⟩;obtain⟨Q,q1,q2,q3⟩:=aJz (o.styles.filter fun p=> !decide (p∈n.styles)) { n with classes:=X,attrs:=M,styles:=P } p2 (ho.ss.ne.filter _) fun p hp=>ho.sv p (cY.1 hp).1;have ea:(jF nA zD n.attrs o.attrs).map aOp=((n.attrs.filter fun p=> !jJ nA o.attrs p.name).map fun p=>DO_.da p.name)++((o.attrs.filter fun p=> !decide (p∈n.attrs)).map fun p=>DO_.sa p.name p.value):=by
  rw [tH ha ho.sa,dK,iC,iC];rfl
 have es:(jF nP Ao n.styles o.styles).map sOp=((n.styles.filter fun p=> !jJ nP o.styles p.name).map fun p=>DO_.ds p.name)++((o.styles.filter fun p=> !decide (p∈n.styles)).map fun p=>DO_.ss p.name p.value):=by
  rw [tH hs ho.ss,dK,iC,iC];rfl
 refine⟨{ n with classes:=X,attrs:=M,styles:=Q },?_,rfl,rfl,m2,q2,hx,Vl ha ho.sa l3 m3,Vl hs ho.ss p3 q3⟩;unfold iP;rw [ea,es,bM,yE x1,bM,yE l1,yE m1,yE p1,q1]
theorem Uv (ho:OwOk o)(ha:Sorted nA n.attrs)(hs:Sorted nP n.styles)(h:Has n o):iP n o= []:=by
 unfold iP;rw [Yo h.cl,Ya ha ho.sa zD h.at_,Ya hs ho.ss Ao h.st];rfl
theorem aFu (ho:OwOk o)(ha:Sorted nA n.attrs)(hs:Sorted nP n.styles)(i:Int):aQm i n o=(iP n o).map fun q=>q.top i:=by
 unfold aQm iP cTs aDs aSs sTs;rw [eH,eH,eH,eH,tH ha ho.sa,tH hs ho.ss];have e1:wI n.styles o.styles=(n.styles.filter fun p=> !jJ nP o.styles p.name).map (Ao true)++(o.styles.filter fun p=> !decide (p∈n.styles)).map (Ao false):=by
  unfold wI Ec Ik;rw [eH,eH,rT nP hs,rT nP ho.ss];congr 2;exact iA fun p _=>by
   congr 1;rw [iQ,aEe hs,eO]
 have e2:(o.attrs.filter fun p=> !Bb n.attrs p)=o.attrs.filter fun p=> !decide (p∈n.attrs):=iA fun p _=>by
  congr 1;rw [iQ,aE1 ha,eO]
 rw [e1,e2];simp only [dK,iC,bM];rfl
theorem Fv {l:Ls} :c∈bG l↔c∈l:=by rw [<- jY,<- jY,uU]
theorem aI8 (ho:OwOk o)(ha:Sorted nA n.attrs)(hs:Sorted nP n.styles)(hn:NmOk n)(hno:∀s∈iO o,fF s=true)(hv:∀p∈o.attrs,p.value.size<=1000):∀q∈iP n o,fF q.name=true/\q.value.size<=1000:=by
 intro q hq;have e0:(⟨#[]⟩:ByteArray).size<=1000:=by decide
 have m1:∀c∈o.classes,fF c=true:=fun c hc=>hno c (by unfold iO;simp [hc]);have m2:∀p∈o.attrs,fF p.name=true:=fun p hp=>hno p.name (by unfold iO;rw [cK,cK];exact .inl (.inr (List.mem_map_of_mem hp)));have m3:∀p∈o.styles,fF p.name=true:=fun p hp=>hno p.name (by unfold iO;rw [cK,cK];exact .inr (List.mem_map_of_mem hp));unfold iP at hq;rw [tH ha ho.sa,tH hs ho.ss] at hq;simp only [dK,iC,cK] at hq;rcases hq with (hq | hq | hq) | hq | hq
 .obtain⟨s,hs,rfl⟩:=aX.1 hq;have hn:fF s.name=true:=by
   unfold jG Ic Aq at hs;rcases cK.1 hs with hs | hs
   .obtain⟨c,hc,rfl⟩:=aX.1 hs;exact hn.cl c (Fv.1 (cY.1 hc).1)
   obtain⟨c,hc,rfl⟩:=aX.1 hs;exact m1 c (Fv.1 (yT hc))
  unfold cOp;split <;> exact⟨hn,e0⟩
 .obtain⟨p,hp,rfl⟩:=aX.1 hq;exact⟨hn.at_ p (cY.1 hp).1,e0⟩
 .obtain⟨p,hp,rfl⟩:=aX.1 hq;exact⟨m2 p (cY.1 hp).1,hv p (cY.1 hp).1⟩
 .obtain⟨p,hp,rfl⟩:=aX.1 hq;exact⟨hn.st p (cY.1 hp).1,e0⟩
 obtain⟨p,hp,rfl⟩:=aX.1 hq;exact⟨m3 p (cY.1 hp).1,e0⟩
theorem aHm {s:ByteArray} (h:fF s=true):s.size<=16:=by
 unfold fF Do at h;simp only [fQ,eO] at h;exact h.1.1.2
theorem DO_.kind_ge(q:DO_):8<=q.kind:=by cases q <;> simp [DO_.kind]
theorem aUx {m:ND} {kind:Int} {num:Int} (e:chN n kind name v num=some m):m.ID=n.ID/\m.kind=n.kind:=by
 unfold chN at e
 (repeat' split at e) <;> first | (cases e;exact⟨rfl,rfl⟩) | cases e
theorem aB4 {i:Int} (h0:¬i=0):∀(O:List DO_) (x:Nat->RD) (c:Nat->Int) (n':ND),((x 0).l.map ND.ID).Nodup->eN (x 0).l i=true->(aG (x 0).l i).kind=2->(∀j (h:j<O.length),setX (x j) (O[j].kind - 6) i O[j].name O[j].value O[j].num=(x (j+1),c j))->(∀q∈O,fF q.name=true)->uT (aG (x 0).l i) O=some n'->
  (∀j,j<O.length->c j=0)/\eN (x O.length).l i=true/\aG (x O.length).l i=n'
 | [],x,c,n',hnd,h1,h2,hs,hn,hr=>⟨fun j h=>absurd h (by simp),h1,by simpa [uT] using hr⟩
 | q :: O, x, c, n', hnd, h1, h2, hs, hn, hr => by
  cases e:Ba (aG (x 0).l i) q with
  | none=>simp [uT,e] at hr
  | some m =>
   rw [nY e] at hr;obtain⟨id1,id2⟩:=aUx e;have hk:=q.kind_ge;have hx:=rD (x:=x 0) (kind:=q.kind - 6) (id:=i) h1 h0 (by rw [h2];constructor <;> intro h <;> omega) (.inr (hn q kO)) e;have hx0:setX (x 0) (q.kind - 6) i q.name q.value q.num=(x 1,c 0):=hs 0 (by simp);rw [hx] at hx0;obtain⟨y1,y2⟩:=gN .. ▸ hx0;obtain⟨n,n1,n2,n3⟩:=fE h1;have hp:=qE hnd (p:=n) (p':=m) n1 (by rw [id1,n3]) i;rw [aI n2.symm] at hp;have l1:(x 1).l=fI (x 0).l m:=by rw [<- y1]
   obtain⟨r1,r2,r3⟩:=aB4 h0 O (fun j=>x (j+1)) (fun j=>c (j+1)) n' (by show((x 1).l.map ND.ID).Nodup;rw [l1,nN];exact hnd) (by show eN (x 1).l i=true;rw [l1,yZ];exact h1) (by show(aG (x 1).l i).kind=2;rw [l1,hp,id2];exact h2)
    (fun j h=>hs (j+1) (by simpa using h)) (fun q hq=>hn q (lE _ hq)) (by show uT (aG (x 1).l i) O=_;rw [l1,hp];exact hr)
   refine⟨fun j hj=>?_,r2,r3⟩;cases j with
   | zero=>exact y2.symm
   | succ j=>exact r1 j (by simpa using hj)
end Go.Proofs.YtbgfljpnhhdkoaaGreat
