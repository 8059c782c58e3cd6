import Derived.Test.YtbgfljpnhhdkoaaGreatWkDr3
set_option linter.all false
set_option maxHeartbeats 8000000
set_option maxRecDepth 20000
open Go.Proofs.Tryz
namespace Go.Proofs.YtbgfljpnhhdkoaaGreat
open Go Go.Vm
inductive DO_ where
 | sa (n v:ByteArray)
 | da (n:ByteArray)
 | ss (n:ByteArray) (v:Int)
 | ds (n:ByteArray)
 | ac (n:ByteArray)
 | dc (n:ByteArray)
namespace DO_
def kind:DO_->Int
 | sa .. =>8 | da .. =>9 | ss .. =>10 | ds .. =>11 | ac .. =>12 | dc .. =>13
def name:DO_->ByteArray
 | sa n _=>n | da n=>n | ss n _=>n | ds n=>n | ac n=>n | dc n=>n
def value:DO_->ByteArray
 | sa _ v=>v | _=>⟨#[]⟩
def num:DO_->Int
 | ss _ v=>v | _=>0
def top(i:Int)(q:DO_):TOp:=⟨q.kind,i,0,q.num,q.name,q.value⟩
def lf:DO_->FuncId
 | sa .. =>120 | da .. =>122 | ss .. =>126 | ds .. =>128 | ac .. =>116 | dc .. =>115
def la(i:Int):DO_->List D
 | sa n v=> [D.int i,D.str n,D.str v] | da n=> [D.int i,D.str n] | ss n v=> [D.int i,D.str n,D.int v] | ds n=> [D.int i,D.str n] | ac n=> [D.int i,D.str n] | dc n=> [D.int i,D.str n]
def ok(q:DO_):Prop:=q.name.size<=1000/\q.value.size<=1000
end DO_
variable {k m M l:Nat} {d d':DS} {rk rk':Int->Nat} {σ σ2:List (List D)} {x y:RD} {ops:List TOp}
def aV5(m M l:Nat)(i:Int)(q:DO_)(k:Nat)(d:DS)(rk:Int->Nat)(x:RD)(ops:List TOp)(σ:List (List D))(d':DS)(rk':Int->Nat)(y:RD)(c:Int)(σ':List (List D)):Prop:=
 Ct prog q.lf (.ref l 0::q.la i) σ (fun r τ=>r=D.int c/\τ=σ')/\LX (k+1) m M l d' rk' y (nto ops c (q.top i)) σ'/\setX x (q.kind - 6) i q.name q.value q.num=(y,c)/\
  (∀τ,Ct prog 161 [jQ x,uE (q.top i)] τ (fun r τ'=>r= .tup [jQ y,D.int c]/\τ'=τ))/\Oth m (· =l) d d' σ σ'
theorem aXh(h:LX k m M l d rk x ops σ)(hk:k<=800)(i:Int)(q:DO_)(hq:q.ok):∃d' rk' y c σ',aV5 m M l i q k d rk x ops σ d' rk' y c σ':=by
 have hh:=h;obtain⟨⟨hi,hx⟩,hoff,hat,hlen⟩:=h;have hl:ops.length<=100000:=by omega
 have e0:(⟨#[]⟩:ByteArray).size<=1000:=by decide
 obtain⟨hs,hv⟩:=hq;cases q with
 | sa n v=>
  obtain⟨d',rk',σ',hc,hi',e,fr⟩:=aQx k m M d rk σ i n v 0 hi hk hs;obtain⟨p1,p2⟩:=hx.setX 2 i n v 0;obtain⟨o2,st⟩:=hh.step ⟨hi',by rw [e];exact p2⟩ fr;obtain⟨r1,r2⟩:=yO ⟨hi,hx⟩ hk ⟨8,i,0,0,n,v⟩ hs hv _ 0 _ (fun q _=>by simp at q) (fun q _=>by simp at q) (fun q _=>by simp at q) (fun q=>by simp at q) (fun q=>by simp at q) (fun q=>by simp at q) (fun q=>by simp at q) (fun _ _=>oI p1);exact⟨d',rk',_,_,_,Uf l m ops i n v _ σ' σ hat hc o2 hl,st _ _,oI p1,r2,fr.othN l ops _ _⟩
 | da n=>
  obtain⟨d',rk',σ',hc,hi',e,fr⟩:=aJy k m M d rk σ i n ⟨#[]⟩ 0 hi hk hs;obtain⟨p1,p2⟩:=hx.setX 3 i n ⟨#[]⟩ 0;obtain⟨o2,st⟩:=hh.step ⟨hi',by rw [e];exact p2⟩ fr;obtain⟨r1,r2⟩:=yO ⟨hi,hx⟩ hk ⟨9,i,0,0,n,⟨#[]⟩⟩ hs e0 _ 0 _ (fun q _=>by simp at q) (fun q _=>by simp at q) (fun q _=>by simp at q) (fun q=>by simp at q) (fun q=>by simp at q) (fun q=>by simp at q) (fun q=>by simp at q) (fun _ _=>oI p1);exact⟨d',rk',_,_,_,Rg l m ops i n _ σ' σ hat hc o2 hl,st _ _,oI p1,r2,fr.othN l ops _ _⟩
 | ss n v=>
  obtain⟨d',rk',σ',hc,hi',e,fr⟩:=aQr k m M d rk σ i n ⟨#[]⟩ v hi hk hs;obtain⟨p1,p2⟩:=hx.setX 4 i n ⟨#[]⟩ v;obtain⟨o2,st⟩:=hh.step ⟨hi',by rw [e];exact p2⟩ fr;obtain⟨r1,r2⟩:=yO ⟨hi,hx⟩ hk ⟨10,i,0,v,n,⟨#[]⟩⟩ hs e0 _ 0 _ (fun q _=>by simp at q) (fun q _=>by simp at q) (fun q _=>by simp at q) (fun q=>by simp at q) (fun q=>by simp at q) (fun q=>by simp at q) (fun q=>by simp at q) (fun _ _=>oI p1);exact⟨d',rk',_,_,_,Rx l m ops i n v _ σ' σ hat hc o2 hl,st _ _,oI p1,r2,fr.othN l ops _ _⟩
 | ds n=>
  obtain⟨d',rk',σ',hc,hi',e,fr⟩:=aN8 k m M d rk σ i n ⟨#[]⟩ 0 hi hk hs;obtain⟨p1,p2⟩:=hx.setX 5 i n ⟨#[]⟩ 0;obtain⟨o2,st⟩:=hh.step ⟨hi',by rw [e];exact p2⟩ fr;obtain⟨r1,r2⟩:=yO ⟨hi,hx⟩ hk ⟨11,i,0,0,n,⟨#[]⟩⟩ hs e0 _ 0 _ (fun q _=>by simp at q) (fun q _=>by simp at q) (fun q _=>by simp at q) (fun q=>by simp at q) (fun q=>by simp at q) (fun q=>by simp at q) (fun q=>by simp at q) (fun _ _=>oI p1);exact⟨d',rk',_,_,_,Na l m ops i n _ σ' σ hat hc o2 hl,st _ _,oI p1,r2,fr.othN l ops _ _⟩
 | ac n=>
  obtain⟨d',rk',σ',hc,hi',e,fr⟩:=aK7 k m M d rk σ i n ⟨#[]⟩ 0 hi hk hs;obtain⟨p1,p2⟩:=hx.setX 6 i n ⟨#[]⟩ 0;obtain⟨o2,st⟩:=hh.step ⟨hi',by rw [e];exact p2⟩ fr;obtain⟨r1,r2⟩:=yO ⟨hi,hx⟩ hk ⟨12,i,0,0,n,⟨#[]⟩⟩ hs e0 _ 0 _ (fun q _=>by simp at q) (fun q _=>by simp at q) (fun q _=>by simp at q) (fun q=>by simp at q) (fun q=>by simp at q) (fun q=>by simp at q) (fun q=>by simp at q) (fun _ _=>oI p1);exact⟨d',rk',_,_,_,Rs l m ops i n _ σ' σ hat hc o2 hl,st _ _,oI p1,r2,fr.othN l ops _ _⟩
 | dc n=>
  obtain⟨d',rk',σ',hc,hi',e,fr⟩:=aL7 k m M d rk σ i n ⟨#[]⟩ 0 7 (by decide) hi hk hs;obtain⟨p1,p2⟩:=hx.setX 7 i n ⟨#[]⟩ 0;obtain⟨o2,st⟩:=hh.step ⟨hi',by rw [e];exact p2⟩ fr;obtain⟨r1,r2⟩:=yO ⟨hi,hx⟩ hk ⟨13,i,0,0,n,⟨#[]⟩⟩ hs e0 _ 0 _ (fun q _=>by simp at q) (fun q _=>by simp at q) (fun q _=>by simp at q) (fun q=>by simp at q) (fun q=>by simp at q) (fun q=>by simp at q) (fun q=>by simp at q) (fun _ _=>oI p1);exact⟨d',rk',_,_,_,Ms l m ops i n _ σ' σ hat hc o2 hl,st _ _,oI p1,r2,fr.othN l ops _ _⟩
structure DSt where
 d:DS
 rk:Int->Nat
 x:RD
 ops:List TOp
 σ:List (List D)
theorem aBm {m M l:Nat} {i:Int} :∀(O:List DO_) (k:Nat) (s:DSt),LX k m M l s.d s.rk s.x s.ops s.σ->k+O.length<=790->(∀q∈O,q.ok)->
  ∃ st : Nat -> DSt, ∃ cs : Nat -> Int, st 0 = s /\ (∀ j, j <= O.length -> LX (k + j) m M l (st j).d (st j).rk (st j).x (st j).ops (st j).σ /\ Oth m (· = l) s.d (st j).d s.σ (st j).σ) /\
   ∀j (h:j<O.length),Ct prog O[j].lf (.ref l 0::O[j].la i) (st j).σ (fun r τ=>r=D.int (cs j)/\τ=(st (j+1)).σ)/\(st (j+1)).ops=nto (st j).ops (cs j) (O[j].top i)/\setX (st j).x (O[j].kind - 6) i O[j].name O[j].value O[j].num=((st (j+1)).x,cs j)/\
    (∀τ,Ct prog 161 [jQ (st j).x,uE (O[j].top i)] τ (fun r τ'=>r= .tup [jQ (st (j+1)).x,D.int (cs j)]/\τ'=τ))
 | [],k,s,h,hk,_=>by
  refine⟨fun _=>s,fun _=>0,rfl,fun j hj=>?_,fun j h=>absurd h (by simp)⟩;have e:j=0:=by simpa using hj
  subst e;exact⟨h,Oth.refl _ _ _ _⟩
 | q :: O, k, s, h, hk, hq => by
  simp only [bJ] at hk;obtain⟨d',rk',y,c,σ',h1,h2,h3,h4,h5⟩:=aXh h (by omega) i q (hq q dH);obtain⟨st,cs,e0,e1,e2⟩:=aBm (i:=i) O (k+1) ⟨d',rk',y,nto s.ops c (q.top i),σ'⟩ h2 (by omega) fun q' hq'=>hq q' (eV _ hq');refine⟨fun j=>match j with | 0=>s | j+1=>st j,fun j=>match j with | 0=>c | j+1=>cs j,rfl,fun j hj=>?_,fun j hj=>?_⟩
  .match j with
   | 0=>exact⟨h,Oth.refl _ _ _ _⟩
   | j+1=>
    obtain⟨a,b⟩:=e1 j (by simpa using hj);refine⟨by rw [show k+(j+1)=k+1+j by omega];exact a,h5.trans b⟩
  match j with
  | 0=>
   show Ct _ q.lf (.ref l 0::q.la i) s.σ (fun r τ=>r=D.int c/\τ=(st 0).σ)/\(st 0).ops=nto s.ops c (q.top i)/\setX s.x (q.kind - 6) i q.name q.value q.num=((st 0).x,c)/\(∀τ,Ct _ _ [jQ s.x,uE (q.top i)] τ (fun r τ'=>r= .tup [jQ (st 0).x,D.int c]/\τ'=τ))
   rw [e0];exact⟨h1,rfl,h3,h4⟩
  | j+1=>exact e2 j (by simpa using hj)
theorem aG1(l:Nat)(i:Int)(s:SA)(c:Int)(σ2:List (List D))(σ:List (List D))(hc:Ct prog 120 [.ref l 0,D.int i,D.str s.name,D.str s.value] σ (fun r τ=>r=D.int c/\τ=σ2)):Ct prog 119 [Ti s,.adr [.ref l 0],.adr [D.int i]] σ (fun r σ'=>r= .tup []/\σ'=σ2):=by
 refine zf func119 ?_;refine bB fun _ _ Z=>?_;simp;apply Z;refine pF fun _ _ Z=>?_;refine zs 6 fun _ Y=>?_;simp;apply Y;refine aF fun _ Y=>?_;simp;refine cT (hc) ?_;apply Y;simp only [eJ];apply Z;simp [aH]
theorem aEb(l:Nat)(i:Int)(s:ByteArray)(c:Int)(σ2:List (List D))(σ:List (List D))(hc:Ct prog 122 [.ref l 0,D.int i,D.str s] σ (fun r τ=>r=D.int c/\τ=σ2)):Ct prog 121 [D.str s,.adr [.ref l 0],.adr [D.int i]] σ (fun r σ'=>r= .tup []/\σ'=σ2):=by
 refine zf func121 ?_;refine pF fun _ _ Z=>?_;refine zs 3 fun _ Y=>?_;simp;apply Y;refine aF fun _ Y=>?_;simp;refine cT (hc) ?_;apply Y;simp only [eJ];apply Z;simp [aH]
theorem aGk(l:Nat)(i:Int)(s:SI)(c:Int)(σ2:List (List D))(σ:List (List D))(hc:Ct prog 126 [.ref l 0,D.int i,D.str s.name,D.int s.value] σ (fun r τ=>r=D.int c/\τ=σ2)):Ct prog 125 [Qz s,.adr [.ref l 0],.adr [D.int i]] σ (fun r σ'=>r= .tup []/\σ'=σ2):=by
 refine zf func125 ?_;refine bB fun _ _ Z=>?_;simp;apply Z;refine pF fun _ _ Z=>?_;refine zs 6 fun _ Y=>?_;simp;apply Y;refine aF fun _ Y=>?_;simp;refine cT (hc) ?_;apply Y;simp only [eJ];apply Z;simp [aH]
theorem aD2(l:Nat)(i:Int)(s:ByteArray)(c:Int)(σ2:List (List D))(σ:List (List D))(hc:Ct prog 128 [.ref l 0,D.int i,D.str s] σ (fun r τ=>r=D.int c/\τ=σ2)):Ct prog 127 [D.str s,.adr [.ref l 0],.adr [D.int i]] σ (fun r σ'=>r= .tup []/\σ'=σ2):=by
 refine zf func127 ?_;refine pF fun _ _ Z=>?_;refine zs 3 fun _ Y=>?_;simp;apply Y;refine aF fun _ Y=>?_;simp;refine cT (hc) ?_;apply Y;simp only [eJ];apply Z;simp [aH]
theorem yP {α β:Type} [DecidableEq α](nm:α->ByteArray)(mk:Bool->α->β)(a b:List α):(jJ nm mk a b).length<=a.length+b.length:=by
 unfold jJ;have h1:=xE nm mk (iC nm a) (iC nm b);have h2:=Lm nm mk (iC nm a) (iC nm b);have h3:=iI nm a;have h4:=iI nm b;rw [aZ];omega
def cOp(s:Stp):DO_:=if s.drop=true then .dc s.name else .ac s.name
def aOp(s:SA):DO_:=if s.drop=true then .da s.name else .sa s.name s.value
def sOp(s:SI):DO_:=if s.drop=true then .ds s.name else .ss s.name s.value
abbrev Pz(l:Nat)(i:Int):List D:= [.adr [.ref l 0],.adr [D.int i]]
theorem aWx(l:Nat)(i:Int)(A:List SA)(n:Nat)(st:Nat->List (List D))(cs:Nat->Int)(hl:A.length<=99999)(h:∀j (h:j<A.length),Ct prog (aOp A[j]).lf (.ref l 0::(aOp A[j]).la i) (st (n+j)) (fun r τ=>r=D.int (cs (n+j))/\τ=st (n+(j+1)))):
  Ct prog 117 [.sl false (A.map Ti),.clo (.func 119) [] (Pz l i),.clo (.func 121) [] (Pz l i)] (st n) (fun r τ=>r= .tup []/\τ=st (n+A.length)):=
 aH3 A 119 121 (Pz l i) (fun j=>st (n+j)) hl (by simp [D.plain]) (by simp [D.strip,D.s2,D.s1]) fun j hj=>by
  have hq:=h j hj;unfold aOp at hq;refine⟨fun e=>?_,fun e=>?_⟩
  .rw [aK e] at hq;exact aEb l i A[j].name _ _ _ hq
  rw [aD (by rw [e];simp)] at hq;exact aG1 l i A[j] _ _ _ hq
theorem aWw(l:Nat)(i:Int)(A:List SI)(n:Nat)(st:Nat->List (List D))(cs:Nat->Int)(hl:A.length<=99999)(h:∀j (h:j<A.length),Ct prog (sOp A[j]).lf (.ref l 0::(sOp A[j]).la i) (st (n+j)) (fun r τ=>r=D.int (cs (n+j))/\τ=st (n+(j+1)))):
  Ct prog 123 [.sl false (A.map Qz),.clo (.func 125) [] (Pz l i),.clo (.func 127) [] (Pz l i)] (st n) (fun r τ=>r= .tup []/\τ=st (n+A.length)):=
 aNj A 125 127 (Pz l i) (fun j=>st (n+j)) hl (by simp [D.plain]) (by simp [D.strip,D.s2,D.s1]) fun j hj=>by
  have hq:=h j hj;unfold sOp at hq;refine⟨fun e=>?_,fun e=>?_⟩
  .rw [aK e] at hq;exact aD2 l i A[j].name _ _ _ hq
  rw [aD (by rw [e];simp)] at hq;exact aGk l i A[j] _ _ _ hq
theorem Vo(a b:Ls):(jT a b).length<=(bU a).length+(bU b).length:=by
 unfold jT Pp;have:=Kn (bU b) (kB (bU b) (bU a)) (bU a);simp only [aZ,bQ,dI];omega
theorem aD7(k m M l:Nat)(d:DS)(rk:Int->Nat)(x:RD)(ops:List TOp)(i:Int)(o:OW)(st:Nat->List (List D))(cs:Nat->Int)(σ:List (List D))(h:LX k m M l d rk x ops σ)(hk:k<=800)(h1:o.classes.length<=9999)(h2:o.attrs.length<=9999)(h3:o.styles.length<=9999)(hs:∀s∈fK o,s.size<=9223372036854775807)(he:Tg (aJ d.l i) (fP d.l i) o=0)(h0:st 0=σ)(hC:(∀j (hj:j<(jT (aJ d.l i).classes o.classes).length),Ct prog (cOp (jT (aJ d.l i).classes o.classes)[j]).lf (.ref l 0::(cOp (jT (aJ d.l i).classes o.classes)[j]).la i) (st (j)) (fun r τ=>r=D.int (cs (j))/\τ=st (j+1))))(hA:(∀j (hj:j<(jJ nA Aj (aJ d.l i).attrs o.attrs).length),Ct prog (aOp (jJ nA Aj (aJ d.l i).attrs o.attrs)[j]).lf (.ref l 0::(aOp (jJ nA Aj (aJ d.l i).attrs o.attrs)[j]).la i) (st ((jT (aJ d.l i).classes o.classes).length+j)) (fun r τ=>r=D.int (cs ((jT (aJ d.l i).classes o.classes).length+j))/\τ=st ((jT (aJ d.l i).classes o.classes).length+(j+1)))))(hS:(∀j (hj:j<(jJ nP Dm (aJ d.l i).styles o.styles).length),Ct prog (sOp (jJ nP Dm (aJ d.l i).styles o.styles)[j]).lf (.ref l 0::(sOp (jJ nP Dm (aJ d.l i).styles o.styles)[j]).la i) (st ((jT (aJ d.l i).classes o.classes).length+(jJ nA Aj (aJ d.l i).attrs o.attrs).length+j)) (fun r τ=>r=D.int (cs ((jT (aJ d.l i).classes o.classes).length+(jJ nA Aj (aJ d.l i).attrs o.attrs).length+j))/\τ=st ((jT (aJ d.l i).classes o.classes).length+(jJ nA Aj (aJ d.l i).attrs o.attrs).length+(j+1))))):Ct prog 55 [.ref l 0,D.int i,Ey o] σ (fun r σ'=>r=D.int 0/\σ'=st ((jT (aJ d.l i).classes o.classes).length+(jJ nA Aj (aJ d.l i).attrs o.attrs).length+(jJ nP Dm (aJ d.l i).styles o.styles).length)):=by
 refine zf func55 ?_;subst h0;have hg:=h.at_;have hnb:=h.ix.iv.ip.NB (by omega);have hfa:=hnb.fa i;have hfs:=hnb.fs i;have hfc:=hnb.fc i;have hcl1:=nL (aJ d.l i).classes;have hcl2:=nL o.classes;have htl:=Vo (aJ d.l i).classes o.classes;have hal:=yP nA Aj (aJ d.l i).attrs o.attrs;have hsl:=yP nP Dm (aJ d.l i).styles o.styles;obtain⟨C,hCe⟩:∃C,jT (aJ d.l i).classes o.classes=C:=⟨_,rfl⟩;obtain⟨A,hAe⟩:∃A,jJ nA Aj (aJ d.l i).attrs o.attrs=A:=⟨_,rfl⟩;obtain⟨S,hSe⟩:∃S,jJ nP Dm (aJ d.l i).styles o.styles=S:=⟨_,rfl⟩;simp only [hCe,hAe,hSe] at hC hA hS htl hal hsl;refine zr ⟨[],[3,4],[],[],[]⟩ fun _ _ Z=>?_;simp(disch:=omega)[he,hg,hCe,hAe,hSe];apply Z;refine zk [3,4,5,6] ?_;refine zd ⟨[],[3,4],[],[],[]⟩ [.op {},.op {},.op {},.op {rO:=true},.op {},.read,.op {},.op {},.op {},.op {rL:=true,wL:=true},.op {rL:=true,wL:=true},.op {}] fun all hall _ Z=>?_;refine kF 5 fun _ Y=>?_;simp(disch:=omega)[he,hg,hCe,hAe,hSe];apply Y;refine bY fun _ Y=>?_;simp(disch:=omega)[he,hg,hCe,hAe,hSe];refine zdr (aJb m M d i _ h.ix.iv.ho hnb) ?_;apply Y;simp(disch:=omega)[he,hg,hCe,hAe,hSe];apply Z;apply aE;refine zk [3,4,5,6,7,8] ?_;refine zr ⟨[],[3,4],[],[],[]⟩ fun _ _ Z=>?_;refine zs 3 fun _ Y=>?_;simp(disch:=omega)[he,hg,hCe,hAe,hSe];apply Y;refine aF fun _ Y=>?_;simp(disch:=omega)[he,hg,hCe,hAe,hSe];refine cT (aU6 (aJ d.l i) (fP d.l i) o _ h1 h2 h3 hs) ?_;apply Y;simp(disch:=omega)[he,hg,hCe,hAe,hSe];apply Z;refine zr ⟨[],[3,4],[],[],[]⟩ fun _ _ Z=>?_;simp(disch:=omega)[he,hg,hCe,hAe,hSe];apply Z;refine zI ?_ ?_<;>intro c1<;>try simp at c1
 apply zA;apply aE;refine zk [3,4,5,6,7] ?_;refine zr ⟨[],[3,4],[],[],[]⟩ fun _ _ Z=>?_;refine zs 4 fun _ Y=>?_;simp(disch:=omega)[he,hg,hCe,hAe,hSe];apply Y;refine aF fun _ Y=>?_;simp(disch:=omega)[he,hg,hCe,hAe,hSe];refine cT (aIo (aJ d.l i).classes o.classes _ (by omega) (by omega)) ?_;rw [hCe];apply Y;simp(disch:=omega)[he,hg,hCe,hAe,hSe];and_intros<;>(try omega);apply Z;apply aR;refine zk [3,4,5,6,7,32,33,34] ?_;refine nW (fun(j:Nat)=> [(34,.d (.v (.int .i64 (j:Int)))),(11,.d (.any))]) (fun(j:Nat)=> [[.sl false (o.classes.map D.str),.sl false (o.attrs.map dA),.sl false (o.styles.map cQ)], [.v (.int .i64 ((aJ d.l i).ID)),.v (.int .i64 ((aJ d.l i).kind)),.v (.string ((aJ d.l i).tag)),.v (.string ((aJ d.l i).text)),.sl false (((aJ d.l i).classes).map D.str),.sl false (((aJ d.l i).attrs).map dA),.sl false (((aJ d.l i).styles).map cQ),.v (.int .i64 ((aJ d.l i).parent)),.sl false (((aJ d.l i).kids).map D.int)]]) (fun(j:Nat)=>st j) [11,34,35,36,37,38,39,40,41,42,43,44,45,46,47,48,49,50] (fun(j:Nat)=>j<=C.length) (fun(j:Nat)=>C.length - j) (0) (by simp <;> rfl) ?_ (by simp) (by simp) ?_ ?_
 .simp
 .simp
 rintro j hj;simp only [aQ,aO];refine zr ⟨[],[3,4],[],[],[]⟩ fun _ _ Z=>?_;simp(disch:=omega)[he,hg,hCe,hAe,hSe];apply Z;apply aE;refine zI ?_ ?_<;>intro c2<;>try simp at c2
 .apply jM;refine zr ⟨[],[3,4],[],[],[]⟩ fun _ _ Z=>?_;simp(disch:=omega)[he,hg,hCe,hAe,hSe];and_intros<;>(try omega);apply Z;refine zk [3,4,5,6,7,11,32,33,34] ?_;refine zr ⟨[],[3,4],[],[],[]⟩ fun _ _ Z=>?_;simp(disch:=omega)[he,hg,hCe,hAe,hSe];apply Z;refine zI ?_ ?_<;>intro c3<;>try simp at c3
  .refine zt ⟨[],[3,4],[],[],[]⟩ fun _ _ Z=>?_;refine zs 4 fun _ Y=>?_;simp(disch:=omega)[he,hg,hCe,hAe,hSe];apply Y;refine aF fun _ Y=>?_;simp(disch:=omega)[he,hg,hCe,hAe,hSe];have hq:Ct prog 115 [.ref l 0,D.int i,D.str C[j].name] (st j) (fun r τ=>r=D.int (cs j)/\τ=st (j+1)):=by have:=hC j c2;unfold cOp at this;rw [aK c3] at this;exact this
   refine cT (hq) ?_;apply Y;simp only [eJ];apply Z;apply zB;refine zk [3,4,5,6,7,11,32,33,34] ?_;refine zt ⟨[],[3,4],[],[],[]⟩ fun _ _ Z=>?_;simp(disch:=omega)[he,hg,hCe,hAe,hSe];and_intros<;>(try omega);apply Z;refine zq (j+1) ?_ ?_ ?_
   .omega
   .try dsimp only
    omega
   simp(disch:=omega)[he,hg,hCe,hAe,hSe]
  refine zt ⟨[],[3,4],[],[],[]⟩ fun _ _ Z=>?_;refine zs 4 fun _ Y=>?_;simp(disch:=omega)[he,hg,hCe,hAe,hSe];apply Y;refine aF fun _ Y=>?_;simp(disch:=omega)[he,hg,hCe,hAe,hSe];have hq:Ct prog 116 [.ref l 0,D.int i,D.str C[j].name] (st j) (fun r τ=>r=D.int (cs j)/\τ=st (j+1)):=by have:=hC j c2;unfold cOp at this;rw [aD (by rw [c3];simp)] at this;exact this
  refine cT (hq) ?_;apply Y;simp only [eJ];apply Z;apply zB;refine zk [3,4,5,6,7,11,32,33,34] ?_;refine zt ⟨[],[3,4],[],[],[]⟩ fun _ _ Z=>?_;simp(disch:=omega)[he,hg,hCe,hAe,hSe];and_intros<;>(try omega);apply Z;refine zq (j+1) ?_ ?_ ?_
  .omega
  .try dsimp only
   omega
  simp(disch:=omega)[he,hg,hCe,hAe,hSe]
 obtain rfl:j=C.length:=by omega
 apply zE;refine zr ⟨[],[3,4],[],[],[]⟩ fun _ _ Z=>?_;refine zs 4 fun _ Y=>?_;simp(disch:=omega)[he,hg,hCe,hAe,hSe];apply Y;refine aF fun _ Y=>?_;simp(disch:=omega)[he,hg,hCe,hAe,hSe];refine cT (aHx (aJ d.l i).attrs o.attrs _ (by omega) (by omega)) ?_;rw [hAe];apply Y;refine zs 2 fun _ Y=>?_;simp(disch:=omega)[he,hg,hCe,hAe,hSe];and_intros<;>(try omega);apply Y;refine aF fun _ Y=>?_;simp(disch:=omega)[he,hg,hCe,hAe,hSe];refine cT (aWx l i A C.length st cs (by omega) hA) ?_;apply Y;simp only [eJ];apply Z;refine zk [3,4,5,6,7] ?_;refine zr ⟨[],[3,4],[],[],[]⟩ fun _ _ Z=>?_;refine zs 4 fun _ Y=>?_;simp(disch:=omega)[he,hg,hCe,hAe,hSe];apply Y;refine aF fun _ Y=>?_;simp(disch:=omega)[he,hg,hCe,hAe,hSe];refine cT (aNv (aJ d.l i).styles o.styles _ (by omega) (by omega)) ?_;rw [hSe];apply Y;refine zs 2 fun _ Y=>?_;simp(disch:=omega)[he,hg,hCe,hAe,hSe];and_intros<;>(try omega);apply Y;refine aF fun _ Y=>?_;simp(disch:=omega)[he,hg,hCe,hAe,hSe];refine cT (aWw l i S (C.length+A.length) st cs (by omega) hS) ?_;apply Y;simp only [eJ];apply Z;refine zk [6] ?_;refine zr ⟨[],[3,4],[],[],[]⟩ fun _ _ Z=>?_;simp(disch:=omega)[he,hg,hCe,hAe,hSe];apply Z;apply aC;simp [aH,hCe,hAe,hSe]
def aZc(l:List AT)(c:ByteArray):ByteArray:=((l.find? fun p=>decide (p.name=c)).map AT.value).getD ⟨#[]⟩
def aZy(l:List PI)(c:ByteArray):Int:=((l.reverse.find? fun p=>decide (p.name=c)).map PI.value).getD 0
def aYb(A:List PI)(p:PI):Bool:=mA nP A p.name && decide (aZy A p.name=p.value)
def aZd(A B:List PI)(k:Nat):List SI:=((A.take k).filter fun p=> !mA nP B p.name).map (Dm true)
def aY5(a B:List PI)(k:Nat):List SI:=((B.take k).filter fun p=> !aYb a p).map (Dm false)
def aN1(a b:List PI):List SI:=aZd (iC nP a) b (iC nP a).length++aY5 a (iC nP b) (iC nP b).length
def aW7(a:List AT)(p:AT):Bool:=mA nA a p.name && decide (aZc a p.name=p.value)
def cTs(i:Int)(C:List Stp)(k:Nat):List TOp:=(C.take k).map fun s=>(cOp s).top i
def aDs(i:Int)(a b:List AT)(k:Nat):List TOp:=((a.take k).filter fun p=> !mA nA b p.name).map fun p=>(DO_.da p.name).top i
def aSs(i:Int)(a b:List AT)(k:Nat):List TOp:=((b.take k).filter fun p=> !aW7 a p).map fun p=>(DO_.sa p.name p.value).top i
def sTs(i:Int)(S:List SI)(k:Nat):List TOp:=(S.take k).map fun s=>(sOp s).top i
def Mz(n:ND)(is:Bool)(i:Int)(o:OW):Int:=if is=false then 11 else if i=0 then 1 else if ¬n.kind=2 then 14 else if(fK o).any (fun s=> !dT s)=true then 2 else 0
def aZm(i:Int)(n:ND)(o:OW):List TOp:=cTs i (jT n.classes o.classes) (jT n.classes o.classes).length++aDs i n.attrs o.attrs n.attrs.length++aSs i n.attrs o.attrs o.attrs.length++sTs i (aN1 n.styles o.styles) (aN1 n.styles o.styles).length
def aZo(i:Int)(n:ND)(is:Bool)(o:OW):List TOp:=if Mz n is i o=0 then aZm i n o else []
end Go.Proofs.YtbgfljpnhhdkoaaGreat
