import Derived.Test.YtbgfljpnhhdkoaaGreatWkDr3
set_option linter.all false
set_option maxHeartbeats 8000000
set_option maxRecDepth 20000
open Go.Proofs.Tryz
namespace Go.Proofs.YtbgfljpnhhdkoaaGreat
open Go Go.Vm
inductive DO_ where
 | sa (n v:ByteArray)
 | da (n:ByteArray)
 | ss (n:ByteArray) (v:Int)
 | ds (n:ByteArray)
 | ac (n:ByteArray)
 | dc (n:ByteArray)
namespace DO_
def kind:DO_->Int
 | sa .. =>8 | da .. =>9 | ss .. =>10 | ds .. =>11 | ac .. =>12 | dc .. =>13
def name:DO_->ByteArray
 | sa n _=>n | da n=>n | ss n _=>n | ds n=>n | ac n=>n | dc n=>n
def value:DO_->ByteArray
 | sa _ v=>v | _=>⟨#[]⟩
def num:DO_->Int
 | ss _ v=>v | _=>0
def top(i:Int)(q:DO_):TOp:=⟨q.kind,i,0,q.num,q.name,q.value⟩
def lf:DO_->FuncId
 | sa .. =>120 | da .. =>122 | ss .. =>126 | ds .. =>128 | ac .. =>116 | dc .. =>115
def la(i:Int):DO_->List D
 | sa n v=> [D.int i,D.str n,D.str v] | da n=> [D.int i,D.str n] | ss n v=> [D.int i,D.str n,D.int v] | ds n=> [D.int i,D.str n] | ac n=> [D.int i,D.str n] | dc n=> [D.int i,D.str n]
def ok(q:DO_):Prop:=q.name.size<=1000/\q.value.size<=1000
end DO_
variable {k m M l:Nat} {d d':DS} {rk rk':Int->Nat} {σ σ2:List (List D)} {x y:RD} {ops:List TOp}
def aWy(m M l:Nat)(i:Int)(q:DO_)(k:Nat)(d:DS)(rk:Int->Nat)(x:RD)(ops:List TOp)(σ:List (List D))(d':DS)(rk':Int->Nat)(y:RD)(c:Int)(σ':List (List D)):Prop:=
 Ct prog q.lf (.ref l 0::q.la i) σ (fun r τ=>r=D.int c/\τ=σ')/\LX (k+1) m M l d' rk' y (Nv ops c (q.top i)) σ'/\setX x (q.kind - 6) i q.name q.value q.num=(y,c)/\
  (∀τ,Ct prog 161 [gB x,kF (q.top i)] τ (fun r τ'=>r= .tup [gB y,D.int c]/\τ'=τ))/\Oth m (· =l) d d' σ σ'
theorem aW5(h:LX k m M l d rk x ops σ)(hk:k<=800)(i:Int)(q:DO_)(hq:q.ok):∃d' rk' y c σ',aWy m M l i q k d rk x ops σ d' rk' y c σ':=by
 have hh:=h;obtain⟨⟨hi,hx⟩,hoff,hat,hlen⟩:=h;have hl:ops.length<=100000:=by omega
 have e0:(⟨#[]⟩:ByteArray).size<=1000:=by decide
 obtain⟨hs,hv⟩:=hq;cases q with
 | sa n v=>
  obtain⟨d',rk',σ',hc,hi',e,fr⟩:=aCb k m M d rk σ i n v 0 hi hk hs;obtain⟨p1,p2⟩:=hx.setX 2 i n v 0;obtain⟨o2,st⟩:=hh.step ⟨hi',by rw [e];exact p2⟩ fr;obtain⟨r1,r2⟩:=sC ⟨hi,hx⟩ hk ⟨8,i,0,0,n,v⟩ hs hv _ 0 _ (fun q _=>by simp at q) (fun q _=>by simp at q) (fun q _=>by simp at q) (fun q=>by simp at q) (fun q=>by simp at q) (fun q=>by simp at q) (fun q=>by simp at q) (fun _ _=>jH p1);exact⟨d',rk',_,_,_,Wg l m ops i n v _ σ' σ hat hc o2 hl,st _ _,jH p1,r2,fr.othN l ops _ _⟩
 | da n=>
  obtain⟨d',rk',σ',hc,hi',e,fr⟩:=Vx k m M d rk σ i n ⟨#[]⟩ 0 hi hk hs;obtain⟨p1,p2⟩:=hx.setX 3 i n ⟨#[]⟩ 0;obtain⟨o2,st⟩:=hh.step ⟨hi',by rw [e];exact p2⟩ fr;obtain⟨r1,r2⟩:=sC ⟨hi,hx⟩ hk ⟨9,i,0,0,n,⟨#[]⟩⟩ hs e0 _ 0 _ (fun q _=>by simp at q) (fun q _=>by simp at q) (fun q _=>by simp at q) (fun q=>by simp at q) (fun q=>by simp at q) (fun q=>by simp at q) (fun q=>by simp at q) (fun _ _=>jH p1);exact⟨d',rk',_,_,_,Rs l m ops i n _ σ' σ hat hc o2 hl,st _ _,jH p1,r2,fr.othN l ops _ _⟩
 | ss n v=>
  obtain⟨d',rk',σ',hc,hi',e,fr⟩:=aB5 k m M d rk σ i n ⟨#[]⟩ v hi hk hs;obtain⟨p1,p2⟩:=hx.setX 4 i n ⟨#[]⟩ v;obtain⟨o2,st⟩:=hh.step ⟨hi',by rw [e];exact p2⟩ fr;obtain⟨r1,r2⟩:=sC ⟨hi,hx⟩ hk ⟨10,i,0,v,n,⟨#[]⟩⟩ hs e0 _ 0 _ (fun q _=>by simp at q) (fun q _=>by simp at q) (fun q _=>by simp at q) (fun q=>by simp at q) (fun q=>by simp at q) (fun q=>by simp at q) (fun q=>by simp at q) (fun _ _=>jH p1);exact⟨d',rk',_,_,_,Uc l m ops i n v _ σ' σ hat hc o2 hl,st _ _,jH p1,r2,fr.othN l ops _ _⟩
 | ds n=>
  obtain⟨d',rk',σ',hc,hi',e,fr⟩:=Xk k m M d rk σ i n ⟨#[]⟩ 0 hi hk hs;obtain⟨p1,p2⟩:=hx.setX 5 i n ⟨#[]⟩ 0;obtain⟨o2,st⟩:=hh.step ⟨hi',by rw [e];exact p2⟩ fr;obtain⟨r1,r2⟩:=sC ⟨hi,hx⟩ hk ⟨11,i,0,0,n,⟨#[]⟩⟩ hs e0 _ 0 _ (fun q _=>by simp at q) (fun q _=>by simp at q) (fun q _=>by simp at q) (fun q=>by simp at q) (fun q=>by simp at q) (fun q=>by simp at q) (fun q=>by simp at q) (fun _ _=>jH p1);exact⟨d',rk',_,_,_,Od l m ops i n _ σ' σ hat hc o2 hl,st _ _,jH p1,r2,fr.othN l ops _ _⟩
 | ac n=>
  obtain⟨d',rk',σ',hc,hi',e,fr⟩:=Xg k m M d rk σ i n ⟨#[]⟩ 0 hi hk hs;obtain⟨p1,p2⟩:=hx.setX 6 i n ⟨#[]⟩ 0;obtain⟨o2,st⟩:=hh.step ⟨hi',by rw [e];exact p2⟩ fr;obtain⟨r1,r2⟩:=sC ⟨hi,hx⟩ hk ⟨12,i,0,0,n,⟨#[]⟩⟩ hs e0 _ 0 _ (fun q _=>by simp at q) (fun q _=>by simp at q) (fun q _=>by simp at q) (fun q=>by simp at q) (fun q=>by simp at q) (fun q=>by simp at q) (fun q=>by simp at q) (fun _ _=>jH p1);exact⟨d',rk',_,_,_,Sm l m ops i n _ σ' σ hat hc o2 hl,st _ _,jH p1,r2,fr.othN l ops _ _⟩
 | dc n=>
  obtain⟨d',rk',σ',hc,hi',e,fr⟩:=Ui k m M d rk σ i n ⟨#[]⟩ 0 7 (by decide) hi hk hs;obtain⟨p1,p2⟩:=hx.setX 7 i n ⟨#[]⟩ 0;obtain⟨o2,st⟩:=hh.step ⟨hi',by rw [e];exact p2⟩ fr;obtain⟨r1,r2⟩:=sC ⟨hi,hx⟩ hk ⟨13,i,0,0,n,⟨#[]⟩⟩ hs e0 _ 0 _ (fun q _=>by simp at q) (fun q _=>by simp at q) (fun q _=>by simp at q) (fun q=>by simp at q) (fun q=>by simp at q) (fun q=>by simp at q) (fun q=>by simp at q) (fun _ _=>jH p1);exact⟨d',rk',_,_,_,Nz l m ops i n _ σ' σ hat hc o2 hl,st _ _,jH p1,r2,fr.othN l ops _ _⟩
structure DSt where
 d:DS
 rk:Int->Nat
 x:RD
 ops:List TOp
 σ:List (List D)
theorem aBz {m M l:Nat} {i:Int} :∀(O:List DO_) (k:Nat) (s:DSt),LX k m M l s.d s.rk s.x s.ops s.σ->k+O.length<=790->(∀q∈O,q.ok)->
  ∃ st : Nat -> DSt, ∃ cs : Nat -> Int, st 0 = s /\ (∀ j, j <= O.length -> LX (k + j) m M l (st j).d (st j).rk (st j).x (st j).ops (st j).σ /\ Oth m (· = l) s.d (st j).d s.σ (st j).σ) /\
   ∀j (h:j<O.length),Ct prog O[j].lf (.ref l 0::O[j].la i) (st j).σ (fun r τ=>r=D.int (cs j)/\τ=(st (j+1)).σ)/\(st (j+1)).ops=Nv (st j).ops (cs j) (O[j].top i)/\setX (st j).x (O[j].kind - 6) i O[j].name O[j].value O[j].num=((st (j+1)).x,cs j)/\
    (∀τ,Ct prog 161 [gB (st j).x,kF (O[j].top i)] τ (fun r τ'=>r= .tup [gB (st (j+1)).x,D.int (cs j)]/\τ'=τ))
 | [],k,s,h,hk,_=>by
  refine⟨fun _=>s,fun _=>0,rfl,fun j hj=>?_,fun j h=>absurd h (by simp)⟩;have e:j=0:=by simpa using hj
  subst e;exact⟨h,Oth.refl _ _ _ _⟩
 | q :: O, k, s, h, hk, hq => by
  simp only [bT] at hk;obtain⟨d',rk',y,c,σ',h1,h2,h3,h4,h5⟩:=aW5 h (by omega) i q (hq q kO);obtain⟨st,cs,e0,e1,e2⟩:=aBz (i:=i) O (k+1) ⟨d',rk',y,Nv s.ops c (q.top i),σ'⟩ h2 (by omega) fun q' hq'=>hq q' (lE _ hq');refine⟨fun j=>match j with | 0=>s | j+1=>st j,fun j=>match j with | 0=>c | j+1=>cs j,rfl,fun j hj=>?_,fun j hj=>?_⟩
  .match j with
   | 0=>exact⟨h,Oth.refl _ _ _ _⟩
   | j+1=>
    obtain⟨a,b⟩:=e1 j (by simpa using hj);refine⟨by rw [show k+(j+1)=k+1+j by omega];exact a,h5.trans b⟩
  match j with
  | 0=>
   show Ct _ q.lf (.ref l 0::q.la i) s.σ (fun r τ=>r=D.int c/\τ=(st 0).σ)/\(st 0).ops=Nv s.ops c (q.top i)/\setX s.x (q.kind - 6) i q.name q.value q.num=((st 0).x,c)/\(∀τ,Ct _ _ [gB s.x,kF (q.top i)] τ (fun r τ'=>r= .tup [gB (st 0).x,D.int c]/\τ'=τ))
   rw [e0];exact⟨h1,rfl,h3,h4⟩
  | j+1=>exact e2 j (by simpa using hj)
variable {A B:List PI}{c:ByteArray}{k:Nat}{α:Type}
theorem aFz(l:Nat)(i:Int)(s:SA)(c:Int)(σ2:List (List D))(σ:List (List D))(hc:Ct prog 120 [.ref l 0,D.int i,D.str s.name,D.str s.value] σ (fun r τ=>r=D.int c/\τ=σ2)):Ct prog 119 [Sf s,.adr [.ref l 0],.adr [D.int i]] σ (fun r σ'=>r= .tup []/\σ'=σ2):=by
 refine zf func119 ?_;refine bE fun _ _ Z=>?_;simp;apply Z;refine rB fun _ _ Z=>?_;refine zs 6 fun _ Y=>?_;simp;apply Y;refine aE fun _ Y=>?_;simp;refine cB (hc) ?_;apply Y;simp only [eE];apply Z;simp [aK]
theorem aEm(l:Nat)(i:Int)(s:ByteArray)(c:Int)(σ2:List (List D))(σ:List (List D))(hc:Ct prog 122 [.ref l 0,D.int i,D.str s] σ (fun r τ=>r=D.int c/\τ=σ2)):Ct prog 121 [D.str s,.adr [.ref l 0],.adr [D.int i]] σ (fun r σ'=>r= .tup []/\σ'=σ2):=by
 refine zf func121 ?_;refine rB fun _ _ Z=>?_;refine zs 3 fun _ Y=>?_;simp;apply Y;refine aE fun _ Y=>?_;simp;refine cB (hc) ?_;apply Y;simp only [eE];apply Z;simp [aK]
theorem aHa(l:Nat)(i:Int)(s:SI)(c:Int)(σ2:List (List D))(σ:List (List D))(hc:Ct prog 126 [.ref l 0,D.int i,D.str s.name,D.int s.value] σ (fun r τ=>r=D.int c/\τ=σ2)):Ct prog 125 [Il s,.adr [.ref l 0],.adr [D.int i]] σ (fun r σ'=>r= .tup []/\σ'=σ2):=by
 refine zf func125 ?_;refine bE fun _ _ Z=>?_;simp;apply Z;refine rB fun _ _ Z=>?_;refine zs 6 fun _ Y=>?_;simp;apply Y;refine aE fun _ Y=>?_;simp;refine cB (hc) ?_;apply Y;simp only [eE];apply Z;simp [aK]
theorem aFt(l:Nat)(i:Int)(s:ByteArray)(c:Int)(σ2:List (List D))(σ:List (List D))(hc:Ct prog 128 [.ref l 0,D.int i,D.str s] σ (fun r τ=>r=D.int c/\τ=σ2)):Ct prog 127 [D.str s,.adr [.ref l 0],.adr [D.int i]] σ (fun r σ'=>r= .tup []/\σ'=σ2):=by
 refine zf func127 ?_;refine rB fun _ _ Z=>?_;refine zs 3 fun _ Y=>?_;simp;apply Y;refine aE fun _ Y=>?_;simp;refine cB (hc) ?_;apply Y;simp only [eE];apply Z;simp [aK]
theorem zP {β:Type} [DecidableEq α](nm:α->ByteArray)(mk:Bool->α->β)(a b:List α):(jF nm mk a b).length<=a.length+b.length:=by
 unfold jF;have h1:=yG nm mk (fY nm a) (fY nm b);have h2:=Mf nm mk (fY nm a) (fY nm b);have h3:=gZ nm a;have h4:=gZ nm b;rw [bB];omega
def cOp(s:Stp):DO_:=if s.drop=true then .dc s.name else .ac s.name
def aOp(s:SA):DO_:=if s.drop=true then .da s.name else .sa s.name s.value
def sOp(s:SI):DO_:=if s.drop=true then .ds s.name else .ss s.name s.value
abbrev Pz(l:Nat)(i:Int):List D:= [.adr [.ref l 0],.adr [D.int i]]
theorem aXl(l:Nat)(i:Int)(A:List SA)(n:Nat)(st:Nat->List (List D))(cs:Nat->Int)(hl:A.length<=99999)(h:∀j (h:j<A.length),Ct prog (aOp A[j]).lf (.ref l 0::(aOp A[j]).la i) (st (n+j)) (fun r τ=>r=D.int (cs (n+j))/\τ=st (n+(j+1)))):
  Ct prog 117 [.sl false (A.map Sf),.clo (.func 119) [] (Pz l i),.clo (.func 121) [] (Pz l i)] (st n) (fun r τ=>r= .tup []/\τ=st (n+A.length)):=
 aJp A 119 121 (Pz l i) (fun j=>st (n+j)) hl (by simp [D.plain]) (by simp [D.strip,D.s2,D.s1]) fun j hj=>by
  have hq:=h j hj;unfold aOp at hq;refine⟨fun e=>?_,fun e=>?_⟩
  .rw [aI e] at hq;exact aEm l i A[j].name _ _ _ hq
  rw [aC (by rw [e];simp)] at hq;exact aFz l i A[j] _ _ _ hq
theorem aWf(l:Nat)(i:Int)(A:List SI)(n:Nat)(st:Nat->List (List D))(cs:Nat->Int)(hl:A.length<=99999)(h:∀j (h:j<A.length),Ct prog (sOp A[j]).lf (.ref l 0::(sOp A[j]).la i) (st (n+j)) (fun r τ=>r=D.int (cs (n+j))/\τ=st (n+(j+1)))):
  Ct prog 123 [.sl false (A.map Il),.clo (.func 125) [] (Pz l i),.clo (.func 127) [] (Pz l i)] (st n) (fun r τ=>r= .tup []/\τ=st (n+A.length)):=
 aI5 A 125 127 (Pz l i) (fun j=>st (n+j)) hl (by simp [D.plain]) (by simp [D.strip,D.s2,D.s1]) fun j hj=>by
  have hq:=h j hj;unfold sOp at hq;refine⟨fun e=>?_,fun e=>?_⟩
  .rw [aI e] at hq;exact aFt l i A[j].name _ _ _ hq
  rw [aC (by rw [e];simp)] at hq;exact aHa l i A[j] _ _ _ hq
theorem aDn(k m M l:Nat)(d:DS)(rk:Int->Nat)(x:RD)(ops:List TOp)(i:Int)(o:OW)(σ:List (List D))(h:LX k m M l d rk x ops σ)(hk:k<=800)(h1:o.classes.length<=9999)(h2:o.attrs.length<=9999)(h3:o.styles.length<=9999)(hs:∀s∈iO o,s.size<=9223372036854775807)(he:¬Jw (aG d.l i) (eN d.l i) o=0):Ct prog 55 [.ref l 0,D.int i,Yz o] σ (fun r σ'=>r= .int (Jw (aG d.l i) (eN d.l i) o)/\σ'=σ):=by
 refine zf func55 ?_;have hg:=h.at_;have hnb:=h.ix.iv.ip.NB (by omega);have hfa:=hnb.fa i;have hfs:=hnb.fs i;have hfc:=hnb.fc i;refine zr ⟨[],[3,4],[],[],[]⟩ fun _ _ Z=>?_;simp[he,hg];apply Z;refine zk [3,4,5,6] ?_;refine zd ⟨[],[3,4],[],[],[]⟩ [.op {},.op {},.op {},.op {rO:=true},.op {},.read,.op {},.op {},.op {},.op {rL:=true,wL:=true},.op {rL:=true,wL:=true},.op {}] fun all hall _ Z=>?_;refine iU 5 fun _ Y=>?_;simp[he,hg];apply Y;refine dL fun _ Y=>?_;simp[he,hg];refine zdr (Be m M d i _ h.ix.iv.ho hnb) ?_;apply Y;simp[he,hg];apply Z;apply aF;refine zk [3,4,5,6,7,8] ?_;refine zr ⟨[],[3,4],[],[],[]⟩ fun _ _ Z=>?_;refine zs 3 fun _ Y=>?_;simp[he,hg];apply Y;refine aE fun _ Y=>?_;simp[he,hg];refine cB (aNp (aG d.l i) (eN d.l i) o _ h1 h2 h3 hs) ?_;apply Y;simp[he,hg];apply Z;refine zr ⟨[],[3,4],[],[],[]⟩ fun _ _ Z=>?_;simp[he,hg];apply Z;refine zI ?_ ?_<;>intro c1<;>try simp at c1
 refine zk [3,4,5,6,7,9] ?_;refine zr ⟨[],[3,4],[],[],[]⟩ fun _ _ Z=>?_;simp[he,hg];apply Z;apply aD;simp [aK]
theorem Mj(a b:Ls):(jG a b).length<=(bG a).length+(bG b).length:=by
 unfold jG Ic;have:=yJ (bG b) (iE (bG b) (bG a)) (bG a);simp only [bB,bI,dW];omega
theorem Ot(k m M l:Nat)(d:DS)(rk:Int->Nat)(x:RD)(ops:List TOp)(i:Int)(o:OW)(st:Nat->List (List D))(cs:Nat->Int)(σ:List (List D))(h:LX k m M l d rk x ops σ)(hk:k<=800)(h1:o.classes.length<=9999)(h2:o.attrs.length<=9999)(h3:o.styles.length<=9999)(hs:∀s∈iO o,s.size<=9223372036854775807)(he:Jw (aG d.l i) (eN d.l i) o=0)(h0:st 0=σ)(hC:(∀j (hj:j<(jG (aG d.l i).classes o.classes).length),Ct prog (cOp (jG (aG d.l i).classes o.classes)[j]).lf (.ref l 0::(cOp (jG (aG d.l i).classes o.classes)[j]).la i) (st (j)) (fun r τ=>r=D.int (cs (j))/\τ=st (j+1))))(hA:(∀j (hj:j<(jF nA zD (aG d.l i).attrs o.attrs).length),Ct prog (aOp (jF nA zD (aG d.l i).attrs o.attrs)[j]).lf (.ref l 0::(aOp (jF nA zD (aG d.l i).attrs o.attrs)[j]).la i) (st ((jG (aG d.l i).classes o.classes).length+j)) (fun r τ=>r=D.int (cs ((jG (aG d.l i).classes o.classes).length+j))/\τ=st ((jG (aG d.l i).classes o.classes).length+(j+1)))))(hS:(∀j (hj:j<(jF nP Ao (aG d.l i).styles o.styles).length),Ct prog (sOp (jF nP Ao (aG d.l i).styles o.styles)[j]).lf (.ref l 0::(sOp (jF nP Ao (aG d.l i).styles o.styles)[j]).la i) (st ((jG (aG d.l i).classes o.classes).length+(jF nA zD (aG d.l i).attrs o.attrs).length+j)) (fun r τ=>r=D.int (cs ((jG (aG d.l i).classes o.classes).length+(jF nA zD (aG d.l i).attrs o.attrs).length+j))/\τ=st ((jG (aG d.l i).classes o.classes).length+(jF nA zD (aG d.l i).attrs o.attrs).length+(j+1))))):Ct prog 55 [.ref l 0,D.int i,Yz o] σ (fun r σ'=>r=D.int 0/\σ'=st ((jG (aG d.l i).classes o.classes).length+(jF nA zD (aG d.l i).attrs o.attrs).length+(jF nP Ao (aG d.l i).styles o.styles).length)):=by
 refine zf func55 ?_;subst h0;have hg:=h.at_;have hnb:=h.ix.iv.ip.NB (by omega);have hfa:=hnb.fa i;have hfs:=hnb.fs i;have hfc:=hnb.fc i;have hcl1:=jQ (aG d.l i).classes;have hcl2:=jQ o.classes;have htl:=Mj (aG d.l i).classes o.classes;have hal:=zP nA zD (aG d.l i).attrs o.attrs;have hsl:=zP nP Ao (aG d.l i).styles o.styles;obtain⟨C,hCe⟩:∃C,jG (aG d.l i).classes o.classes=C:=⟨_,rfl⟩;obtain⟨A,hAe⟩:∃A,jF nA zD (aG d.l i).attrs o.attrs=A:=⟨_,rfl⟩;obtain⟨S,hSe⟩:∃S,jF nP Ao (aG d.l i).styles o.styles=S:=⟨_,rfl⟩;simp only [hCe,hAe,hSe] at hC hA hS htl hal hsl;refine zr ⟨[],[3,4],[],[],[]⟩ fun _ _ Z=>?_;simp(disch:=omega)[he,hg,hCe,hAe,hSe];apply Z;refine zk [3,4,5,6] ?_;refine zd ⟨[],[3,4],[],[],[]⟩ [.op {},.op {},.op {},.op {rO:=true},.op {},.read,.op {},.op {},.op {},.op {rL:=true,wL:=true},.op {rL:=true,wL:=true},.op {}] fun all hall _ Z=>?_;refine iU 5 fun _ Y=>?_;simp(disch:=omega)[he,hg,hCe,hAe,hSe];apply Y;refine dL fun _ Y=>?_;simp(disch:=omega)[he,hg,hCe,hAe,hSe];refine zdr (Be m M d i _ h.ix.iv.ho hnb) ?_;apply Y;simp(disch:=omega)[he,hg,hCe,hAe,hSe];apply Z;apply aF;refine zk [3,4,5,6,7,8] ?_;refine zr ⟨[],[3,4],[],[],[]⟩ fun _ _ Z=>?_;refine zs 3 fun _ Y=>?_;simp(disch:=omega)[he,hg,hCe,hAe,hSe];apply Y;refine aE fun _ Y=>?_;simp(disch:=omega)[he,hg,hCe,hAe,hSe];refine cB (aNp (aG d.l i) (eN d.l i) o _ h1 h2 h3 hs) ?_;apply Y;simp(disch:=omega)[he,hg,hCe,hAe,hSe];apply Z;refine zr ⟨[],[3,4],[],[],[]⟩ fun _ _ Z=>?_;simp(disch:=omega)[he,hg,hCe,hAe,hSe];apply Z;refine zI ?_ ?_<;>intro c1<;>try simp at c1
 apply zA;apply aF;refine zk [3,4,5,6,7] ?_;refine zr ⟨[],[3,4],[],[],[]⟩ fun _ _ Z=>?_;refine zs 4 fun _ Y=>?_;simp(disch:=omega)[he,hg,hCe,hAe,hSe];apply Y;refine aE fun _ Y=>?_;simp(disch:=omega)[he,hg,hCe,hAe,hSe];refine cB (aMf (aG d.l i).classes o.classes _ (by omega) (by omega)) ?_;rw [hCe];apply Y;simp(disch:=omega)[he,hg,hCe,hAe,hSe];and_intros<;>(try omega);apply Z;apply aS;refine zk [3,4,5,6,7,32,33,34] ?_;refine jR (fun(j:Nat)=> [(34,.d (.v (.int .i64 (j:Int)))),(11,.d (.any))]) (fun(j:Nat)=> [[.sl false (o.classes.map D.str),.sl false (o.attrs.map dU),.sl false (o.styles.map cM)], [.v (.int .i64 ((aG d.l i).ID)),.v (.int .i64 ((aG d.l i).kind)),.v (.string ((aG d.l i).tag)),.v (.string ((aG d.l i).text)),.sl false (((aG d.l i).classes).map D.str),.sl false (((aG d.l i).attrs).map dU),.sl false (((aG d.l i).styles).map cM),.v (.int .i64 ((aG d.l i).parent)),.sl false (((aG d.l i).kids).map D.int)]]) (fun(j:Nat)=>st j) [11,34,35,36,37,38,39,40,41,42,43,44,45,46,47,48,49,50] (fun(j:Nat)=>j<=C.length) (fun(j:Nat)=>C.length - j) (0) (by simp <;> rfl) ?_ (by simp) (by simp) ?_ ?_
 .simp
 .simp
 rintro j hj;simp only [aP,aN];refine zr ⟨[],[3,4],[],[],[]⟩ fun _ _ Z=>?_;simp(disch:=omega)[he,hg,hCe,hAe,hSe];apply Z;apply aF;refine zI ?_ ?_<;>intro c2<;>try simp at c2
 .apply kR;refine zr ⟨[],[3,4],[],[],[]⟩ fun _ _ Z=>?_;simp(disch:=omega)[he,hg,hCe,hAe,hSe];and_intros<;>(try omega);apply Z;refine zk [3,4,5,6,7,11,32,33,34] ?_;refine zr ⟨[],[3,4],[],[],[]⟩ fun _ _ Z=>?_;simp(disch:=omega)[he,hg,hCe,hAe,hSe];apply Z;refine zI ?_ ?_<;>intro c3<;>try simp at c3
  .refine zt ⟨[],[3,4],[],[],[]⟩ fun _ _ Z=>?_;refine zs 4 fun _ Y=>?_;simp(disch:=omega)[he,hg,hCe,hAe,hSe];apply Y;refine aE fun _ Y=>?_;simp(disch:=omega)[he,hg,hCe,hAe,hSe];have hq:Ct prog 115 [.ref l 0,D.int i,D.str C[j].name] (st j) (fun r τ=>r=D.int (cs j)/\τ=st (j+1)):=by have:=hC j c2;unfold cOp at this;rw [aI c3] at this;exact this
   refine cB (hq) ?_;apply Y;simp only [eE];apply Z;apply zB;refine zk [3,4,5,6,7,11,32,33,34] ?_;refine zt ⟨[],[3,4],[],[],[]⟩ fun _ _ Z=>?_;simp(disch:=omega)[he,hg,hCe,hAe,hSe];and_intros<;>(try omega);apply Z;refine zq (j+1) ?_ ?_ ?_
   .omega
   .try dsimp only
    omega
   simp(disch:=omega)[he,hg,hCe,hAe,hSe]
  refine zt ⟨[],[3,4],[],[],[]⟩ fun _ _ Z=>?_;refine zs 4 fun _ Y=>?_;simp(disch:=omega)[he,hg,hCe,hAe,hSe];apply Y;refine aE fun _ Y=>?_;simp(disch:=omega)[he,hg,hCe,hAe,hSe];have hq:Ct prog 116 [.ref l 0,D.int i,D.str C[j].name] (st j) (fun r τ=>r=D.int (cs j)/\τ=st (j+1)):=by have:=hC j c2;unfold cOp at this;rw [aC (by rw [c3];simp)] at this;exact this
  refine cB (hq) ?_;apply Y;simp only [eE];apply Z;apply zB;refine zk [3,4,5,6,7,11,32,33,34] ?_;refine zt ⟨[],[3,4],[],[],[]⟩ fun _ _ Z=>?_;simp(disch:=omega)[he,hg,hCe,hAe,hSe];and_intros<;>(try omega);apply Z;refine zq (j+1) ?_ ?_ ?_
  .omega
  .try dsimp only
   omega
  simp(disch:=omega)[he,hg,hCe,hAe,hSe]
 obtain rfl:j=C.length:=by omega
 apply zE;refine zr ⟨[],[3,4],[],[],[]⟩ fun _ _ Z=>?_;refine zs 4 fun _ Y=>?_;simp(disch:=omega)[he,hg,hCe,hAe,hSe];apply Y;refine aE fun _ Y=>?_;simp(disch:=omega)[he,hg,hCe,hAe,hSe];refine cB (aKb (aG d.l i).attrs o.attrs _ (by omega) (by omega)) ?_;rw [hAe];apply Y;refine zs 2 fun _ Y=>?_;simp(disch:=omega)[he,hg,hCe,hAe,hSe];and_intros<;>(try omega);apply Y;refine aE fun _ Y=>?_;simp(disch:=omega)[he,hg,hCe,hAe,hSe];refine cB (aXl l i A C.length st cs (by omega) hA) ?_;apply Y;simp only [eE];apply Z;refine zk [3,4,5,6,7] ?_;refine zr ⟨[],[3,4],[],[],[]⟩ fun _ _ Z=>?_;refine zs 4 fun _ Y=>?_;simp(disch:=omega)[he,hg,hCe,hAe,hSe];apply Y;refine aE fun _ Y=>?_;simp(disch:=omega)[he,hg,hCe,hAe,hSe];refine cB (aJr (aG d.l i).styles o.styles _ (by omega) (by omega)) ?_;rw [hSe];apply Y;refine zs 2 fun _ Y=>?_;simp(disch:=omega)[he,hg,hCe,hAe,hSe];and_intros<;>(try omega);apply Y;refine aE fun _ Y=>?_;simp(disch:=omega)[he,hg,hCe,hAe,hSe];refine cB (aWf l i S (C.length+A.length) st cs (by omega) hS) ?_;apply Y;simp only [eE];apply Z;refine zk [6] ?_;refine zr ⟨[],[3,4],[],[],[]⟩ fun _ _ Z=>?_;simp(disch:=omega)[he,hg,hCe,hAe,hSe];apply Z;apply aD;simp [aK,hCe,hAe,hSe]
def aE6(l:List AT)(c:ByteArray):ByteArray:=((l.find? fun p=>decide (p.name=c)).map AT.value).getD ⟨#[]⟩
def Yf(l:List PI)(c:ByteArray):Int:=((l.reverse.find? fun p=>decide (p.name=c)).map PI.value).getD 0
theorem Vd {p:α->Bool} {l:List α} (h:k<l.length)(hh:∀x∈l.take k,p x=false)(e:p l[k]=true):l.find? p=some l[k]:=by
 rw [Qq];refine⟨e,k,h,rfl,fun j hj=>?_⟩;have:=hh (l[j]'(by omega)) (by rw [Fe];exact⟨j,by omega,rfl⟩);simp [this]
theorem Rf {p:α->Bool} {l:List α} (hh:∀x∈l,p x=false):l.find? p=none:=by
 rw [qC];intro x hx;simp [hh x hx]
theorem aQy {l:List PI} (h:k<l.length)(hh:∀j (h:j<l.length),k+1<=j->l[j].name≠c)(e:l[k].name=c):Yf l c=l[k].value:=by
 unfold Yf;rw [Vd (l:=l.reverse) (k:=l.length - 1 - k) (by simp;omega) ?_ ?_]
 .simp only [gL,fK,vN];congr 2;omega
 .intro x hx;rw [Fe] at hx;obtain⟨j,hj,rfl⟩:=hx;simp only [vN,Qd];exact hh _ _ (by simp at hj;omega)
 simp only [vN,eO];rw [<- e];congr 2;omega
theorem aIf {l:List PI} (hh:∀j (h:j<l.length),l[j].name≠c):Yf l c=0:=by
 unfold Yf;rw [Rf]
 .rfl
 intro x hx;rw [sO] at hx;obtain⟨j,hj,rfl⟩:=kN hx;simpa using hh j hj
def Dp(A:List PI)(p:PI):Bool:=jJ nP A p.name && decide (Yf A p.name=p.value)
def Ec(A B:List PI)(k:Nat):List SI:=((A.take k).filter fun p=> !jJ nP B p.name).map (Ao true)
def Ik(a B:List PI)(k:Nat):List SI:=((B.take k).filter fun p=> !Dp a p).map (Ao false)
def wI(a b:List PI):List SI:=Ec (fY nP a) b (fY nP a).length++Ik a (fY nP b) (fY nP b).length
theorem aOo (hk:k<A.length)(h:jJ nP B A[k].name=false):Ec A B (k+1)=Ec A B k++ [⟨true,A[k].name,0⟩]:=by
 unfold Ec;rw [bK A k hk,eP,oO (by simp [h]),dK];rfl
theorem aRn (hk:k<A.length)(h:jJ nP B A[k].name=true):Ec A B (k+1)=Ec A B k:=by
 unfold Ec;rw [bK A k hk,eP,oR (by simp [h]),mI,fZ]
theorem Xh (hk:k<B.length)(h:Dp A B[k]=false):Ik A B (k+1)=Ik A B k++ [⟨false,B[k].name,B[k].value⟩]:=by
 unfold Ik;rw [bK B k hk,eP,oO (by simp [h]),dK];rfl
theorem aPs (hk:k<B.length)(h:Dp A B[k]=true):Ik A B (k+1)=Ik A B k:=by
 unfold Ik;rw [bK B k hk,eP,oR (by simp [h]),mI,fZ]
theorem My(A B:List PI)(k:Nat)(h:k<=A.length):(Ec A B k).length<=k:=by
 unfold Ec;rw [bI];have:=gE (fun p:PI=> !jJ nP B p.name) (A.take k);simp at this;omega
theorem Wp(A B:List PI)(k:Nat)(h:k<=B.length):(Ik A B k).length<=k:=by
 unfold Ik;rw [bI];have:=gE (fun p:PI=> !Dp A p) (B.take k);simp at this;omega
theorem Xe(l:List AT)(c:ByteArray)(σ:List (List D))(hl:l.length<=99999):Ct prog 111 [.sl false (l.map dU),D.str c] σ (fun r σ'=>r= .tup [.v (.string (aE6 l c)),.bool (jJ nA l c)]/\σ'=σ):=by
 refine zf func111 ?_;refine bE fun _ _ Z=>?_;simp(disch:=omega);apply Z;apply aF;refine bE fun _ _ Z=>?_;simp(disch:=omega);and_intros<;>(try omega);apply Z;apply aS;refine zk [1,4,5,8,9,10] ?_;refine aZ (fun(k:Nat)=> [(10,.d (.v (.int .i64 (k:Int)))),(7,.d (.any))]) [4,5,7,10,11,12,13,14,15,16,17,18,19,20] (fun(k:Nat)=>k<=l.length/\∀x∈l.take k,decide (x.name=c)=false) (fun(k:Nat)=>l.length - k) (0) (by simp <;> rfl) ?_ ?_ ?_
 .simp
 .simp
 rintro k ⟨hk,hh⟩;simp only [aP,aN];refine bE fun _ _ Z=>?_;simp(disch:=omega);apply Z;apply aF;refine zI ?_ ?_<;>intro c1<;>try simp at c1
 .apply kR;refine bE fun _ _ Z=>?_;simp(disch:=omega);and_intros<;>(try omega);apply Z;refine bE fun _ _ Z=>?_;simp(disch:=omega);apply Z;refine zI ?_ ?_<;>intro c2<;>try simp at c2
  .refine zk [1,7,8,9,10] ?_;refine bE fun _ _ Z=>?_;simp(disch:=omega);apply Z;apply aD;have e:=Vd c1 hh (by simpa using c2);have e2:jJ nA l c=true:=by unfold jJ;rw [lU];exact⟨l[k],cN c1,by simpa using c2⟩
   simp [aK,aE6,e,e2]
  apply mM;refine zk [1,7,8,9,10] ?_;refine rB fun _ _ Z=>?_;simp(disch:=omega);and_intros<;>(try omega);apply Z;refine zq (k+1) ?_ ?_ ?_
  .exact⟨by omega,oF (by omega) hh (by simpa using c2)⟩
  .try dsimp only
   omega
  simp(disch:=omega)
 apply zE;refine bE fun _ _ Z=>?_;simp(disch:=omega);apply Z;apply aD;rw [bL (by omega)] at hh;have e:=Rf hh;have e2:jJ nA l c=false:=by unfold jJ;rw [oX];intro x hx;simpa using hh x hx
 simp [aK,aE6,e,e2]
theorem Uq(l:List PI)(c:ByteArray)(σ:List (List D))(hl:l.length<=99999):Ct prog 75 [.sl false (l.map cM),D.str c] σ (fun r σ'=>r= .tup [.int (Yf l c),.bool (jJ nP l c)]/\σ'=σ):=by
 refine zf func75 ?_;refine bE fun _ _ Z=>?_;simp(disch:=omega)[jO];apply Z;apply aF;refine bE fun _ _ Z=>?_;simp(disch:=omega)[jO];and_intros<;>(try omega);apply Z;apply aS;refine zk [0,1,4,5,6] ?_;refine aZ (fun(k:Nat)=> [(6,.d (.int ((k:Int) - 1)))]) [4,5,6,10,11,12,13,14,15,16,17,18,19,20,21,22,23,24,25] (fun(k:Nat)=>k<=l.length/\∀j (h:j<l.length),k<=j->l[j].name≠c) (fun(k:Nat)=>k) (l.length) (by simp <;> rfl) ?_ ?_ ?_
 .simp
 .exact⟨aV _,fun j h h2=>by omega⟩
 rintro k ⟨hk,hh⟩;simp only [aP,aN];have htn:1<=k->((k:Int) - 1).toNat=k - 1:=fun h=>by omega
 apply aF;refine bE fun _ _ Z=>?_;simp(disch:=omega)[jO];apply Z;refine zI ?_ ?_<;>intro c1<;>try simp at c1
 .have hk1:1<=k:=by omega
  have htn1:=htn hk1;apply kR;refine bE fun _ _ Z=>?_;simp(disch:=omega)[jO];and_intros<;>(try omega);apply Z;refine zI ?_ ?_<;>intro c2<;>try simp at c2
  .refine zk [0,1,6] ?_;refine bE fun _ _ Z=>?_;simp(disch:=omega)[jO];and_intros<;>(try omega);apply Z;apply aD;have e:=aQy (l:=l) (k:=k - 1) (by omega) (fun j h h2=>hh j h (by omega)) c2;have e2:jJ nP l c=true:=Jn.2 ⟨k - 1,by omega,c2⟩;simp [aK,e,e2]
  apply mM;refine zk [0,1,6] ?_;refine rB fun _ _ Z=>?_;simp(disch:=omega)[jO];and_intros<;>(try omega);apply Z;refine zq (k - 1) ?_ ?_ ?_
  .exact⟨by omega,fun j h h2=>Jy hh c2 h h2⟩
  .try dsimp only
   omega
  simp [Mh];omega
 apply zE;refine bE fun _ _ Z=>?_;simp(disch:=omega)[jO];apply Z;apply aD;have e:=aIf (l:=l) (c:=c) fun j h=>hh j h (by omega);have e2:=aL2 (fun j h _=>hh j h (by omega));simp [aK,e,e2]
@[simp] abbrev q43_1:Cfg:=⟨[4,5,31,60,69],[],[],[],[]⟩
theorem aFw(a b:List PI)(σ:List (List D))(ha:a.length<=9999)(hb:b.length<=9999):Ct prog 112 [.sl false (a.map cM),.sl false (b.map cM)] σ (fun r σ'=>r= .sl true ((wI a b).map Il)/\σ'=σ):=by
 refine zf func112 ?_;obtain⟨A,hA⟩:∃A,fY nP a=A:=⟨_,rfl⟩;obtain⟨B,hB⟩:∃B,fY nP b=B:=⟨_,rfl⟩;have hAl:A.length<=9999:=by rw [<- hA];have:=gZ nP a;omega
 have hBl:B.length<=9999:=by rw [<- hB];have:=gZ nP b;omega
 refine zr q43_1 fun _ _ Z=>?_;simp(disch:=omega)[aB,aA,hA,hB];apply Z;refine zr q43_1 fun _ _ Z=>?_;simp(disch:=omega)[aB,aA,hA,hB];and_intros<;>(try omega);apply Z;apply aF;refine zr q43_1 fun _ _ Z=>?_;refine zs 1 fun _ Y=>?_;simp(disch:=omega)[aB,aA,hA,hB];apply Y;refine aE fun _ Y=>?_;simp(disch:=omega)[aB,aA,hA,hB];refine cB (Np a _ (by omega)) ?_;apply Y;simp(disch:=omega)[aB,aA,hA,hB];and_intros<;>(try omega);apply Z;apply aS;refine zk [0,1,4,5,16,17,18] ?_;refine aZ (fun(k:Nat)=> [(18,.d (.v (.int .i64 (k:Int)))),(5,.d (.sl true ((Ec A b k).map Il))),(7,.d (.any)),(8,.d (.any)),(9,.d (.any))]) [5,7,8,9,18,19,20,21,22,23,24,25,26,27,28,29,30,31,32,33,34,35,36,37] (fun(k:Nat)=>k<=A.length) (fun(k:Nat)=>A.length - k) (0) (by simp <;> rfl) ?_ ?_ ?_
 .simp [Ec]
 .simp
 rintro k hk;simp only [aP,aN];have hdl:=My A b k hk;refine zr q43_1 fun _ _ Z=>?_;simp(disch:=omega)[aB,aA,hA,hB];apply Z;apply aF;refine zI ?_ ?_<;>intro c1<;>try simp at c1
 .apply kR;refine zr q43_1 fun _ _ Z=>?_;simp(disch:=omega)[aB,aA,hA,hB];and_intros<;>(try omega);apply Z;refine zk [0,1,4,5,7,8,9,16,17,18] ?_;refine zr q43_1 fun _ _ Z=>?_;refine zs 3 fun _ Y=>?_;simp(disch:=omega)[aB,aA,hA,hB];apply Y;refine aE fun _ Y=>?_;simp(disch:=omega)[aB,aA,hA,hB];refine cB (Uq b A[k].name _ (by omega)) ?_;apply Y;simp(disch:=omega)[aB,aA,hA,hB];apply Z;refine zk [0,1,4,5,7,8,9,16,17,18] ?_;refine zr q43_1 fun _ _ Z=>?_;simp(disch:=omega)[aB,aA,hA,hB];apply Z;refine zI ?_ ?_<;>intro c2<;>try simp at c2
  .have hds:=aOo (B:=b) c1 (by simpa using c2);refine zk [0,1,4,5,7,8,9,16,17,18] ?_;refine zt q43_1 fun _ _ Z=>?_;simp(disch:=omega)[aB,aA,hA,hB];and_intros<;>(try omega);apply Z;apply zB;refine zk [0,1,4,5,7,8,9,16,17,18] ?_;refine zt q43_1 fun _ _ Z=>?_;simp(disch:=omega)[aB,aA,hA,hB];and_intros<;>(try omega);apply Z;refine zq (k+1) ?_ ?_ ?_
   .omega
   .try dsimp only
    omega
   simp(disch:=omega)[aB,aA,hds,hA,hB]
  have hds:=aRn (B:=b) c1 (by simpa using c2);apply mM;refine zk [0,1,4,5,7,8,9,16,17,18] ?_;refine zt q43_1 fun _ _ Z=>?_;simp(disch:=omega)[aB,aA,hA,hB];and_intros<;>(try omega);apply Z;refine zq (k+1) ?_ ?_ ?_
  .omega
  .try dsimp only
   omega
  simp(disch:=omega)[aB,aA,hds,hA,hB]
 obtain rfl:k=A.length:=by omega
 apply zE;apply aF;refine zr q43_1 fun _ _ Z=>?_;refine zs 1 fun _ Y=>?_;simp(disch:=omega)[aB,aA,hA,hB];apply Y;refine aE fun _ Y=>?_;simp(disch:=omega)[aB,aA,hA,hB];refine cB (Np b _ (by omega)) ?_;apply Y;simp(disch:=omega)[aB,aA,hA,hB];and_intros<;>(try omega);apply Z;apply aS;refine zk [0,4,5,39,40,41] ?_;refine aZ (fun(j:Nat)=> [(41,.d (.v (.int .i64 (j:Int)))),(5,.d (.sl true ((Ec A b A.length++Ik a B j).map Il))),(11,.d (.any)),(12,.d (.any)),(13,.d (.any))]) [5,11,12,13,41,42,43,44,45,46,47,48,49,50,51,52,53,54,55,56,57,58,59,60,61,62,63,64,65,66,67,68] (fun(j:Nat)=>j<=B.length) (fun(j:Nat)=>B.length - j) (0) (by simp <;> rfl) ?_ ?_ ?_
 .simp [Ik]
 .simp
 rintro j hj;simp only [aP,aN];have hdl:=My A b A.length (aV _);have hsl:=Wp a B j hj;refine zr q43_1 fun _ _ Z=>?_;simp(disch:=omega)[aB,aA,hA,hB];apply Z;apply aF;refine zI ?_ ?_<;>intro c3<;>try simp at c3
 .apply kR;refine zr q43_1 fun _ _ Z=>?_;simp(disch:=omega)[aB,aA,hA,hB];and_intros<;>(try omega);apply Z;refine zk [0,4,5,11,12,13,39,40,41] ?_;refine zr q43_1 fun _ _ Z=>?_;refine zs 3 fun _ Y=>?_;simp(disch:=omega)[aB,aA,hA,hB];apply Y;refine aE fun _ Y=>?_;simp(disch:=omega)[aB,aA,hA,hB];refine cB (Uq a B[j].name _ (by omega)) ?_;apply Y;simp(disch:=omega)[aB,aA,hA,hB];apply Z;refine zk [0,4,5,11,12,13,39,40,41] ?_;refine pB q43_1 fun all hall _ Z=>?_;have ga2:aT all 2=some 54:=hall 2;refine zs 3 fun _ Y=>?_;simp(disch:=omega)[aB,aA,ga2,hA,hB];apply Y;refine zb 54 ?_ ?_<;>intro g4<;>try simp at g4
  .have hss:=Xh (A:=a) c3 (by unfold Dp;simp [g4]);simp(disch:=omega)[aB,aA,ga2,hA,hB];apply Z;refine bS (t:=true) (by simp) (fun _=>?_) (fun h=>by cases h);refine zk [0,4,5,11,12,13,39,40,41] ?_;refine zt q43_1 fun _ _ Z=>?_;refine zs 8 fun _ Y=>?_;simp(disch:=omega)[aB,aA,hA,hB];and_intros<;>(try omega);apply Y;simp(disch:=omega)[aB,aA,hA,hB];apply Z;apply zB;refine zk [0,4,5,11,12,13,39,40,41] ?_;refine zt q43_1 fun _ _ Z=>?_;simp(disch:=omega)[aB,aA,hA,hB];and_intros<;>(try omega);apply Z;refine zq (j+1) ?_ ?_ ?_
   .omega
   .try dsimp only
    omega
   simp(disch:=omega)[aB,aA,hss,hA,hB]
  simp(disch:=omega)[aB,aA,ga2,hA,hB];apply Z;refine zI ?_ ?_<;>intro c5<;>try simp at c5
  .have hss:=Xh (A:=a) c3 (by unfold Dp;simp [c5]);refine zk [0,4,5,11,12,13,39,40,41] ?_;refine zt q43_1 fun _ _ Z=>?_;refine zs 8 fun _ Y=>?_;simp(disch:=omega)[aB,aA,hA,hB];and_intros<;>(try omega);apply Y;simp(disch:=omega)[aB,aA,hA,hB];apply Z;apply zB;refine zk [0,4,5,11,12,13,39,40,41] ?_;refine zt q43_1 fun _ _ Z=>?_;simp(disch:=omega)[aB,aA,hA,hB];and_intros<;>(try omega);apply Z;refine zq (j+1) ?_ ?_ ?_
   .omega
   .try dsimp only
    omega
   simp(disch:=omega)[aB,aA,hss,hA,hB]
  have hss:=aPs (A:=a) c3 (by unfold Dp;simp [g4,c5]);apply mM;refine zk [0,4,5,11,12,13,39,40,41] ?_;refine zt q43_1 fun _ _ Z=>?_;simp(disch:=omega)[aB,aA,hA,hB];and_intros<;>(try omega);apply Z;refine zq (j+1) ?_ ?_ ?_
  .omega
  .try dsimp only
   omega
  simp(disch:=omega)[aB,aA,hss,hA,hB]
 obtain rfl:j=B.length:=by omega
 apply zE;refine zr q43_1 fun _ _ Z=>?_;simp(disch:=omega)[aB,aA,hA,hB];apply Z;apply aD;simp [aK,wI,hA,hB]
end Go.Proofs.YtbgfljpnhhdkoaaGreat
