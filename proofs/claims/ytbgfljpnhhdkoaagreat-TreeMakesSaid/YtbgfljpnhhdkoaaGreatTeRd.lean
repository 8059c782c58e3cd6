import Derived.Test.YtbgfljpnhhdkoaaGreatWkTe3
import Derived.Test.YtbgfljpnhhdkoaaGreatTeGs
set_option linter.all false
set_option maxRecDepth 20000
set_option maxHeartbeats 8000000
open Go.Proofs.Tryz
namespace Go.Proofs.YtbgfljpnhhdkoaaGreat
open Go Go.Vm
variable {v:VN}
def qX(v:VN):OW:=⟨v.classes,v.attrs,v.styles⟩
def aNy(v:VN):Prop:=(v.kind=1/\fK (qX v)= []/\v.kids= [])\/(2<=v.kind/\v.kind<=4/\dT v.tag=true/\(∀s∈fK (qX v),dT s=true)/\∀p∈v.styles, -2147483648<=p.value/\p.value<=2147483647)
theorem aXj (h:2<=v.kind)(h1:v.kind<=4)(h2:dT v.tag=true)(h3:∀s∈fK (qX v),dT s=true)(h4:∀p∈v.styles, -2147483648<=p.value/\p.value<=2147483647):aNy v:= .inr ⟨h,h1,h2,h3,h4⟩
theorem Db {α:Type} {P:α->Prop} {l:List α} {k:Nat} (h:k<l.length)(hh:∀x∈l.take k,P x)(hx:P l[k]):∀x∈l.take (k+1),P x:=by
 intro x hm;rw [bL l k h] at hm;rcases bT.1 hm with h | h
 .exact hh x h
 rw [fS.1 h];exact hx
theorem aV8 {N:Ls} {k0 k2:Nat} (h:2<=v.kind)(h1:v.kind<=4)(h2:dT v.tag=true)(hN:fK (qX v)=N)(h3:∀s∈N.take k0,dT s=true)(e0:N.length<=k0)(h4:∀p∈v.styles.take k2, -2147483648<=p.value/\p.value<=2147483647)(e2:v.styles.length<=k2):aNy v:=by
 subst hN;rw [bZ e0] at h3;rw [bZ e2] at h4;exact aXj h h1 h2 h3 h4
def iE(v:VN)(b:Bool):Prop:=b=true->aNy v
@[simp] theorem aZ2(v:VN):iE v false:=fun h=>by cases h
theorem eS {b:Bool} (h:v.kind=1)(h1:fK (qX v)= [])(h2:v.kids= []):iE v b:=fun _=> .inl ⟨h,h1,h2⟩
theorem eY {b:Bool} {N:Ls} {k0 k2:Nat} (h:2<=v.kind)(h1:v.kind<=4)(h2:dT v.tag=true)(hN:fK (qX v)=N)(h3:∀s∈N.take k0,dT s=true)(e0:N.length<=k0)(h4:∀p∈v.styles.take k2, -2147483648<=p.value/\p.value<=2147483647)(e2:v.styles.length<=k2):iE v b:=fun _=>aV8 h h1 h2 hN h3 e0 h4 e2
theorem aO9(a b c:Int)(k:Nat):∃z:Int,k<3->([D.v (.int .i64 a),D.v (.int .i64 b),D.v (.int .i64 c)][k]?).getD D.any=D.v (.int .i64 z):=by
 match k with
 | 0=>exact⟨a,fun _=>rfl⟩
 | 1=>exact⟨b,fun _=>rfl⟩
 | 2=>exact⟨c,fun _=>rfl⟩
 | k+3=>exact⟨0,fun h=>absurd h (by omega)⟩
theorem aN3 (h:VF v):∀s∈fK (qX v),s.size<=20:=by
 obtain⟨-, -, -, -, -, -,h1,h2,h3⟩:=h;intro s hs;rcases bT.1 hs with hs | hs
 .rcases bT.1 hs with hs | hs
  .exact h1 s hs
  obtain⟨p,hp,rfl⟩:=aV.1 hs;exact(h2 p hp).1
 obtain⟨p,hp,rfl⟩:=aV.1 hs;exact h3 p hp
theorem aB2 (h:VF v):(fK (qX v)).length<=12:=by
 obtain⟨h1,h2,h3, -⟩:=h;simp [fK,qX];omega
@[simp] abbrev q6_1:Cfg:=⟨[2,3,19,32,38],[],[],[],[]⟩
theorem yE(v:VN)(σ:List (List D))(h1:v.classes.length<=9999)(h2:v.attrs.length<=9999)(h3:v.styles.length<=9999):Ct prog 172 [iX v] σ (fun r σ'=>r=dlo (fK (qX v))/\σ'=σ):=by
 refine zf func172 ?_;refine zr q6_1 fun _ _ Z=>?_;simp(disch:=omega);apply Z;refine zr q6_1 fun _ _ Z=>?_;simp(disch:=omega);and_intros<;>(try omega);apply Z;apply aE;refine zr q6_1 fun _ _ Z=>?_;simp(disch:=omega);and_intros<;>(try omega);apply Z;apply aR;refine zk [1,2,3,13,14,15] ?_;refine aY (fun(k:Nat)=> [(15,.d (.v (.int .i64 (k:Int)))),(3,.d (dlo (Bb (qX v) k))),(5,.d (.any))]) [3,5,15,16,17,18,19,20,21,22,23,24] (fun(k:Nat)=>k<=v.attrs.length) (fun(k:Nat)=>v.attrs.length - k) (0) (by simp <;> rfl) ?_ ?_ ?_
 .simp [Bb,qX]
 .simp
 rintro k hk;simp only [aQ,aO];have hnl:(Bb (qX v) k).length=v.classes.length+k:=Wn (qX v) k hk;refine zr q6_1 fun _ _ Z=>?_;simp(disch:=omega);apply Z;apply aE;refine zI ?_ ?_<;>intro c1<;>try simp at c1
 .have hnn:Bb (qX v) (k+1)=Bb (qX v) k++ [v.attrs[k].name]:=Pi (qX v) c1;apply jM;refine zr q6_1 fun _ _ Z=>?_;simp(disch:=omega);and_intros<;>(try omega);apply Z;refine zt q6_1 fun _ _ Z=>?_;simp(disch:=omega);and_intros<;>(try omega);apply Z;apply zB;refine zk [1,2,3,5,13,14,15] ?_;refine zt q6_1 fun _ _ Z=>?_;simp(disch:=omega);and_intros<;>(try omega);apply Z;refine zq (k+1) ?_ ?_ ?_
  .omega
  .try dsimp only
   omega
  simp(disch:=omega)[hnn]
 obtain rfl:k=v.attrs.length:=by omega
 rw [show Bb (qX v) v.attrs.length=Ad (qX v) 0 from Ue (qX v)];apply zE;apply aE;refine zr q6_1 fun _ _ Z=>?_;simp(disch:=omega);and_intros<;>(try omega);apply Z;apply aR;refine zk [2,3,26,27,28] ?_;refine aY (fun(j:Nat)=> [(28,.d (.v (.int .i64 (j:Int)))),(3,.d (dlo (Ad (qX v) j))),(7,.d (.any))]) [3,7,28,29,30,31,32,33,34,35,36,37] (fun(j:Nat)=>j<=v.styles.length) (fun(j:Nat)=>v.styles.length - j) (0) (by simp <;> rfl) ?_ ?_ ?_
 .simp
 .simp
 rintro j hj;simp only [aQ,aO];have hnl:(Ad (qX v) j).length=v.classes.length+v.attrs.length+j:=Ut (qX v) j hj;refine zr q6_1 fun _ _ Z=>?_;simp(disch:=omega);apply Z;apply aE;refine zI ?_ ?_<;>intro c2<;>try simp at c2
 .have hnn:Ad (qX v) (j+1)=Ad (qX v) j++ [v.styles[j].name]:=On (qX v) c2;apply jM;refine zr q6_1 fun _ _ Z=>?_;simp(disch:=omega);and_intros<;>(try omega);apply Z;refine zt q6_1 fun _ _ Z=>?_;simp(disch:=omega);and_intros<;>(try omega);apply Z;apply zB;refine zk [2,3,7,26,27,28] ?_;refine zt q6_1 fun _ _ Z=>?_;simp(disch:=omega);and_intros<;>(try omega);apply Z;refine zq (j+1) ?_ ?_ ?_
  .omega
  .try dsimp only
   omega
  simp(disch:=omega)[hnn]
 obtain rfl:j=v.styles.length:=by omega
 rw [show Ad (qX v) v.styles.length=fK (qX v)from Vg (qX v)];apply zE;refine zr q6_1 fun _ _ Z=>?_;simp(disch:=omega);apply Z;apply aC;simp [aH]
theorem aIr(s:ByteArray)(σ:List (List D))(hs:s.size<=9999):Ct prog 218 [D.str s] σ (fun r σ'=>(∃b:Bool,r=D.bool b)/\σ'=σ):=by
 refine zf func218 ?_;refine bB fun _ _ Z=>?_;simp(disch:=omega);apply Z;apply aE;refine bB fun _ _ Z=>?_;simp(disch:=omega);apply Z;apply aR;refine zk [0,2,3] ?_;refine aY (fun(k:Nat)=> [(3,.d (.v (.int .i64 (k:Int))))]) [2,3,4,5,6,7,8,9,10,11,12,13,14,15,16,17,18,19,20,21,22,23,24,25] (fun(k:Nat)=>k<=s.size) (fun(k:Nat)=>s.size - k) (0) (by simp <;> rfl) ?_ ?_ ?_
 .simp
 .simp
 rintro k hk;simp only [aQ,aO];apply aE;refine bB fun _ _ Z=>?_;simp(disch:=omega);and_intros<;>(try omega);apply Z;refine zI ?_ ?_<;>intro c1<;>try simp at c1
 .apply jM;refine zk [0,3] ?_;refine mH ⟨[],[],[],[],[]⟩ fun all hall _ Z=>?_;have ga4:aN all 4=some 14:=hall 4;have ga10:aN all 10=some 20:=hall 10;refine zs 5 fun _ Y=>?_;simp(disch:=omega)[ga4,ga10];and_intros<;>(try omega);apply Y;refine zb 14 ?_ ?_<;>intro g2<;>try simp at g2
  .refine zs 6 fun _ Y=>?_;simp(disch:=omega)[ga4,ga10];apply Y;simp(disch:=omega)[ga4,ga10];apply Z;refine bA (t:=true) (by simp) (fun _=>?_) (fun h=>by cases h);refine zk [0,3] ?_;refine bB fun _ _ Z=>?_;simp(disch:=omega);apply Z;apply aC;simp [aH]
  refine zs 6 fun _ Y=>?_;simp(disch:=omega)[ga4,ga10];and_intros<;>(try omega);apply Y;refine zb 20 ?_ ?_<;>intro g3<;>try simp at g3
  .simp(disch:=omega)[ga4,ga10];apply Z;refine bA (t:=true) (by simp) (fun _=>?_) (fun h=>by cases h);refine zk [0,3] ?_;refine bB fun _ _ Z=>?_;simp(disch:=omega);apply Z;apply aC;simp [aH]
  simp(disch:=omega)[ga4,ga10];and_intros<;>(try omega);apply Z;refine zI ?_ ?_<;>intro c4<;>try simp at c4
  .refine zk [0,3] ?_;refine bB fun _ _ Z=>?_;simp(disch:=omega);apply Z;apply aC;simp [aH]
  apply mS;refine zk [0,3] ?_;refine pF fun _ _ Z=>?_;simp(disch:=omega);and_intros<;>(try omega);apply Z;refine zq (k+1) ?_ ?_ ?_
  .omega
  .try dsimp only
   omega
  simp(disch:=omega)
 apply zE;refine bB fun _ _ Z=>?_;simp(disch:=omega);and_intros<;>(try omega);apply Z;apply aC;simp [aH]
theorem Nw(s:ByteArray)(σ:List (List D))(hs:s.size<=9999):Ct prog 219 [D.str s] σ (fun r σ'=>(∃b:Bool,r=D.bool b)/\σ'=σ):=by
 refine zf func219 ?_;refine bB fun _ _ Z=>?_;simp(disch:=omega);apply Z;apply aE;refine bB fun _ _ Z=>?_;simp(disch:=omega);apply Z;apply aR;refine zk [0,2,3] ?_;refine aY (fun(k:Nat)=> [(3,.d (.v (.int .i64 (k:Int))))]) [2,3,4,5,6,7,8,9,10,11,12,13,14,15,16,17,18,19,20,21,22,23,24,25,26,27,28,29,30,31,32,33,34,35,36,37] (fun(k:Nat)=>k<=s.size) (fun(k:Nat)=>s.size - k) (0) (by simp <;> rfl) ?_ ?_ ?_
 .simp
 .simp
 rintro k hk;simp only [aQ,aO];apply aE;refine bB fun _ _ Z=>?_;simp(disch:=omega);and_intros<;>(try omega);apply Z;refine zI ?_ ?_<;>intro c1<;>try simp at c1
 .apply jM;refine zk [0,3] ?_;refine mH ⟨[],[],[],[],[]⟩ fun all hall _ Z=>?_;have ga4:aN all 4=some 14:=hall 4;have ga10:aN all 10=some 20:=hall 10;have ga16:aN all 16=some 26:=hall 16;have ga22:aN all 22=some 32:=hall 22;refine zs 5 fun _ Y=>?_;simp(disch:=omega)[ga4,ga10,ga16,ga22];and_intros<;>(try omega);apply Y;refine zb 14 ?_ ?_<;>intro g2<;>try simp at g2
  .refine zs 6 fun _ Y=>?_;simp(disch:=omega)[ga4,ga10,ga16,ga22];apply Y;refine zs 6 fun _ Y=>?_;simp(disch:=omega)[ga4,ga10,ga16,ga22];apply Y;refine zs 6 fun _ Y=>?_;simp(disch:=omega)[ga4,ga10,ga16,ga22];apply Y;simp(disch:=omega)[ga4,ga10,ga16,ga22];apply Z;refine bA (t:=true) (by simp) (fun _=>?_) (fun h=>by cases h);refine zk [0,3] ?_;refine bB fun _ _ Z=>?_;simp(disch:=omega);apply Z;apply aC;simp [aH]
  refine zs 6 fun _ Y=>?_;simp(disch:=omega)[ga4,ga10,ga16,ga22];and_intros<;>(try omega);apply Y;refine zb 20 ?_ ?_<;>intro g3<;>try simp at g3
  .refine zs 6 fun _ Y=>?_;simp(disch:=omega)[ga4,ga10,ga16,ga22];apply Y;refine zs 6 fun _ Y=>?_;simp(disch:=omega)[ga4,ga10,ga16,ga22];apply Y;simp(disch:=omega)[ga4,ga10,ga16,ga22];apply Z;refine bA (t:=true) (by simp) (fun _=>?_) (fun h=>by cases h);refine zk [0,3] ?_;refine bB fun _ _ Z=>?_;simp(disch:=omega);apply Z;apply aC;simp [aH]
  refine zs 6 fun _ Y=>?_;simp(disch:=omega)[ga4,ga10,ga16,ga22];and_intros<;>(try omega);apply Y;refine zb 26 ?_ ?_<;>intro g4<;>try simp at g4
  .refine zs 6 fun _ Y=>?_;simp(disch:=omega)[ga4,ga10,ga16,ga22];apply Y;simp(disch:=omega)[ga4,ga10,ga16,ga22];apply Z;refine bA (t:=true) (by simp) (fun _=>?_) (fun h=>by cases h);refine zk [0,3] ?_;refine bB fun _ _ Z=>?_;simp(disch:=omega);apply Z;apply aC;simp [aH]
  refine zs 6 fun _ Y=>?_;simp(disch:=omega)[ga4,ga10,ga16,ga22];and_intros<;>(try omega);apply Y;refine zb 32 ?_ ?_<;>intro g5<;>try simp at g5
  .simp(disch:=omega)[ga4,ga10,ga16,ga22];apply Z;refine bA (t:=true) (by simp) (fun _=>?_) (fun h=>by cases h);refine zk [0,3] ?_;refine bB fun _ _ Z=>?_;simp(disch:=omega);apply Z;apply aC;simp [aH]
  simp(disch:=omega)[ga4,ga10,ga16,ga22];and_intros<;>(try omega);apply Z;refine zI ?_ ?_<;>intro c6<;>try simp at c6
  .refine zk [0,3] ?_;refine bB fun _ _ Z=>?_;simp(disch:=omega);apply Z;apply aC;simp [aH]
  apply mS;refine zk [0,3] ?_;refine pF fun _ _ Z=>?_;simp(disch:=omega);and_intros<;>(try omega);apply Z;refine zq (k+1) ?_ ?_ ?_
  .omega
  .try dsimp only
   omega
  simp(disch:=omega)
 apply zE;refine bB fun _ _ Z=>?_;simp(disch:=omega);and_intros<;>(try omega);apply Z;apply aC;simp [aH]
theorem aO3(s:ByteArray)(σ:List (List D))(hs:s.size<=9999):Ct prog 173 [D.str s] σ (fun r σ'=>(∃b:Bool,r=D.bool b)/\σ'=σ):=by
 refine zf func173 ?_;refine bB fun _ _ Z=>?_;simp(disch:=omega);apply Z;refine mH ⟨[],[],[],[],[]⟩ fun all hall _ Z=>?_;have ga3:aN all 3=some 6:=hall 3;refine zs 4 fun _ Y=>?_;simp(disch:=omega)[ga3];and_intros<;>(try omega);apply Y;refine zb 6 ?_ ?_<;>intro g1<;>try simp at g1
 .simp(disch:=omega)[ga3];and_intros<;>(try omega);apply Z;apply aC;simp [aH]
 simp(disch:=omega)[ga3];apply Z;apply aC;simp [aH]
theorem aCl(q:Nat)(v:VN)(id:Int)(a0 a1 a2 a3 a4 a5 a6 a7 a8 a9 a10 a11 a12 a13 b0 b1 b2 b3 b4 b5 b6 b7 b8 b9 b10 b11:D)(σ:List (List D))(hq:σ[q]?=some [D.int id,a0,a1,a2,a3,a4,a5,a6,a7,a8,a9,a10,a11,a12,a13,b0,b1,b2,b3,b4,b5,b6,b7,b8,b9,b10,b11]):Ct prog 105 [.ref q 0,iX v] σ (fun r σ'=>r= .tup []/\σ'=σ.set q [D.int id,D.int v.kind,D.str v.tag,D.str v.key,D.str v.text,.sl false (v.classes.map D.str),.sl false (v.attrs.map dA),.sl false (v.styles.map cQ),D.int v.opts.enter,D.int v.opts.leave,D.int v.opts.move,D.int v.opts.mode,D.bool v.opts.appear,D.bool v.opts.moves,.sl false [],b0,b1,b2,b3,b4,b5,b6,b7,b8,b9,b10,b11]):=by
 refine zf func105 ?_;refine bB fun _ _ Z=>?_;simp(disch:=omega)[hq,aM hq];apply Z;refine bB fun _ _ Z=>?_;simp(disch:=omega)[hq,aM hq];apply Z;refine pF fun _ _ Z=>?_;simp(disch:=omega)[hq,aM hq];apply Z;simp [aH]
theorem aFd(q l:Nat)(v:VN)(x:LK)(id:Int)(kk d0 d1 d2 d3 d4 d5 d6 d7:D)(σ2:List (List D))(σ:List (List D))(hq:σ[q]?=some [D.int id,D.int v.kind,D.str v.tag,D.str v.key,D.str v.text,.sl false (v.classes.map D.str),.sl false (v.attrs.map dA),.sl false (v.styles.map cQ),D.int v.opts.enter,D.int v.opts.leave,D.int v.opts.move,D.int v.opts.mode,D.bool v.opts.appear,D.bool v.opts.moves,kk,D.int x.kind,D.int x.move,D.int x.DX,D.int x.DY,d0,d1,d2,d3,d4,d5,d6,d7])(h1:v.classes.length<=9999)(h2:v.attrs.length<=9999)(h3:v.styles.length<=9999)(hk:¬v.kind=1)(hd:Ct prog 55 [.ref l 0,D.int id,Ey (Nh x (qX v))] σ (fun r τ=>r=D.int 0/\τ=σ2)):Ct prog 32 [.ref q 0,.ref l 0] σ (fun r σ'=>r= .tup []/\σ'=σ2):=by
 refine zf func32 ?_;have how:Ey (qX v)= .agg [.sl false (v.classes.map D.str),.sl false (v.attrs.map dA),.sl false (v.styles.map cQ)]:=rfl;refine bB fun _ _ Z=>?_;simp(disch:=omega)[hq];apply Z;refine zI ?_ ?_<;>intro c1<;>try simp at c1
 .refine zk [0,1] ?_;refine ze ⟨[],[],[],[],[]⟩ [.op {},.op {},.op {},.op {},.op {rO:=true},.op {},.op {},.op {},.op {},.op {rO:=true},.op {},.op {},.op {},.op {},.op {rO:=true},.op {},.op {},.op {},.op {},.op {rO:=true},.op {},.op {},.op {},.op {},.op {rO:=true},.op {},.pure,.det] fun all hall _ Z=>?_;refine kF 8 fun _ Y=>?_;simp(disch:=omega)[hq];apply Y;refine kF 8 fun _ Y=>?_;simp(disch:=omega)[hq];apply Y;refine kF 8 fun _ Y=>?_;simp(disch:=omega)[hq];apply Y;refine kF 2 fun _ Y=>?_;simp(disch:=omega)[hq];apply Y;refine bY fun _ Y=>?_;simp(disch:=omega)[hq];refine wI (fun _=>(aRr x (qX v) _ h1 h2 h3)) ?_;apply Y;refine bY fun _ Y=>?_;simp(disch:=omega)[hq];refine zdd (hd) ?_;apply Y;simp only [uN];apply Z;simp [aH]
 exact absurd c1 hk
theorem aHa(q l:Nat)(v:VN)(x:LK)(id:Int)(kk d0 d1 d2 d3 d4 d5 d6 d7:D)(σ:List (List D))(hq:σ[q]?=some [D.int id,D.int v.kind,D.str v.tag,D.str v.key,D.str v.text,.sl false (v.classes.map D.str),.sl false (v.attrs.map dA),.sl false (v.styles.map cQ),D.int v.opts.enter,D.int v.opts.leave,D.int v.opts.move,D.int v.opts.mode,D.bool v.opts.appear,D.bool v.opts.moves,kk,D.int x.kind,D.int x.move,D.int x.DX,D.int x.DY,d0,d1,d2,d3,d4,d5,d6,d7])(hk:v.kind=1):Ct prog 32 [.ref q 0,.ref l 0] σ (fun r σ'=>r= .tup []/\σ'=σ):=by
 refine zf func32 ?_;refine bB fun _ _ Z=>?_;simp(disch:=omega)[hq];apply Z;refine zI ?_ ?_<;>intro c1<;>try simp at c1
 .exact absurd hk c1
 apply xN;simp [aH]
def tkR(l:List Int)(rd:Int->TN)(k:Nat):List TN:=(l.take k).map rd
theorem aXc(l:List Int)(rd:Int->TN):tkR l rd 0= []:=rfl
theorem aH9(l:List Int)(rd:Int->TN)(k:Nat)(h:k<l.length):tkR l rd (k+1)=tkR l rd k++ [rd l[k]]:=by unfold tkR;rw [bL l k h,cE];rfl
theorem aPh(l:List Int)(rd:Int->TN)(k:Nat):(tkR l rd k).length<=k:=by unfold tkR;rw [bQ,bG];omega
theorem aOx(l:List Int)(rd:Int->TN):tkR l rd l.length=l.map rd:=by unfold tkR;rw [dY]
def tnN(n:ND)(id:Int)(ks:List TN):TN:=⟨id,n.kind,n.tag,n.text,n.classes,n.attrs,n.styles,ks⟩
abbrev aBy(m:Nat)(c:Int)(t:TN)(σ:List (List D)):Prop:=Ct prog 33 [.ref m 0,D.int c] σ (fun r σ'=>r= .tup [rE t,D.int 0]/\σ'=σ)
theorem Vk(m M:Nat)(d:DS)(id:Int)(n:ND)(rd:Int->TN)(σ:List (List D))(ho:DO m M d σ)(hx:NB d.l)(hl:fP d.l id=true)(hn:aJ d.l id=n)(ih:∀c∈n.kids,aBy m c (rd c) σ):Ct prog 33 [.ref m 0,D.int id] σ (fun r σ'=>(r.plain=true/\r.strip= .tup [rE (tnN n id (n.kids.map rd)),D.int 0])/\σ'=σ):=by
 refine zf func33 ?_;have b1:=hx.fk id;have b2:=hx.fc id;have b3:=hx.fa id;have b4:=hx.fs id;rw [hn] at b1 b2 b3 b4;refine zr ⟨[50],[],[],[],[]⟩ fun _ _ Z=>?_;simp(disch:=omega)[hl,hn];apply Z;refine zr ⟨[50],[],[],[],[]⟩ fun _ _ Z=>?_;refine zs 2 fun _ Y=>?_;simp(disch:=omega)[hl,hn];apply Y;refine aF fun _ Y=>?_;simp(disch:=omega)[hl,hn];refine cT (aJb m M d id _ ho hx) ?_;apply Y;simp(disch:=omega)[hl,hn];apply Z;apply aE;refine zr ⟨[50],[],[],[],[]⟩ fun _ _ Z=>?_;simp(disch:=omega)[hl,hn];apply Z;refine zI ?_ ?_<;>intro c1<;>try simp at c1
 apply zA;refine zk [0,1,4,5,6] ?_;refine zr ⟨[50],[],[],[],[]⟩ fun _ _ Z=>?_;refine zs 8 fun _ Y=>?_;simp(disch:=omega)[hl,hn];apply Y;simp(disch:=omega)[hl,hn];apply Z;apply aE;refine zk [0,4,5,6,8] ?_;refine zr ⟨[50],[],[],[],[]⟩ fun _ _ Z=>?_;simp(disch:=omega)[hl,hn];and_intros<;>(try omega);apply Z;apply aR;refine zk [0,4,5,8,37,38,39] ?_;refine kI (fun(k:Nat)=> [(39,.d (.v (.int .i64 (k:Int)))),(10,.d (.any)),(43,.d (.any)),(12,.d (.any))]) (fun(k:Nat)=> [(2, [D.int id,D.int n.kind,D.str n.tag,D.str n.text,.sl false (n.classes.map D.str),.sl false (n.attrs.map dA),.sl false (n.styles.map cQ),.sl true ((tkR n.kids rd k).map Lu)])]) (fun(k:Nat)=> []) [10,11,12,39,40,41,42,43,44,45,46,47,48,49,50,51,52,53,54,55] (fun(k:Nat)=>k<=n.kids.length) (fun(k:Nat)=>n.kids.length - k) (0) (by simp <;> rfl) ?_ (by simp [aXc]) (by simp) ?_ ?_
 .simp
 .simp
 rintro k hk;simp only [aQ,aO,lE,jP,gD,fY];have htl:=aPh n.kids rd k;refine zr ⟨[50],[],[],[],[]⟩ fun _ _ Z=>?_;simp(disch:=omega)[hl,hn];apply Z;apply aE;refine zI ?_ ?_<;>intro c2<;>try simp at c2
 .apply jM;refine zr ⟨[50],[],[],[],[]⟩ fun _ _ Z=>?_;simp(disch:=omega)[hl,hn];and_intros<;>(try omega);apply Z;refine zk [0,4,5,8,10,12,37,38,39,43] ?_;refine zr ⟨[50],[],[],[],[]⟩ fun _ _ Z=>?_;refine zs 2 fun _ Y=>?_;simp(disch:=omega)[hl,hn];apply Y;refine aF fun _ Y=>?_;simp(disch:=omega)[hl,hn];refine cT (ih n.kids[k] (bS _)) ?_;apply Y;simp(disch:=omega)[hl,hn];apply Z;refine zk [0,4,5,8,10,11,12,37,38,39,43] ?_;refine zt ⟨[50],[],[],[],[]⟩ fun _ _ Z=>?_;simp(disch:=omega)[hl,hn];and_intros<;>(try omega);apply Z;apply zB;refine zk [0,4,5,8,10,12,37,38,39,43] ?_;refine zt ⟨[50],[],[],[],[]⟩ fun _ _ Z=>?_;simp(disch:=omega)[hl,hn];and_intros<;>(try omega);apply Z;refine fB (k+1) ?_ ?_ (dW rfl ?_ (by simp [aH9, *]) (by simp))
  .omega
  .try dsimp only
   omega
  simp(disch:=omega)[hl,hn]
 obtain rfl:k=n.kids.length:=by omega
 rw [aOx];apply zE;refine zr ⟨[50],[],[],[],[]⟩ fun _ _ Z=>?_;simp(disch:=omega)[hl,hn];apply Z;apply aC;simp [aH,tnN]
def oC(l:List ND):Nat->Int->TN
 | 0,id=>tnN (aJ l id) id []
 | f+1,id=>tnN (aJ l id) id ((aJ l id).kids.map (oC l f))
theorem aC0 {m M:Nat} {d:DS} {rk:Int->Nat} {σ:List (List D)} (ho:DO m M d σ)(hx:NB d.l)(hw:WT d.l rk):∀(f:Nat) (id:Int),rk id<=f->fP d.l id=true->aBy m id (oC d.l f id) σ
 | 0, id, hf, hl => by
  have hk:(aJ d.l id).kids= []:=by
   cases e:(aJ d.l id).kids with
   | nil=>rfl
   | cons c cs=>
    have:=hw.Dec id c (by rw [e];exact dH);omega
  have:=(Vk m M d id (aJ d.l id) (fun c=>oC d.l 0 c) σ ho hx hl rfl fun c hc=>by rw [hk] at hc;cases hc).strip (Q':=fun r σ'=>r= .tup [rE (oC d.l 0 id),D.int 0]/\σ'=σ) fun r σ' h=>⟨h.1.1,by rw [h.1.2,hk];rfl,h.2⟩;exact this
 | f + 1, id, hf, hl => by
  have:=(Vk m M d id (aJ d.l id) (fun c=>oC d.l f c) σ ho hx hl rfl fun c hc=>aC0 ho hx hw f c (by have:=hw.Dec id c hc;omega) (by
   obtain⟨n,n1,n2,n3⟩:=eX hl;rw [n3] at hc;obtain⟨c2,e1,e2, -⟩:=hw.kids n n1 c hc;unfold fP kU;rw [List.find?_isSome];exact⟨c2,e1,by simpa using e2⟩)).strip (Q':=fun r σ'=>r= .tup [rE (oC d.l (f+1) id),D.int 0]/\σ'=σ) fun r σ' h=>⟨h.1.1,h.1.2,h.2⟩
  exact this
def Au(t:TN):TN:=⟨0,t.kind,t.tag,t.text,t.classes,t.attrs,t.styles,t.kids.attach.map fun k=>Au k.1⟩
termination_by SizeOf.sizeOf t
decreasing_by
 have h:=mI k.2;cases t;simp at h |-;omega
theorem yJ(t:TN):Au t=⟨0,t.kind,t.tag,t.text,t.classes,t.attrs,t.styles,t.kids.map Au⟩:=by rw [Au];simp
theorem Oi(t:TN):Au (Au t)=Au t:=by
 rw [yJ t,yJ];simp only [TN.mk.injEq,sG,eA];exact cW fun k hk=>Oi k
termination_by rV t
decreasing_by
 have:=uL hk;omega
theorem Vz:∀(a b:TN),TB a->Au a=Au b->aSa a b
 | a, b, hA, h => by
  rw [yJ a,yJ b] at h;simp only [TN.mk.injEq,sG] at h;obtain⟨e1,e2,e3,e4,e5,e6,e7⟩:=h;have hl:b.kids.length=a.kids.length:=by have:=congrArg List.length e7;simpa using this.symm
  have hb:b= { a with ID:=b.ID,kids:=b.kids } :=by
   cases b;simp at e1 e2 e3 e4 e5 e6;simp [e1,e2,e3,e4,e5,e6]
  rw [hb];exact fun σ=>aM0 a b.ID b.kids σ hA.s hl fun j h1 h2=>Vz a.kids[j] b.kids[j] (hA.k _ (bS h1)) (by
   have:=congrArg (fun l=>l[j]?) e7;simpa [h1,h2] using this)
termination_by a=>rV a
decreasing_by
 have:=uL (bS h1);omega
inductive TK:VN->Prop
 | mk (v:VN) (h:v.kind=1->v.kids= []) (hk:∀k∈v.kids,TK k):TK v
theorem TK.t (h:TK v):v.kind=1->v.kids= []:=by cases h;assumption
theorem TK.k (h:TK v):∀k∈v.kids,TK k:=by cases h;assumption
theorem Ot {l:List ND} :∀(v:VN) (f:Nat) (i par:Int),TK v->cB v<=f+1->(∀n∈jA i par v,aJ l n.ID=n)->Au (oC l f i)=Rq v
 | v, f, i, par, ht, hf, hl => by
  have hroot:aJ l i=wT i par v (iD (i+1) v.kids):=by
   have:=hl (wT i par v (iD (i+1) v.kids)) (by rw [nE];exact dH)
   rwa [kH] at this
  have hkid:∀(g:Nat) (ks:List VN) (i':Int),(∀k∈ks,k∈v.kids/\cB k<=g+1)->(∀n∈nZ i' i ks,aJ l n.ID=n)->(iD i' ks).map (fun c=>Au (oC l g c))=ks.map Rq:=by
   intro g ks;induction ks with
   | nil=>intro i' _ _;rfl
   | cons k ks ih=>
    intro i' h1 h2;rw [tE] at h2;have hkv:=(h1 k dH).1;simp only [iD,cC];rw [Ot k g i' i (ht.k k hkv) (h1 k dH).2 fun n hn=>h2 n (gE _ hn),ih _ (fun x hx=>h1 x (eV _ hx)) fun n hn=>h2 n (pA _ hn)]
  have hgk:∀n∈nZ (i+1) i v.kids,aJ l n.ID=n:=fun n hn=>hl n (by rw [nE];exact eV _ hn);have key:∀ks:List TN,ks.map Au=v.kids.map Rq->Au (tnN (wT i par v (iD (i+1) v.kids)) i ks)=Rq v:=by
   intro ks hks;rw [yJ,Tl];unfold tnN wT;by_cases hk:v.kind=1
   .rw [ht.t hk] at hks;have:ks= []:=by simpa using hks
    rw [aK hk,aK hk,this];rfl
   rw [aD hk,aD hk];simp only [TN.mk.injEq,sG];exact hks
  cases f with
  | zero =>
   have hn:v.kids= []:=by
    have:=jV v;exact sB.1 (by omega)
   simp only [oC];rw [hroot];exact key [] (by rw [hn];rfl)
  | succ g=>
   simp only [oC];rw [hroot];refine key _ ?_;rw [wU,eA];exact hkid g v.kids (i+1) (fun k hk=>⟨hk,by have:=dQ hk;omega⟩) hgk
termination_by v=>cB v
decreasing_by
 have:=dQ hkv;omega
end Go.Proofs.YtbgfljpnhhdkoaaGreat
