import Derived.Test.YtbgfljpnhhdkoaaGreatWkVi7
set_option linter.all false
set_option maxRecDepth 20000
set_option maxHeartbeats 8000000
open Go.Proofs.Tryz
namespace Go.Proofs.YtbgfljpnhhdkoaaGreat
open Go Go.Vm
variable {v:VN}
structure TN where
 ID:Int
 kind:Int
 tag:ByteArray
 text:ByteArray
 classes:(List ByteArray)
 attrs:(List AT)
 styles:(List PI)
 kids:(List TN)
def aEi(s:TN):D:= .agg [.v (.int .i64 s.ID),.v (.int .i64 s.kind),.v (.string s.tag),.v (.string s.text),.sl false (s.classes.map D.str),.sl false (s.attrs.map cY),.sl false (s.styles.map cQ),.sl false (s.kids.attach.map fun k=>aEi k.1)]
termination_by SizeOf.sizeOf s
decreasing_by
 have h:=uQ k.2;cases s;simp at h |-;omega
@[simp] abbrev aKx(s:TN):D:= .agg [.v (.int .i64 s.ID),.v (.int .i64 s.kind),.v (.string s.tag),.v (.string s.text),.sl false (s.classes.map D.str),.sl false (s.attrs.map cY),.sl false (s.styles.map cQ),.sl false (s.kids.map aEi)]
@[simp] abbrev aZm(s:TN):D:= .agg [.v (.int .i64 s.ID),.v (.int .i64 s.kind),.v (.string s.tag),.v (.string s.text),.sl true (s.classes.map D.str),.sl true (s.attrs.map cY),.sl true (s.styles.map cQ),.sl true (s.kids.map aEi)]
@[simp] theorem aWu(s:TN):aEi s=aKx s:=by rw [aEi];simp
abbrev TSz(t:TN):Prop:=t.classes.length<=9999/\t.attrs.length<=9999/\t.styles.length<=9999/\t.kids.length<=9999
inductive TB:TN->Prop
 | mk (t:TN) (h:TSz t) (hk:∀k∈t.kids,TB k):TB t
theorem TB.s {t:TN} (h:TB t):TSz t:=by cases h;assumption
theorem TB.k {t:TN} (h:TB t):∀k∈t.kids,TB k:=by cases h;assumption
inductive VB:VN->Prop
 | mk (v:VN) (h:VSz v) (hk:∀k∈v.kids,VB k):VB v
theorem VB.s (h:VB v):VSz v:=by cases h;assumption
theorem VB.k (h:VB v):∀k∈v.kids,VB k:=by cases h;assumption
theorem VG.b:∀ {v:VN},VG v->cJ v<=9999->VB v
 | v,h,hc=> .mk v (h.sz hc) fun k hk=>VG.b (h.k k hk) (by have:=eL hk;omega)
termination_by v=>cJ v
decreasing_by
 have:=eL hk;omega
theorem Bu(v:VN):v=txt v v.text:=by cases v;rfl
theorem aI7 {o:List VN} {k x:VN} (h:x∈nM o k):∃y,(y∈o\/y=k)/\∃s,x=txt y s:=by
 unfold nM at h;have hq:x∈o++ [k]->∃y,(y∈o\/y=k)/\∃s,x=txt y s:=fun h=>by
  rcases bR.1 h with h | h
  .exact⟨x,.inl h,x.text,Bu x⟩
  exact⟨k,.inr rfl,k.text,by rw [fK.1 h];exact Bu k⟩
 split at h
 .rename_i p hp;split at h
  .rcases Nv h with h | h
   .exact⟨x,.inl h,x.text,Bu x⟩
   exact⟨p,.inl (List.mem_of_getLast? hp),_,h⟩
  exact hq h
 exact hq h
theorem aCy {l:List VN} {x:VN} (h:x∈iA l):∃y∈l,∃s,x=txt y s:=by
 have:∀(l o:List VN),x∈l.foldl nM o->∃y,(y∈o\/y∈l)/\∃s,x=txt y s:=by
  intro l;induction l with
  | nil=>intro o h;exact⟨x,.inl h,x.text,Bu x⟩
  | cons a l ih =>
   intro o h;obtain⟨y,hy,s,e⟩:=ih _ h;rcases hy with hy | hy
   .obtain⟨z,hz,s2,e2⟩:=aI7 hy;rcases hz with hz | rfl
    .exact⟨z,.inl hz,s,by rw [e,e2];rfl⟩
    exact⟨z,.inr dY,s,by rw [e,e2];rfl⟩
   exact⟨y,.inr (fW _ hy),s,e⟩
 obtain⟨y,hy,h2⟩:=this l [] h;rcases hy with hy | hy
 .cases hy
 exact⟨y,hy,h2⟩
theorem VB.txt (h:VB v)(s:ByteArray):VB (txt v s):= .mk _ h.s h.k
theorem aOi(v:VN)(s:ByteArray):cJ (txt v s)=cJ v:=by rw [jI,jI v];rfl
theorem aB2:∀(o:List VN) (i:Nat) (x:VN) (h:i<o.length),cJ x=cJ o[i]->((o.set i x).map cJ).sum=(o.map cJ).sum
 | a::o,0,x,_,e=>by simp at e;simp [e]
 | a::o,i+1,x,h,e=>by
  have:=aB2 o i x (by simpa using h) (by simpa using e);simp only [iQ,cE,iX,this]
theorem aHb(o:List VN)(k:VN):((nM o k).map cJ).sum<=(o.map cJ).sum+cJ k:=by
 unfold nM;split
 .rename_i p hp;split
  .rw [Ff] at hp;obtain⟨h1,h2⟩:=aN.1 hp;rw [aB2 o _ _ h1 (by rw [aOi,h2])];omega
  simp
 simp
theorem aF3(l:List VN):((iA l).map cJ).sum<=(l.map cJ).sum:=by
 have:∀(l o:List VN),((l.foldl nM o).map cJ).sum<=(o.map cJ).sum+(l.map cJ).sum:=by
  intro l;induction l with
  | nil=>intro o;simp
  | cons a l ih=>
   intro o;have h1:=ih (nM o a);have h2:=aHb o a;simp only [dM,cE,iX];omega
 have:=this l [];simpa [iA] using this
theorem Xs(l:List VN)(p:VN->Bool):((l.filter p).map cJ).sum<=(l.map cJ).sum:=by
 induction l with
 | nil=>simp
 | cons a l ih=>
  by_cases h:p a=true
  .rw [pY h];simp;omega
  rw [rX h];simp;omega
theorem aG0 {α:Type} (f g:α->Nat):∀(l:List α),(∀x∈l,f x<=g x)->(l.map f).sum<=(l.map g).sum
 | [],_=>by simp
 | a::l,h=>by
  have:=aG0 f g l fun x hx=>h x (fW _ hx);have:=h a dY;simp;omega
theorem Cp(v:VN):cJ (fN v)<=cJ v:=by
 rw [jI,jI v,lT];show 1+((iA ((v.kids.map fN).filter kI)).map cJ).sum<=_
 have h1:=aF3 ((v.kids.map fN).filter kI);have h2:=Xs (v.kids.map fN) kI;rw [fJ] at h2;have h3:=aG0 (cJ ∘ fN) cJ v.kids fun x hx=>Cp x;omega
termination_by cJ v
decreasing_by
 have:=eL hx;omega
structure LK where
 kind:Int
 move:Int
 DX:Int
 DY:Int
 deriving DecidableEq
@[simp] abbrev aAj(s:LK):D:= .agg [.v (.int .i64 s.kind),.v (.int .i64 s.move),.v (.int .i64 s.DX),.v (.int .i64 s.DY)]
def aVx:ByteArray:=⟨#[116,45,119,97,105,116]⟩
def aW4:ByteArray:=⟨#[116,45,101,110,116,101,114,45,102,114,111,109]⟩
def aU0:ByteArray:=⟨#[116,45,101,110,116,101,114,45,97,99,116,105,118,101]⟩
def aW9:ByteArray:=⟨#[116,45,101,110,116,101,114,45,116,111]⟩
def aVu:ByteArray:=⟨#[116,45,104,111,108,100]⟩
def aXj:ByteArray:=⟨#[116,45,108,101,97,118,101,45,102,114,111,109]⟩
def aU2:ByteArray:=⟨#[116,45,108,101,97,118,101,45,97,99,116,105,118,101]⟩
def aXd:ByteArray:=⟨#[116,45,108,101,97,118,101,45,116,111]⟩
def aWa:ByteArray:=⟨#[116,45,109,111,118,101]⟩
def aIm:ByteArray:=⟨#[116,45,103,104,111,115,116]⟩
def mDx:ByteArray:=⟨#[116,45,100,120]⟩
def mDy:ByteArray:=⟨#[116,45,100,121]⟩
def aBv(x:LK):Bool:=decide (x.kind=5) || decide (x.kind=6)
def Ji(x:LK):Bool:=decide (x.kind=4) || aBv x
def rH(x:LK):Ls:=if x.kind=1 then [aVx] else if x.kind=2 then [aW4,aU0] else if x.kind=3 then [aU0,aW9] else if x.kind=4 then [aVu] else if x.kind=5 then [aXj,aU2] else if x.kind=6 then [aU2,aXd] else []
def pC(x:LK):Ls:=if x.move=0 then rH x else rH x++ [aWa]
theorem Jl(x:LK):(rH x).length<=2:=by unfold rH;(repeat' split) <;> simp
theorem Rr(x:LK):(pC x).length<=3:=by unfold pC;have:=Jl x;split <;> simp <;> omega
theorem aPa(x:LK)(σ:List (List D))  :Ct prog 223 [aAj x] σ (fun r σ'=>r= .bool (aBv x)/\σ'=σ):=by
 refine zf func223 ?_;refine bF fun _ _ Z=>?_;simp;apply Z;refine mK ⟨[],[],[],[],[]⟩ fun all hall _ Z=>?_;have ga3:aO all 3=some 6:=hall 3;refine zs 4 fun _ Y=>?_;simp[ga3];apply Y;refine zb 6 ?_ ?_<;>intro g1<;>try simp at g1
 .simp[ga3];apply Z;apply aC;simp [aH,aBv, *]
 simp[ga3];apply Z;apply aC;simp [aH,aBv, *]
theorem aMs(x:LK)(σ:List (List D))  :Ct prog 181 [aAj x] σ (fun r σ'=>r= .bool (Ji x)/\σ'=σ):=by
 refine zf func181 ?_;refine bF fun _ _ Z=>?_;simp;apply Z;refine mK ⟨[],[],[],[],[]⟩ fun all hall _ Z=>?_;have ga3:aO all 3=some 6:=hall 3;refine zs 4 fun _ Y=>?_;simp[ga3];apply Y;refine zb 6 ?_ ?_<;>intro g1<;>try simp at g1
 .simp[ga3];apply Z;apply aC;simp [aH,Ji, *]
 refine zs 1 fun _ Y=>?_;simp[ga3];apply Y;refine zg ga3 fun _ Y=>?_;simp[ga3];refine cU (aPa x _) ?_;apply Y;simp[ga3];apply Z;apply aC;simp [aH,Ji, *]
theorem aG4(x:LK)(σ:List (List D))  :Ct prog 222 [aAj x] σ (fun r σ'=>r= .sl true ((rH x).map D.str)/\σ'=σ):=by
 refine zf func222 ?_;refine zr ⟨[2],[],[],[],[]⟩ fun _ _ Z=>?_;simp(disch:=omega)[gC];apply Z;apply aE;refine zr ⟨[2],[],[],[],[]⟩ fun _ _ Z=>?_;simp(disch:=omega)[gC];apply Z;apply aR;refine zr ⟨[2],[],[],[],[]⟩ fun _ _ Z=>?_;simp(disch:=omega)[gC];apply Z;refine zI ?_ ?_<;>intro c1<;>try simp at c1
 .refine zr ⟨[2],[],[],[],[]⟩ fun _ _ Z=>?_;simp(disch:=omega)[gC];and_intros<;>(try omega);apply Z;apply aC;simp [aH,rH, *];first | done | rfl | exact⟨rfl,rfl⟩ | exact⟨rfl,rfl,rfl⟩
 refine zr ⟨[2],[],[],[],[]⟩ fun _ _ Z=>?_;simp(disch:=omega)[gC];apply Z;refine zI ?_ ?_<;>intro c2<;>try simp at c2
 .refine zr ⟨[2],[],[],[],[]⟩ fun _ _ Z=>?_;simp(disch:=omega)[gC];and_intros<;>(try omega);apply Z;apply aC;simp [aH,rH, *];first | done | rfl | exact⟨rfl,rfl⟩ | exact⟨rfl,rfl,rfl⟩
 refine zr ⟨[2],[],[],[],[]⟩ fun _ _ Z=>?_;simp(disch:=omega)[gC];apply Z;refine zI ?_ ?_<;>intro c3<;>try simp at c3
 .refine zr ⟨[2],[],[],[],[]⟩ fun _ _ Z=>?_;simp(disch:=omega)[gC];and_intros<;>(try omega);apply Z;apply aC;simp [aH,rH, *];first | done | rfl | exact⟨rfl,rfl⟩ | exact⟨rfl,rfl,rfl⟩
 refine zr ⟨[2],[],[],[],[]⟩ fun _ _ Z=>?_;simp(disch:=omega)[gC];apply Z;refine zI ?_ ?_<;>intro c4<;>try simp at c4
 .refine zk [2] ?_;refine zr ⟨[2],[],[],[],[]⟩ fun _ _ Z=>?_;simp(disch:=omega)[gC];and_intros<;>(try omega);apply Z;apply aC;simp [aH,rH, *];first | done | rfl | exact⟨rfl,rfl⟩ | exact⟨rfl,rfl,rfl⟩
 refine zk [2,4] ?_;refine zr ⟨[2],[],[],[],[]⟩ fun _ _ Z=>?_;simp(disch:=omega)[gC];apply Z;refine zI ?_ ?_<;>intro c5<;>try simp at c5
 .refine zr ⟨[2],[],[],[],[]⟩ fun _ _ Z=>?_;simp(disch:=omega)[gC];and_intros<;>(try omega);apply Z;apply aC;simp [aH,rH, *];first | done | rfl | exact⟨rfl,rfl⟩ | exact⟨rfl,rfl,rfl⟩
 refine zr ⟨[2],[],[],[],[]⟩ fun _ _ Z=>?_;simp(disch:=omega)[gC];apply Z;refine zI ?_ ?_<;>intro c6<;>try simp at c6
 .refine zr ⟨[2],[],[],[],[]⟩ fun _ _ Z=>?_;simp(disch:=omega)[gC];and_intros<;>(try omega);apply Z;apply aC;simp [aH,rH, *];first | done | rfl | exact⟨rfl,rfl⟩ | exact⟨rfl,rfl,rfl⟩
 apply nS;refine zr ⟨[2],[],[],[],[]⟩ fun _ _ Z=>?_;simp(disch:=omega)[gC];apply Z;apply aC;simp [aH,rH, *];first | done | rfl | exact⟨rfl,rfl⟩ | exact⟨rfl,rfl,rfl⟩
@[simp] abbrev q39_1:Cfg:=⟨[2,3,9,12],[],[],[],[]⟩
theorem Wd(x:LK)(σ:List (List D))  :Ct prog 180 [aAj x] σ (fun r σ'=>r= .sl true ((pC x).map D.str)/\σ'=σ):=by
 refine zf func180 ?_;have hml:=Jl x;refine zr q39_1 fun _ _ Z=>?_;simp(disch:=omega);apply Z;refine zr q39_1 fun _ _ Z=>?_;refine zs 1 fun _ Y=>?_;simp(disch:=omega);apply Y;refine aF fun _ Y=>?_;simp(disch:=omega);refine cU (aG4 x _) ?_;apply Y;simp(disch:=omega);apply Z;apply aE;refine zr q39_1 fun _ _ Z=>?_;simp(disch:=omega);apply Z;refine zI ?_ ?_<;>intro c1<;>try simp at c1
 .refine zt q39_1 fun _ _ Z=>?_;simp(disch:=omega);and_intros<;>(try omega);apply Z;apply fV;refine zk [2,3] ?_;refine zr q39_1 fun _ _ Z=>?_;simp(disch:=omega);apply Z;apply aC;simp [aH,pC, *];first | done | rfl
 apply zA;refine zr q39_1 fun _ _ Z=>?_;simp(disch:=omega);apply Z;apply aC;simp [aH,pC, *];first | done | rfl
@[simp] abbrev q39_2:Cfg:=⟨[0,4,25,26],[],[],[],[10,12,19,20,22,24,25]⟩
theorem aEv(n:Nat)(σ:List (List D))(hn:n<=1000000):Ct prog 221 [.v (.slice none 0 0),D.int n] σ (fun r σ'=>vU 1 [] r/\σ'=σ):=by
 refine zf func221 ?_;refine zr q39_2 fun _ _ Z=>?_;simp(disch:=first|omega|assumption);apply Z;apply aE;refine zr q39_2 fun _ _ Z=>?_;simp(disch:=first|omega|assumption);apply Z;refine zI ?_ ?_<;>intro c1<;>try simp at c1
 .exfalso;omega
 apply zA;apply aE;refine zr q39_2 fun _ _ Z=>?_;simp(disch:=first|omega|assumption);and_intros<;>try first|omega|exact rfl
 apply Z;refine zr q39_2 fun _ _ Z=>?_;simp(disch:=first|omega|assumption);apply Z;refine zI ?_ ?_<;>intro c2<;>try simp at c2
 .refine zk [0,1,4] ?_;refine zt q39_2 fun _ _ Z=>?_;refine zs 8 fun _ Y=>?_;simp(disch:=first|omega|assumption);and_intros<;>try first|omega|exact rfl
  apply Y;simp(disch:=first|omega|assumption);and_intros<;>try first|omega|exact rfl
  apply Z;apply fV;refine zk [0,4] ?_;refine zr q39_2 fun _ _ Z=>?_;simp(disch:=first|omega|assumption);apply Z;apply aC;simp [aH,vU]
 apply zA;refine zk [0,4] ?_;refine zr q39_2 fun _ _ Z=>?_;simp(disch:=first|omega|assumption);apply Z;apply aC;simp [aH,vU]
theorem aL0(n:Nat)(σ:List (List D))(hn:n<=1000000):Ct prog 221 [.v (.slice none 0 0),D.int n] σ (fun r σ'=>r= .xs 1 []/\σ'=σ):=(aEv n σ hn).toX fun _ _ h=>h
def Ah(a b:Ls)(k:Nat):Ls:=if k=0 then [] else if k=1 then a else a++b
theorem Vf(a b:Ls)(k:Nat):(Ah a b k).length<=a.length+b.length:=by
 unfold Ah;(repeat' split) <;> simp
def atK(a b:Ls)(k:Nat):Ls:=if k=0 then a else b
theorem aB8(a b:Ls)(k:Nat):(atK a b k).length<=a.length+b.length:=by unfold atK;split <;> omega
theorem aN2(a b:Ls)(k:Nat):k<2->([D.sl false (a.map D.str),D.sl false (b.map D.str)][k]?).getD D.any= .sl false ((atK a b k).map D.str):=by
 intro h
 match k,h with
 | 0,_=>rfl
 | 1,_=>rfl
theorem Mx {a b:Ls} {k:Nat} (h:k<2):Ah a b (k+1)=Ah a b k++atK a b k:=by
 match k,h with
 | 0,_=>simp [Ah,atK]
 | 1,_=>simp [Ah,atK]
theorem aHo {a b:Ls} {k:Nat} (h:k<2):(Ah a b (k+1)).length=(Ah a b k).length+(atK a b k).length:=by rw [Mx h,aY]
@[simp] abbrev q39_3:Cfg:=⟨[2,6,24,31,33,35],[],[],[33],[]⟩
theorem Su(a b:Ls)(σ:List (List D))(ha:a.length<=99999)(hb:b.length<=99999):Ct prog 179 [.sl false [.sl false (a.map D.str),.sl false (b.map D.str)]] σ (fun r σ'=>r= .xs 1 ((a++b).map D.str)/\σ'=σ):=by
 refine zf func179 ?_;have hget:=aN2 a b;refine zr q39_3 fun _ _ Z=>?_;simp(disch:=first|omega|assumption)[hget];apply Z;refine zr q39_3 fun _ _ Z=>?_;simp(disch:=first|omega|assumption)[hget];apply Z;apply aE;refine zr q39_3 fun _ _ Z=>?_;simp(disch:=first|omega|assumption)[hget];and_intros<;>try first|omega|exact rfl
 apply Z;apply aR;refine zk [0,2,3,9,10,11] ?_;refine bA (fun(k:Nat)=> [(11,.d (.v (.int .i64 (k:Int)))),(3,.d (.int (((Ah a b k).length:Nat):Int))),(5,.d (.any))]) [3,5,11,12,13,14,15,16,17,18,19,20,21,22] (fun(k:Nat)=>k<=2) (fun(k:Nat)=>2 - k) (0) (by simp <;> rfl) ?_ ?_ ?_
 .simp [Ah]
 .simp
 rintro k hk;simp only [aQ,aP];have hqs:=Vf a b k;have hql:=aB8 a b k;refine zr q39_3 fun _ _ Z=>?_;simp(disch:=first|omega|assumption)[hget];apply Z;apply aE;refine zI ?_ ?_<;>intro c1<;>try simp at c1
 .have hsu:=aHo (a:=a) (b:=b) (k:=k) (by omega);apply kP;refine zr q39_3 fun _ _ Z=>?_;simp(disch:=first|omega|assumption)[hget];and_intros<;>try first|omega|exact rfl
  apply Z;refine zr q39_3 fun _ _ Z=>?_;simp(disch:=first|omega|assumption)[hget];and_intros<;>try first|omega|exact rfl
  apply Z;refine zk [0,2,3,5,9,10,11] ?_;refine zr q39_3 fun _ _ Z=>?_;simp(disch:=first|omega|assumption)[hget];apply Z;refine zI ?_ ?_<;>intro c2<;>try simp at c2
  .exfalso;omega
  apply nS;refine zt q39_3 fun _ _ Z=>?_;simp(disch:=first|omega|assumption)[hget];and_intros<;>try first|omega|exact rfl
  apply Z;refine zq (k+1) ?_ ?_ ?_
  .omega
  .try dsimp only
   omega
  simp(disch:=first|omega|assumption)[hget,hsu]
 obtain rfl:k=2:=by omega
 have h2:(Ah a b 2).length=a.length+b.length:=by simp [Ah]
 rw [h2];apply zE;refine zr q39_3 fun _ _ Z=>?_;refine zs 1 fun _ Y=>?_;simp(disch:=first|omega|assumption)[hget];apply Y;refine aF fun _ Y=>?_;simp(disch:=first|omega|assumption)[hget];refine cU (aL0 (a.length+b.length) _ (by omega)) ?_;apply Y;simp(disch:=first|omega|assumption)[hget];apply Z;apply aE;refine zr q39_3 fun _ _ Z=>?_;simp(disch:=first|omega|assumption)[hget];and_intros<;>try first|omega|exact rfl
 apply Z;apply aR;refine zk [2,6,25,26,27] ?_;refine bA (fun(k:Nat)=> [(27,.d (.v (.int .i64 (k:Int)))),(6,.d (.xs 1 ((Ah a b k).map D.str))),(8,.d (.any))]) [6,8,27,28,29,30,31,32,33,34] (fun(k:Nat)=>k<=2) (fun(k:Nat)=>2 - k) (0) (by simp <;> rfl) ?_ ?_ ?_
 .simp [Ah]
 .simp
 rintro k hk;simp only [aQ,aP];have hqs:=Vf a b k;have hql:=aB8 a b k;refine zr q39_3 fun _ _ Z=>?_;simp(disch:=first|omega|assumption)[hget];apply Z;apply aE;refine zI ?_ ?_<;>intro c3<;>try simp at c3
 .have hnx:=Mx (a:=a) (b:=b) (k:=k) (by omega);apply kP;refine zr q39_3 fun _ _ Z=>?_;simp(disch:=first|omega|assumption)[hget];and_intros<;>try first|omega|exact rfl
  apply Z;refine zt q39_3 fun _ _ Z=>?_;simp(disch:=first|omega|assumption)[hget];and_intros<;>try first|omega|exact rfl
  apply Z;apply zB;refine zk [2,6,8,25,26,27] ?_;refine zt q39_3 fun _ _ Z=>?_;simp(disch:=first|omega|assumption)[hget];and_intros<;>try first|omega|exact rfl
  apply Z;refine zq (k+1) ?_ ?_ ?_
  .omega
  .try dsimp only
   omega
  simp(disch:=first|omega|assumption)[hget,hnx]
 obtain rfl:k=2:=by omega
 apply zE;refine zr q39_3 fun _ _ Z=>?_;simp(disch:=first|omega|assumption)[hget];apply Z;apply aC;simp [aH,Ah]
theorem Yk(a b:Ls)(σ:List (List D))(ha:a.length<=99999)(hb:b.length<=99999):Ct prog 179 [.sl false [.sl false (a.map D.str),.sl false (b.map D.str)]] σ (fun r σ'=>r= .sl false ((a++b).map D.str)/\σ'=σ):=(Su a b σ ha hb).freeze fun r σ' h=>h
def aDn(x:LK)(o:OW):List AT:=if Ji x=true then fQ nA (iB nA o.attrs) ⟨aIm,⟨#[]⟩⟩else iB nA o.attrs
def aDt(x:LK)(o:OW):List PI:=if x.move=1 then fQ nP (fQ nP (iB nP o.styles) ⟨mDx,x.DX⟩) ⟨mDy,x.DY⟩else iB nP o.styles
def Me(x:LK)(o:OW):OW:=⟨bV (o.classes++pC x),aDn x o,aDt x o⟩
theorem aUb(N:Nat)(o:OW):Sc N (El o):=Sc.agg fun d hd=>by
 simp only [bN,iK,iH] at hd;rcases hd with rfl | rfl | rfl
 .exact Sc.sl (Sc.map fun a=>Zk _ a)
 .exact Sc.sl (Sc.map fun a=>Zd _ a)
 exact Sc.sl (Sc.map fun a=>Yq _ a)
theorem aHu(x:LK)(o:OW)(σ:List (List D))(h1:o.classes.length<=9999)(h2:o.attrs.length<=9999)(h3:o.styles.length<=9999):Ct prog 95 [aAj x,El o] σ (fun r σ'=>(r.plain=true/\r.strip=El (Me x o))/\∃J,σ'=σ++J):=by
 refine zf func95 ?_;have hcl:=Rr x;have ha:=jC nA o.attrs;have hp:=jC nP o.styles;have hsa:=gK nA o.attrs;have hsp:=gK nP o.styles;have hpl:=Cy nP (iB nP o.styles) ⟨mDx,x.DX⟩;refine zr ⟨[],[],[5],[],[]⟩ fun _ _ Z=>?_;simp(disch:=omega)[aJ,aG,gC];apply Z;refine zd ⟨[],[],[5],[],[]⟩ [.op {},.op {rL:=true},.op {rL:=true},.pure,.op {},.pure,.pure,.op {},.op {rL:=true},.pure,.op {},.op {rL:=true},.pure,.op {},.op {rO:=true,wO:=true},.op {rO:=true,wO:=true}] fun all hall _ Z=>?_;refine lN 3 fun _ Y=>?_;simp(disch:=omega)[aJ,aG,gC];apply Y;refine cK fun _ Y=>?_;simp(disch:=omega)[aJ,aG,gC];refine zW (fun _=>(Wd x _)) ?_;apply Y;refine lN 1 fun _ Y=>?_;simp(disch:=omega)[aJ,aG,gC];and_intros<;>(try omega);apply Y;refine cK fun _ Y=>?_;simp(disch:=omega)[aJ,aG,gC];refine zW (fun _=>(Yk o.classes (pC x) _ (by omega) (by omega))) ?_;apply Y;refine cK fun _ Y=>?_;simp(disch:=omega)[aJ,aG,gC];refine zW (fun _=>(Bx (o.classes++pC x) _ (by simp;omega))) ?_;apply Y;refine lN 2 fun _ Y=>?_;simp(disch:=omega)[aJ,aG,gC];apply Y;refine cK fun _ Y=>?_;simp(disch:=omega)[aJ,aG,gC];refine zW (fun _=>(aB7 o.attrs _ (by omega))) ?_;apply Y;refine lN 2 fun _ Y=>?_;simp(disch:=omega)[aJ,aG,gC];apply Y;refine cK fun _ Y=>?_;simp(disch:=omega)[aJ,aG,gC];refine zW (fun _=>(aBz o.styles _ (by omega))) ?_;apply Y;simp(disch:=omega)[aJ,aG,gC];and_intros<;>(try omega);apply Z;apply aE;refine zk [2,4,5] ?_;refine zr ⟨[],[],[5],[],[]⟩ fun _ _ Z=>?_;refine zs 1 fun _ Y=>?_;simp(disch:=omega)[aJ,aG,gC];apply Y;refine aF fun _ Y=>?_;simp(disch:=omega)[aJ,aG,gC];refine cU (aMs x _) ?_;apply Y;simp only [eF];apply Z;refine zI ?_ ?_<;>intro c1<;>try simp at c1
 .refine zt ⟨[],[],[5],[],[]⟩ fun _ _ Z=>?_;refine zs 2 fun _ Y=>?_;simp(disch:=omega)[aJ,aG,gC];apply Y;refine aF fun _ Y=>?_;simp(disch:=omega)[aJ,aG,gC];refine cU (aBo (iB nA o.attrs) aIm ⟨#[]⟩ _ (by omega) hsa) ?_;apply Y;simp(disch:=omega)[aJ,aG,gC];apply Z;apply fV;apply aE;refine zr ⟨[],[],[5],[],[]⟩ fun _ _ Z=>?_;simp(disch:=omega)[aJ,aG,gC];apply Z;refine zI ?_ ?_<;>intro c2<;>try simp at c2
  .refine zk [2,4,5] ?_;refine ze ⟨[],[],[5],[],[]⟩ [.op {},.op {rO:=true},.op {},.op {rL:=true},.pure,.op {},.op {rL:=true},.pure,.op {},.op {rO:=true,wO:=true}] fun all hall _ Z=>?_;refine lN 4 fun _ Y=>?_;simp(disch:=omega)[aJ,aG,gC];apply Y;refine cK fun _ Y=>?_;simp(disch:=omega)[aJ,aG,gC];refine zW (fun _=>(Bp (iB nP o.styles) mDx x.DX _ (by omega) hsp)) ?_;apply Y;refine lN 2 fun _ Y=>?_;simp(disch:=omega)[aJ,aG,gC];apply Y;refine cK fun _ Y=>?_;simp(disch:=omega)[aJ,aG,gC];refine zW (fun _=>(Bp (fQ nP (iB nP o.styles) ⟨mDx,x.DX⟩) mDy x.DY _ (by omega) (mR nP hsp _))) ?_;apply Y;simp(disch:=omega)[aJ,aG,gC];apply Z;apply fV;refine zk [4,5] ?_;refine zr ⟨[],[],[5],[],[]⟩ fun _ _ Z=>?_;simp(disch:=omega)[aJ,aG,gC];apply Z;apply aC;simp [aH,Me,aDn,aDt, *]
  apply zA;refine zk [4,5] ?_;refine zr ⟨[],[],[5],[],[]⟩ fun _ _ Z=>?_;simp(disch:=omega)[aJ,aG,gC];apply Z;apply aC;simp [aH,Me,aDn,aDt, *]
 apply zA;apply aE;refine zr ⟨[],[],[5],[],[]⟩ fun _ _ Z=>?_;simp(disch:=omega)[aJ,aG,gC];apply Z;refine zI ?_ ?_<;>intro c3<;>try simp at c3
 .refine ze ⟨[],[],[5],[],[]⟩ [.op {},.op {rO:=true},.op {},.op {rL:=true},.pure,.op {},.op {rL:=true},.pure,.op {},.op {rO:=true,wO:=true}] fun all hall _ Z=>?_;refine lN 4 fun _ Y=>?_;simp(disch:=omega)[aJ,aG,gC];apply Y;refine cK fun _ Y=>?_;simp(disch:=omega)[aJ,aG,gC];refine zW (fun _=>(Bp (iB nP o.styles) mDx x.DX _ (by omega) hsp)) ?_;apply Y;refine lN 2 fun _ Y=>?_;simp(disch:=omega)[aJ,aG,gC];apply Y;refine cK fun _ Y=>?_;simp(disch:=omega)[aJ,aG,gC];refine zW (fun _=>(Bp (fQ nP (iB nP o.styles) ⟨mDx,x.DX⟩) mDy x.DY _ (by omega) (mR nP hsp _))) ?_;apply Y;simp(disch:=omega)[aJ,aG,gC];apply Z;apply fV;refine zk [4,5] ?_;refine zr ⟨[],[],[5],[],[]⟩ fun _ _ Z=>?_;simp(disch:=omega)[aJ,aG,gC];apply Z;apply aC;simp [aH,Me,aDn,aDt, *]
 apply zA;refine zr ⟨[],[],[5],[],[]⟩ fun _ _ Z=>?_;simp(disch:=omega)[aJ,aG,gC];apply Z;apply aC;simp [aH,Me,aDn,aDt, *]
theorem aOo(x:LK)(o:OW)(σ:List (List D))(h1:o.classes.length<=9999)(h2:o.attrs.length<=9999)(h3:o.styles.length<=9999):Ct prog 95 [aAj x,El o] σ (fun r σ'=>r=El (Me x o)/\σ'=σ):=
 have h:Ct prog 95 [aAj x,El o] σ (fun r σ'=>r=El (Me x o)/\∃J,σ'=σ++J):=(aHu x o σ h1 h2 h3).strip fun r σ' h=>⟨h.1.1,h.1.2,h.2⟩
 h.trim fun r σ' ⟨hr,J,hs⟩=>⟨σ,J,hs,rfl,by rw [hr];exact aUb _ _,fun n cs h=> .inl h,hr,rfl⟩
end Go.Proofs.YtbgfljpnhhdkoaaGreat
