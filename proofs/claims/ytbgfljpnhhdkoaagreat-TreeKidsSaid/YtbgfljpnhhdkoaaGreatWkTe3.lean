import Derived.Test.YtbgfljpnhhdkoaaGreatWkVi7
set_option linter.all false
set_option maxRecDepth 20000
set_option maxHeartbeats 8000000
open Go.Proofs.Tryz
namespace Go.Proofs.YtbgfljpnhhdkoaaGreat
open Go Go.Vm
variable {v:VN}
structure TN where
 ID:Int
 kind:Int
 tag:ByteArray
 text:ByteArray
 classes:(List ByteArray)
 attrs:(List AT)
 styles:(List PI)
 kids:(List TN)
def aDw(s:TN):D:= .agg [.v (.int .i64 s.ID),.v (.int .i64 s.kind),.v (.string s.tag),.v (.string s.text),.sl false (s.classes.map D.str),.sl false (s.attrs.map cZ),.sl false (s.styles.map cL),.sl false (s.kids.attach.map fun k=>aDw k.1)]
termination_by SizeOf.sizeOf s
decreasing_by
 have h:=uI k.2;cases s;simp at h |-;omega
@[simp] abbrev aKk(s:TN):D:= .agg [.v (.int .i64 s.ID),.v (.int .i64 s.kind),.v (.string s.tag),.v (.string s.text),.sl false (s.classes.map D.str),.sl false (s.attrs.map cZ),.sl false (s.styles.map cL),.sl false (s.kids.map aDw)]
@[simp] abbrev aYo(s:TN):D:= .agg [.v (.int .i64 s.ID),.v (.int .i64 s.kind),.v (.string s.tag),.v (.string s.text),.sl true (s.classes.map D.str),.sl true (s.attrs.map cZ),.sl true (s.styles.map cL),.sl true (s.kids.map aDw)]
@[simp] theorem aV1(s:TN):aDw s=aKk s:=by rw [aDw];simp
abbrev TSz(t:TN):Prop:=t.classes.length<=9999/\t.attrs.length<=9999/\t.styles.length<=9999/\t.kids.length<=9999
inductive TB:TN->Prop
 | mk (t:TN) (h:TSz t) (hk:∀k∈t.kids,TB k):TB t
theorem TB.s {t:TN} (h:TB t):TSz t:=by cases h;assumption
theorem TB.k {t:TN} (h:TB t):∀k∈t.kids,TB k:=by cases h;assumption
inductive VB:VN->Prop
 | mk (v:VN) (h:VSz v) (hk:∀k∈v.kids,VB k):VB v
theorem VB.s (h:VB v):VSz v:=by cases h;assumption
theorem VB.k (h:VB v):∀k∈v.kids,VB k:=by cases h;assumption
theorem VG.b:∀ {v:VN},VG v->cT v<=9999->VB v
 | v,h,hc=> .mk v (h.sz hc) fun k hk=>VG.b (h.k k hk) (by have:=fV hk;omega)
termination_by v=>cT v
decreasing_by
 have:=fV hk;omega
theorem Az(v:VN):v=txt v v.text:=by cases v;rfl
theorem aLo {o:List VN} {k x:VN} (h:x∈pA o k):∃y,(y∈o\/y=k)/\∃s,x=txt y s:=by
 unfold pA at h;have hq:x∈o++ [k]->∃y,(y∈o\/y=k)/\∃s,x=txt y s:=fun h=>by
  rcases bN.1 h with h | h
  .exact⟨x,.inl h,x.text,Az x⟩
  exact⟨k,.inr rfl,k.text,by rw [fO.1 h];exact Az k⟩
 split at h
 .rename_i p hp;split at h
  .rcases Nz h with h | h
   .exact⟨x,.inl h,x.text,Az x⟩
   exact⟨p,.inl (List.mem_of_getLast? hp),_,h⟩
  exact hq h
 exact hq h
theorem aFi {l:List VN} {x:VN} (h:x∈pN l):∃y∈l,∃s,x=txt y s:=by
 have:∀(l o:List VN),x∈l.foldl pA o->∃y,(y∈o\/y∈l)/\∃s,x=txt y s:=by
  intro l;induction l with
  | nil=>intro o h;exact⟨x,.inl h,x.text,Az x⟩
  | cons a l ih =>
   intro o h;obtain⟨y,hy,s,e⟩:=ih _ h;rcases hy with hy | hy
   .obtain⟨z,hz,s2,e2⟩:=aLo hy;rcases hz with hz | rfl
    .exact⟨z,.inl hz,s,by rw [e,e2];rfl⟩
    exact⟨z,.inr fA,s,by rw [e,e2];rfl⟩
   exact⟨y,.inr (gK _ hy),s,e⟩
 obtain⟨y,hy,h2⟩:=this l [] h;rcases hy with hy | hy
 .cases hy
 exact⟨y,hy,h2⟩
theorem VB.txt (h:VB v)(s:ByteArray):VB (txt v s):= .mk _ h.s h.k
theorem aN4(v:VN)(s:ByteArray):cT (txt v s)=cT v:=by rw [jA,jA v];rfl
theorem aBf:∀(o:List VN) (i:Nat) (x:VN) (h:i<o.length),cT x=cT o[i]->((o.set i x).map cT).sum=(o.map cT).sum
 | a::o,0,x,_,e=>by simp at e;simp [e]
 | a::o,i+1,x,h,e=>by
  have:=aBf o i x (by simpa using h) (by simpa using e);simp only [iR,cK,jG,this]
theorem aJs(o:List VN)(k:VN):((pA o k).map cT).sum<=(o.map cT).sum+cT k:=by
 unfold pA;split
 .rename_i p hp;split
  .rw [El] at hp;obtain⟨h1,h2⟩:=aN.1 hp;rw [aBf o _ _ h1 (by rw [aN4,h2])];omega
  simp
 simp
theorem aFj(l:List VN):((pN l).map cT).sum<=(l.map cT).sum:=by
 have:∀(l o:List VN),((l.foldl pA o).map cT).sum<=(o.map cT).sum+(l.map cT).sum:=by
  intro l;induction l with
  | nil=>intro o;simp
  | cons a l ih=>
   intro o;have h1:=ih (pA o a);have h2:=aJs o a;simp only [dQ,cK,jG];omega
 have:=this l [];simpa [pN] using this
theorem Zk(l:List VN)(p:VN->Bool):((l.filter p).map cT).sum<=(l.map cT).sum:=by
 induction l with
 | nil=>simp
 | cons a l ih=>
  by_cases h:p a=true
  .rw [pU h];simp;omega
  rw [rW h];simp;omega
theorem aIw {α:Type} (f g:α->Nat):∀(l:List α),(∀x∈l,f x<=g x)->(l.map f).sum<=(l.map g).sum
 | [],_=>by simp
 | a::l,h=>by
  have:=aIw f g l fun x hx=>h x (gK _ hx);have:=h a fA;simp;omega
theorem Iw(v:VN):cT (eI v)<=cT v:=by
 rw [jA,jA v,nN];show 1+((pN ((v.kids.map eI).filter oR)).map cT).sum<=_
 have h1:=aFj ((v.kids.map eI).filter oR);have h2:=Zk (v.kids.map eI) oR;rw [fN] at h2;have h3:=aIw (cT ∘ eI) cT v.kids fun x hx=>Iw x;omega
termination_by cT v
decreasing_by
 have:=fV hx;omega
structure LK where
 kind:Int
 move:Int
 DX:Int
 DY:Int
 deriving DecidableEq
@[simp] abbrev Ux(s:LK):D:= .agg [.v (.int .i64 s.kind),.v (.int .i64 s.move),.v (.int .i64 s.DX),.v (.int .i64 s.DY)]
def aUk:ByteArray:=⟨#[116,45,119,97,105,116]⟩
def aW6:ByteArray:=⟨#[116,45,101,110,116,101,114,45,102,114,111,109]⟩
def aTn:ByteArray:=⟨#[116,45,101,110,116,101,114,45,97,99,116,105,118,101]⟩
def aW1:ByteArray:=⟨#[116,45,101,110,116,101,114,45,116,111]⟩
def aTx:ByteArray:=⟨#[116,45,104,111,108,100]⟩
def aWq:ByteArray:=⟨#[116,45,108,101,97,118,101,45,102,114,111,109]⟩
def aUe:ByteArray:=⟨#[116,45,108,101,97,118,101,45,97,99,116,105,118,101]⟩
def aW9:ByteArray:=⟨#[116,45,108,101,97,118,101,45,116,111]⟩
def aUo:ByteArray:=⟨#[116,45,109,111,118,101]⟩
def aJw:ByteArray:=⟨#[116,45,103,104,111,115,116]⟩
def mDx:ByteArray:=⟨#[116,45,100,120]⟩
def mDy:ByteArray:=⟨#[116,45,100,121]⟩
def Vd(x:LK):Bool:=decide (x.kind=5) || decide (x.kind=6)
def tG(x:LK):Bool:=decide (x.kind=4) || Vd x
def qW(x:LK):Ls:=if x.kind=1 then [aUk] else if x.kind=2 then [aW6,aTn] else if x.kind=3 then [aTn,aW1] else if x.kind=4 then [aTx] else if x.kind=5 then [aWq,aUe] else if x.kind=6 then [aUe,aW9] else []
def oO(x:LK):Ls:=if x.move=0 then qW x else qW x++ [aUo]
theorem Hy(x:LK):(qW x).length<=2:=by unfold qW;(repeat' split) <;> simp
theorem Ra(x:LK):(oO x).length<=3:=by unfold oO;have:=Hy x;split <;> simp <;> omega
theorem aNr(x:LK)(σ:List (List D))  :Ct prog 223 [Ux x] σ (fun r σ'=>r= .bool (Vd x)/\σ'=σ):=by
 refine zf func223 ?_;refine bC fun _ _ Z=>?_;simp;apply Z;refine mE ⟨[],[],[],[],[]⟩ fun all hall _ Z=>?_;have ga3:aO all 3=some 6:=hall 3;refine zs 4 fun _ Y=>?_;simp[ga3];apply Y;refine zb 6 ?_ ?_<;>intro g1<;>try simp at g1
 .simp[ga3];apply Z;apply aC;simp [aG,Vd, *]
 simp[ga3];apply Z;apply aC;simp [aG,Vd, *]
theorem Vv(x:LK)(σ:List (List D))  :Ct prog 181 [Ux x] σ (fun r σ'=>r= .bool (tG x)/\σ'=σ):=by
 refine zf func181 ?_;refine bC fun _ _ Z=>?_;simp;apply Z;refine mE ⟨[],[],[],[],[]⟩ fun all hall _ Z=>?_;have ga3:aO all 3=some 6:=hall 3;refine zs 4 fun _ Y=>?_;simp[ga3];apply Y;refine zb 6 ?_ ?_<;>intro g1<;>try simp at g1
 .simp[ga3];apply Z;apply aC;simp [aG,tG, *]
 refine zs 1 fun _ Y=>?_;simp[ga3];apply Y;refine zg ga3 fun _ Y=>?_;simp[ga3];refine cN (aNr x _) ?_;apply Y;simp[ga3];apply Z;apply aC;simp [aG,tG, *]
theorem aLl(x:LK)(σ:List (List D))  :Ct prog 222 [Ux x] σ (fun r σ'=>r= .sl true ((qW x).map D.str)/\σ'=σ):=by
 refine zf func222 ?_;refine zr ⟨[2],[],[],[],[]⟩ fun _ _ Z=>?_;simp(disch:=omega)[fY];apply Z;apply aE;refine zr ⟨[2],[],[],[],[]⟩ fun _ _ Z=>?_;simp(disch:=omega)[fY];apply Z;apply aR;refine zr ⟨[2],[],[],[],[]⟩ fun _ _ Z=>?_;simp(disch:=omega)[fY];apply Z;refine zI ?_ ?_<;>intro c1<;>try simp at c1
 .refine zr ⟨[2],[],[],[],[]⟩ fun _ _ Z=>?_;simp(disch:=omega)[fY];and_intros<;>(try omega);apply Z;apply aC;simp [aG,qW, *];first | done | rfl | exact⟨rfl,rfl⟩ | exact⟨rfl,rfl,rfl⟩
 refine zr ⟨[2],[],[],[],[]⟩ fun _ _ Z=>?_;simp(disch:=omega)[fY];apply Z;refine zI ?_ ?_<;>intro c2<;>try simp at c2
 .refine zr ⟨[2],[],[],[],[]⟩ fun _ _ Z=>?_;simp(disch:=omega)[fY];and_intros<;>(try omega);apply Z;apply aC;simp [aG,qW, *];first | done | rfl | exact⟨rfl,rfl⟩ | exact⟨rfl,rfl,rfl⟩
 refine zr ⟨[2],[],[],[],[]⟩ fun _ _ Z=>?_;simp(disch:=omega)[fY];apply Z;refine zI ?_ ?_<;>intro c3<;>try simp at c3
 .refine zr ⟨[2],[],[],[],[]⟩ fun _ _ Z=>?_;simp(disch:=omega)[fY];and_intros<;>(try omega);apply Z;apply aC;simp [aG,qW, *];first | done | rfl | exact⟨rfl,rfl⟩ | exact⟨rfl,rfl,rfl⟩
 refine zr ⟨[2],[],[],[],[]⟩ fun _ _ Z=>?_;simp(disch:=omega)[fY];apply Z;refine zI ?_ ?_<;>intro c4<;>try simp at c4
 .refine zk [2] ?_;refine zr ⟨[2],[],[],[],[]⟩ fun _ _ Z=>?_;simp(disch:=omega)[fY];and_intros<;>(try omega);apply Z;apply aC;simp [aG,qW, *];first | done | rfl | exact⟨rfl,rfl⟩ | exact⟨rfl,rfl,rfl⟩
 refine zk [2,4] ?_;refine zr ⟨[2],[],[],[],[]⟩ fun _ _ Z=>?_;simp(disch:=omega)[fY];apply Z;refine zI ?_ ?_<;>intro c5<;>try simp at c5
 .refine zr ⟨[2],[],[],[],[]⟩ fun _ _ Z=>?_;simp(disch:=omega)[fY];and_intros<;>(try omega);apply Z;apply aC;simp [aG,qW, *];first | done | rfl | exact⟨rfl,rfl⟩ | exact⟨rfl,rfl,rfl⟩
 refine zr ⟨[2],[],[],[],[]⟩ fun _ _ Z=>?_;simp(disch:=omega)[fY];apply Z;refine zI ?_ ?_<;>intro c6<;>try simp at c6
 .refine zr ⟨[2],[],[],[],[]⟩ fun _ _ Z=>?_;simp(disch:=omega)[fY];and_intros<;>(try omega);apply Z;apply aC;simp [aG,qW, *];first | done | rfl | exact⟨rfl,rfl⟩ | exact⟨rfl,rfl,rfl⟩
 apply nM;refine zr ⟨[2],[],[],[],[]⟩ fun _ _ Z=>?_;simp(disch:=omega)[fY];apply Z;apply aC;simp [aG,qW, *];first | done | rfl | exact⟨rfl,rfl⟩ | exact⟨rfl,rfl,rfl⟩
@[simp] abbrev q37_1:Cfg:=⟨[2,3,9,12],[],[],[],[]⟩
theorem Tk(x:LK)(σ:List (List D))  :Ct prog 180 [Ux x] σ (fun r σ'=>r= .sl true ((oO x).map D.str)/\σ'=σ):=by
 refine zf func180 ?_;have hml:=Hy x;refine zr q37_1 fun _ _ Z=>?_;simp(disch:=omega);apply Z;refine zr q37_1 fun _ _ Z=>?_;refine zs 1 fun _ Y=>?_;simp(disch:=omega);apply Y;refine aF fun _ Y=>?_;simp(disch:=omega);refine cN (aLl x _) ?_;apply Y;simp(disch:=omega);apply Z;apply aE;refine zr q37_1 fun _ _ Z=>?_;simp(disch:=omega);apply Z;refine zI ?_ ?_<;>intro c1<;>try simp at c1
 .refine zt q37_1 fun _ _ Z=>?_;simp(disch:=omega);and_intros<;>(try omega);apply Z;apply dV;refine zk [2,3] ?_;refine zr q37_1 fun _ _ Z=>?_;simp(disch:=omega);apply Z;apply aC;simp [aG,oO, *];first | done | rfl
 apply zA;refine zr q37_1 fun _ _ Z=>?_;simp(disch:=omega);apply Z;apply aC;simp [aG,oO, *];first | done | rfl
@[simp] abbrev q37_2:Cfg:=⟨[0,4,25,26],[],[],[],[10,12,19,20,22,24,25]⟩
theorem aD3(n:Nat)(σ:List (List D))(hn:n<=1000000):Ct prog 221 [.v (.slice none 0 0),D.int n] σ (fun r σ'=>vK 1 [] r/\σ'=σ):=by
 refine zf func221 ?_;refine zr q37_2 fun _ _ Z=>?_;simp(disch:=first|omega|assumption);apply Z;apply aE;refine zr q37_2 fun _ _ Z=>?_;simp(disch:=first|omega|assumption);apply Z;refine zI ?_ ?_<;>intro c1<;>try simp at c1
 .exfalso;omega
 apply zA;apply aE;refine zr q37_2 fun _ _ Z=>?_;simp(disch:=first|omega|assumption);and_intros<;>try first|omega|exact rfl
 apply Z;refine zr q37_2 fun _ _ Z=>?_;simp(disch:=first|omega|assumption);apply Z;refine zI ?_ ?_<;>intro c2<;>try simp at c2
 .refine zk [0,1,4] ?_;refine zt q37_2 fun _ _ Z=>?_;refine zs 8 fun _ Y=>?_;simp(disch:=first|omega|assumption);and_intros<;>try first|omega|exact rfl
  apply Y;simp(disch:=first|omega|assumption);and_intros<;>try first|omega|exact rfl
  apply Z;apply dV;refine zk [0,4] ?_;refine zr q37_2 fun _ _ Z=>?_;simp(disch:=first|omega|assumption);apply Z;apply aC;simp [aG,vK]
 apply zA;refine zk [0,4] ?_;refine zr q37_2 fun _ _ Z=>?_;simp(disch:=first|omega|assumption);apply Z;apply aC;simp [aG,vK]
theorem aKy(n:Nat)(σ:List (List D))(hn:n<=1000000):Ct prog 221 [.v (.slice none 0 0),D.int n] σ (fun r σ'=>r= .xs 1 []/\σ'=σ):=(aD3 n σ hn).toX fun _ _ h=>h
def Ak(a b:Ls)(k:Nat):Ls:=if k=0 then [] else if k=1 then a else a++b
theorem Uv(a b:Ls)(k:Nat):(Ak a b k).length<=a.length+b.length:=by
 unfold Ak;(repeat' split) <;> simp
def atK(a b:Ls)(k:Nat):Ls:=if k=0 then a else b
theorem aBa(a b:Ls)(k:Nat):(atK a b k).length<=a.length+b.length:=by unfold atK;split <;> omega
theorem aM6(a b:Ls)(k:Nat):k<2->([D.sl false (a.map D.str),D.sl false (b.map D.str)][k]?).getD D.any= .sl false ((atK a b k).map D.str):=by
 intro h
 match k,h with
 | 0,_=>rfl
 | 1,_=>rfl
theorem Ni {a b:Ls} {k:Nat} (h:k<2):Ak a b (k+1)=Ak a b k++atK a b k:=by
 match k,h with
 | 0,_=>simp [Ak,atK]
 | 1,_=>simp [Ak,atK]
theorem aGd {a b:Ls} {k:Nat} (h:k<2):(Ak a b (k+1)).length=(Ak a b k).length+(atK a b k).length:=by rw [Ni h,bA]
@[simp] abbrev q37_3:Cfg:=⟨[2,6,24,31,33,35],[],[],[33],[]⟩
theorem Vk(a b:Ls)(σ:List (List D))(ha:a.length<=99999)(hb:b.length<=99999):Ct prog 179 [.sl false [.sl false (a.map D.str),.sl false (b.map D.str)]] σ (fun r σ'=>r= .xs 1 ((a++b).map D.str)/\σ'=σ):=by
 refine zf func179 ?_;have hget:=aM6 a b;refine zr q37_3 fun _ _ Z=>?_;simp(disch:=first|omega|assumption)[hget];apply Z;refine zr q37_3 fun _ _ Z=>?_;simp(disch:=first|omega|assumption)[hget];apply Z;apply aE;refine zr q37_3 fun _ _ Z=>?_;simp(disch:=first|omega|assumption)[hget];and_intros<;>try first|omega|exact rfl
 apply Z;apply aR;refine zk [0,2,3,9,10,11] ?_;refine aY (fun(k:Nat)=> [(11,.d (.v (.int .i64 (k:Int)))),(3,.d (.int (((Ak a b k).length:Nat):Int))),(5,.d (.any))]) [3,5,11,12,13,14,15,16,17,18,19,20,21,22] (fun(k:Nat)=>k<=2) (fun(k:Nat)=>2 - k) (0) (by simp <;> rfl) ?_ ?_ ?_
 .simp [Ak]
 .simp
 rintro k hk;simp only [aQ,aP];have hqs:=Uv a b k;have hql:=aBa a b k;refine zr q37_3 fun _ _ Z=>?_;simp(disch:=first|omega|assumption)[hget];apply Z;apply aE;refine zI ?_ ?_<;>intro c1<;>try simp at c1
 .have hsu:=aGd (a:=a) (b:=b) (k:=k) (by omega);apply kO;refine zr q37_3 fun _ _ Z=>?_;simp(disch:=first|omega|assumption)[hget];and_intros<;>try first|omega|exact rfl
  apply Z;refine zr q37_3 fun _ _ Z=>?_;simp(disch:=first|omega|assumption)[hget];and_intros<;>try first|omega|exact rfl
  apply Z;refine zk [0,2,3,5,9,10,11] ?_;refine zr q37_3 fun _ _ Z=>?_;simp(disch:=first|omega|assumption)[hget];apply Z;refine zI ?_ ?_<;>intro c2<;>try simp at c2
  .exfalso;omega
  apply nM;refine zt q37_3 fun _ _ Z=>?_;simp(disch:=first|omega|assumption)[hget];and_intros<;>try first|omega|exact rfl
  apply Z;refine zq (k+1) ?_ ?_ ?_
  .omega
  .try dsimp only
   omega
  simp(disch:=first|omega|assumption)[hget,hsu]
 obtain rfl:k=2:=by omega
 have h2:(Ak a b 2).length=a.length+b.length:=by simp [Ak]
 rw [h2];apply zE;refine zr q37_3 fun _ _ Z=>?_;refine zs 1 fun _ Y=>?_;simp(disch:=first|omega|assumption)[hget];apply Y;refine aF fun _ Y=>?_;simp(disch:=first|omega|assumption)[hget];refine cN (aKy (a.length+b.length) _ (by omega)) ?_;apply Y;simp(disch:=first|omega|assumption)[hget];apply Z;apply aE;refine zr q37_3 fun _ _ Z=>?_;simp(disch:=first|omega|assumption)[hget];and_intros<;>try first|omega|exact rfl
 apply Z;apply aR;refine zk [2,6,25,26,27] ?_;refine aY (fun(k:Nat)=> [(27,.d (.v (.int .i64 (k:Int)))),(6,.d (.xs 1 ((Ak a b k).map D.str))),(8,.d (.any))]) [6,8,27,28,29,30,31,32,33,34] (fun(k:Nat)=>k<=2) (fun(k:Nat)=>2 - k) (0) (by simp <;> rfl) ?_ ?_ ?_
 .simp [Ak]
 .simp
 rintro k hk;simp only [aQ,aP];have hqs:=Uv a b k;have hql:=aBa a b k;refine zr q37_3 fun _ _ Z=>?_;simp(disch:=first|omega|assumption)[hget];apply Z;apply aE;refine zI ?_ ?_<;>intro c3<;>try simp at c3
 .have hnx:=Ni (a:=a) (b:=b) (k:=k) (by omega);apply kO;refine zr q37_3 fun _ _ Z=>?_;simp(disch:=first|omega|assumption)[hget];and_intros<;>try first|omega|exact rfl
  apply Z;refine zt q37_3 fun _ _ Z=>?_;simp(disch:=first|omega|assumption)[hget];and_intros<;>try first|omega|exact rfl
  apply Z;apply zB;refine zk [2,6,8,25,26,27] ?_;refine zt q37_3 fun _ _ Z=>?_;simp(disch:=first|omega|assumption)[hget];and_intros<;>try first|omega|exact rfl
  apply Z;refine zq (k+1) ?_ ?_ ?_
  .omega
  .try dsimp only
   omega
  simp(disch:=first|omega|assumption)[hget,hnx]
 obtain rfl:k=2:=by omega
 apply zE;refine zr q37_3 fun _ _ Z=>?_;simp(disch:=first|omega|assumption)[hget];apply Z;apply aC;simp [aG,Ak]
theorem Wh(a b:Ls)(σ:List (List D))(ha:a.length<=99999)(hb:b.length<=99999):Ct prog 179 [.sl false [.sl false (a.map D.str),.sl false (b.map D.str)]] σ (fun r σ'=>r= .sl false ((a++b).map D.str)/\σ'=σ):=(Vk a b σ ha hb).freeze fun r σ' h=>h
def aEi(x:LK)(o:OW):List AT:=if tG x=true then fU nA (iP nA o.attrs) ⟨aJw,⟨#[]⟩⟩else iP nA o.attrs
def aFf(x:LK)(o:OW):List PI:=if x.move=1 then fU nP (fU nP (iP nP o.styles) ⟨mDx,x.DX⟩) ⟨mDy,x.DY⟩else iP nP o.styles
def Lj(x:LK)(o:OW):OW:=⟨bS (o.classes++oO x),aEi x o,aFf x o⟩
theorem aUv(N:Nat)(o:OW):Sc N (Fk o):=Sc.agg fun d hd=>by
 simp only [bM,iD,iK] at hd;rcases hd with rfl | rfl | rfl
 .exact Sc.sl (Sc.map fun a=>Xt _ a)
 .exact Sc.sl (Sc.map fun a=>Zg _ a)
 exact Sc.sl (Sc.map fun a=>Wq _ a)
theorem aGc(x:LK)(o:OW)(σ:List (List D))(h1:o.classes.length<=9999)(h2:o.attrs.length<=9999)(h3:o.styles.length<=9999):Ct prog 95 [Ux x,Fk o] σ (fun r σ'=>(r.plain=true/\r.strip=Fk (Lj x o))/\∃J,σ'=σ++J):=by
 refine zf func95 ?_;have hcl:=Ra x;have ha:=iX nA o.attrs;have hp:=iX nP o.styles;have hsa:=gI nA o.attrs;have hsp:=gI nP o.styles;have hpl:=Cq nP (iP nP o.styles) ⟨mDx,x.DX⟩;refine zr ⟨[],[],[5],[],[]⟩ fun _ _ Z=>?_;simp(disch:=omega)[aK,aH,fY];apply Z;refine zd ⟨[],[],[5],[],[]⟩ [.op {},.op {rL:=true},.op {rL:=true},.pure,.op {},.pure,.pure,.op {},.op {rL:=true},.pure,.op {},.op {rL:=true},.pure,.op {},.op {rO:=true,wO:=true},.op {rO:=true,wO:=true}] fun all hall _ Z=>?_;refine nI 3 fun _ Y=>?_;simp(disch:=omega)[aK,aH,fY];apply Y;refine cH fun _ Y=>?_;simp(disch:=omega)[aK,aH,fY];refine At (fun _=>(Tk x _)) ?_;apply Y;refine nI 1 fun _ Y=>?_;simp(disch:=omega)[aK,aH,fY];and_intros<;>(try omega);apply Y;refine cH fun _ Y=>?_;simp(disch:=omega)[aK,aH,fY];refine At (fun _=>(Wh o.classes (oO x) _ (by omega) (by omega))) ?_;apply Y;refine cH fun _ Y=>?_;simp(disch:=omega)[aK,aH,fY];refine At (fun _=>(Da (o.classes++oO x) _ (by simp;omega))) ?_;apply Y;refine nI 2 fun _ Y=>?_;simp(disch:=omega)[aK,aH,fY];apply Y;refine cH fun _ Y=>?_;simp(disch:=omega)[aK,aH,fY];refine At (fun _=>(aBv o.attrs _ (by omega))) ?_;apply Y;refine nI 2 fun _ Y=>?_;simp(disch:=omega)[aK,aH,fY];apply Y;refine cH fun _ Y=>?_;simp(disch:=omega)[aK,aH,fY];refine At (fun _=>(aA5 o.styles _ (by omega))) ?_;apply Y;simp(disch:=omega)[aK,aH,fY];and_intros<;>(try omega);apply Z;apply aE;refine zk [2,4,5] ?_;refine zr ⟨[],[],[5],[],[]⟩ fun _ _ Z=>?_;refine zs 1 fun _ Y=>?_;simp(disch:=omega)[aK,aH,fY];apply Y;refine aF fun _ Y=>?_;simp(disch:=omega)[aK,aH,fY];refine cN (Vv x _) ?_;apply Y;simp only [dT];apply Z;refine zI ?_ ?_<;>intro c1<;>try simp at c1
 .refine zt ⟨[],[],[5],[],[]⟩ fun _ _ Z=>?_;refine zs 2 fun _ Y=>?_;simp(disch:=omega)[aK,aH,fY];apply Y;refine aF fun _ Y=>?_;simp(disch:=omega)[aK,aH,fY];refine cN (aAz (iP nA o.attrs) aJw ⟨#[]⟩ _ (by omega) hsa) ?_;apply Y;simp(disch:=omega)[aK,aH,fY];apply Z;apply dV;apply aE;refine zr ⟨[],[],[5],[],[]⟩ fun _ _ Z=>?_;simp(disch:=omega)[aK,aH,fY];apply Z;refine zI ?_ ?_<;>intro c2<;>try simp at c2
  .refine zk [2,4,5] ?_;refine ze ⟨[],[],[5],[],[]⟩ [.op {},.op {rO:=true},.op {},.op {rL:=true},.pure,.op {},.op {rL:=true},.pure,.op {},.op {rO:=true,wO:=true}] fun all hall _ Z=>?_;refine nI 4 fun _ Y=>?_;simp(disch:=omega)[aK,aH,fY];apply Y;refine cH fun _ Y=>?_;simp(disch:=omega)[aK,aH,fY];refine At (fun _=>(Bj (iP nP o.styles) mDx x.DX _ (by omega) hsp)) ?_;apply Y;refine nI 2 fun _ Y=>?_;simp(disch:=omega)[aK,aH,fY];apply Y;refine cH fun _ Y=>?_;simp(disch:=omega)[aK,aH,fY];refine At (fun _=>(Bj (fU nP (iP nP o.styles) ⟨mDx,x.DX⟩) mDy x.DY _ (by omega) (mH nP hsp _))) ?_;apply Y;simp(disch:=omega)[aK,aH,fY];apply Z;apply dV;refine zk [4,5] ?_;refine zr ⟨[],[],[5],[],[]⟩ fun _ _ Z=>?_;simp(disch:=omega)[aK,aH,fY];apply Z;apply aC;simp [aG,Lj,aEi,aFf, *]
  apply zA;refine zk [4,5] ?_;refine zr ⟨[],[],[5],[],[]⟩ fun _ _ Z=>?_;simp(disch:=omega)[aK,aH,fY];apply Z;apply aC;simp [aG,Lj,aEi,aFf, *]
 apply zA;apply aE;refine zr ⟨[],[],[5],[],[]⟩ fun _ _ Z=>?_;simp(disch:=omega)[aK,aH,fY];apply Z;refine zI ?_ ?_<;>intro c3<;>try simp at c3
 .refine ze ⟨[],[],[5],[],[]⟩ [.op {},.op {rO:=true},.op {},.op {rL:=true},.pure,.op {},.op {rL:=true},.pure,.op {},.op {rO:=true,wO:=true}] fun all hall _ Z=>?_;refine nI 4 fun _ Y=>?_;simp(disch:=omega)[aK,aH,fY];apply Y;refine cH fun _ Y=>?_;simp(disch:=omega)[aK,aH,fY];refine At (fun _=>(Bj (iP nP o.styles) mDx x.DX _ (by omega) hsp)) ?_;apply Y;refine nI 2 fun _ Y=>?_;simp(disch:=omega)[aK,aH,fY];apply Y;refine cH fun _ Y=>?_;simp(disch:=omega)[aK,aH,fY];refine At (fun _=>(Bj (fU nP (iP nP o.styles) ⟨mDx,x.DX⟩) mDy x.DY _ (by omega) (mH nP hsp _))) ?_;apply Y;simp(disch:=omega)[aK,aH,fY];apply Z;apply dV;refine zk [4,5] ?_;refine zr ⟨[],[],[5],[],[]⟩ fun _ _ Z=>?_;simp(disch:=omega)[aK,aH,fY];apply Z;apply aC;simp [aG,Lj,aEi,aFf, *]
 apply zA;refine zr ⟨[],[],[5],[],[]⟩ fun _ _ Z=>?_;simp(disch:=omega)[aK,aH,fY];apply Z;apply aC;simp [aG,Lj,aEi,aFf, *]
theorem aMt(x:LK)(o:OW)(σ:List (List D))(h1:o.classes.length<=9999)(h2:o.attrs.length<=9999)(h3:o.styles.length<=9999):Ct prog 95 [Ux x,Fk o] σ (fun r σ'=>r=Fk (Lj x o)/\σ'=σ):=
 have h:Ct prog 95 [Ux x,Fk o] σ (fun r σ'=>r=Fk (Lj x o)/\∃J,σ'=σ++J):=(aGc x o σ h1 h2 h3).strip fun r σ' h=>⟨h.1.1,h.1.2,h.2⟩
 h.trim fun r σ' ⟨hr,J,hs⟩=>⟨σ,J,hs,rfl,by rw [hr];exact aUv _ _,fun n cs h=> .inl h,hr,rfl⟩
theorem Oi(x:LK):(decide (4<=x.kind) && decide (x.kind<=6))=tG x:=by
 unfold tG Vd;rw [iH];simp only [gD,xZ,eZ];omega
theorem Ga(x:LK)(σ:List (List D))  :Ct prog 37 [Ux x] σ (fun r σ'=>r= .bool (tG x)/\σ'=σ):=by
 refine zf func37 ?_;refine bC fun _ _ Z=>?_;simp;apply Z;refine mE ⟨[],[],[],[],[]⟩ fun all hall _ Z=>?_;have ga3:aO all 3=some 6:=hall 3;refine zs 4 fun _ Y=>?_;simp[ga3];apply Y;refine zb 6 ?_ ?_<;>intro g1<;>try simp at g1
 .simp[ga3];apply Z;apply aC;simp [aG,<- Oi, *];try omega
 simp[ga3];apply Z;apply aC;simp [aG,<- Oi, *];try omega
end Go.Proofs.YtbgfljpnhhdkoaaGreat
