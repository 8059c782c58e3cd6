import Derived.Test.YtbgfljpnhhdkoaaGreatWkDr6
set_option maxRecDepth 20000
set_option linter.all false
set_option maxHeartbeats 8000000
open Go.Proofs.Tryz
namespace Go.Proofs.YtbgfljpnhhdkoaaGreat
open Go Go.Vm
variable {C:List Stp}{a b:List AT}{k:Nat}
def Bb(a:List AT)(p:AT):Bool:=jJ nA a p.name && decide (aE6 a p.name=p.value)
def cTs(i:Int)(C:List Stp)(k:Nat):List TOp:=(C.take k).map fun s=>(cOp s).top i
def aDs(i:Int)(a b:List AT)(k:Nat):List TOp:=((a.take k).filter fun p=> !jJ nA b p.name).map fun p=>(DO_.da p.name).top i
def aSs(i:Int)(a b:List AT)(k:Nat):List TOp:=((b.take k).filter fun p=> !Bb a p).map fun p=>(DO_.sa p.name p.value).top i
def sTs(i:Int)(S:List SI)(k:Nat):List TOp:=(S.take k).map fun s=>(sOp s).top i
theorem aUo(i:Int) (hk:k<C.length)(h:C[k].drop=true):cTs i C (k+1)=cTs i C k++ [⟨13,i,0,0,C[k].name,⟨#[]⟩⟩]:=by
 unfold cTs;rw [bK C k hk,dK,eZ,oY];unfold cOp;rw [aI h];rfl
theorem aT2(i:Int) (hk:k<C.length)(h:C[k].drop=false):cTs i C (k+1)=cTs i C k++ [⟨12,i,0,0,C[k].name,⟨#[]⟩⟩]:=by
 unfold cTs;rw [bK C k hk,dK,eZ,oY];unfold cOp;rw [aC (by rw [h];simp)];rfl
theorem aVo(i:Int) {C:List SI} (hk:k<C.length)(h:C[k].drop=true):sTs i C (k+1)=sTs i C k++ [⟨11,i,0,0,C[k].name,⟨#[]⟩⟩]:=by
 unfold sTs;rw [bK C k hk,dK,eZ,oY];unfold sOp;rw [aI h];rfl
theorem aUe(i:Int) {C:List SI} (hk:k<C.length)(h:C[k].drop=false):sTs i C (k+1)=sTs i C k++ [⟨10,i,0,C[k].value,C[k].name,⟨#[]⟩⟩]:=by
 unfold sTs;rw [bK C k hk,dK,eZ,oY];unfold sOp;rw [aC (by rw [h];simp)];rfl
theorem aPh(i:Int) (hk:k<a.length)(h:jJ nA b a[k].name=false):aDs i a b (k+1)=aDs i a b k++ [⟨9,i,0,0,a[k].name,⟨#[]⟩⟩]:=by
 unfold aDs;rw [bK a k hk,eP,oO (by simp [h]),dK];rfl
theorem aTd(i:Int) (hk:k<a.length)(h:jJ nA b a[k].name=true):aDs i a b (k+1)=aDs i a b k:=by
 unfold aDs;rw [bK a k hk,eP,oR (by simp [h]),mI,fZ]
theorem aB9(i:Int) (hk:k<b.length)(h:Bb a b[k]=false):aSs i a b (k+1)=aSs i a b k++ [⟨8,i,0,0,b[k].name,b[k].value⟩]:=by
 unfold aSs;rw [bK b k hk,eP,oO (by simp [h]),dK];rfl
theorem aTc(i:Int) (hk:k<b.length)(h:Bb a b[k]=true):aSs i a b (k+1)=aSs i a b k:=by
 unfold aSs;rw [bK b k hk,eP,oR (by simp [h]),mI,fZ]
theorem Jb(i:Int)(C:List Stp)(k:Nat)(h:k<=C.length):(cTs i C k).length=k:=by simp [cTs];omega
theorem aRd(i:Int)(C:List SI)(k:Nat)(h:k<=C.length):(sTs i C k).length=k:=by simp [sTs];omega
theorem Rt(i:Int)(a b:List AT)(k:Nat)(h:k<=a.length):(aDs i a b k).length<=k:=by
 unfold aDs;rw [bI];have:=gE (fun p:AT=> !jJ nA b p.name) (a.take k);simp at this;omega
theorem aC4(i:Int)(a b:List AT)(k:Nat)(h:k<=b.length):(aSs i a b k).length<=k:=by
 unfold aSs;rw [bI];have:=gE (fun p:AT=> !Bb a p) (b.take k);simp at this;omega
theorem aAi(a b:List PI):(wI a b).length<=a.length+b.length:=by
 unfold wI;have h1:=My (fY nP a) b (fY nP a).length (aV _);have h2:=Wp a (fY nP b) (fY nP b).length (aV _);have h3:=gZ nP a;have h4:=gZ nP b;rw [bB];omega
def uD(n:ND)(is:Bool)(i:Int)(o:OW):Int:=if is=false then 11 else if i=0 then 1 else if ¬n.kind=2 then 14 else if(iO o).any (fun s=> !fF s)=true then 2 else 0
def aQm(i:Int)(n:ND)(o:OW):List TOp:=cTs i (jG n.classes o.classes) (jG n.classes o.classes).length++aDs i n.attrs o.attrs n.attrs.length++aSs i n.attrs o.attrs o.attrs.length++sTs i (wI n.styles o.styles) (wI n.styles o.styles).length
def Tx(i:Int)(n:ND)(is:Bool)(o:OW):List TOp:=if uD n is i o=0 then aQm i n o else []
@[simp] abbrev q44_1:Cfg:=⟨[6,10,17,55,68,97,123,154,176,183,193],[],[],[],[]⟩
theorem aE9(x:RD)(i:Int)(o:OW)(σ:List (List D))(hx:NB x.l)(h1:o.classes.length<=9999)(h2:o.attrs.length<=9999)(h3:o.styles.length<=9999)(hs:∀s∈iO o,s.size<=9223372036854775807):Ct prog 54 [gB x,D.int i,Yz o] σ (fun r σ'=>r= .tup [.sl true ((Tx i (aG x.l i) (eN x.l i) o).map kF),D.int (uD (aG x.l i) (eN x.l i) i o)]/\σ'=σ):=by
 refine zf func54 ?_;have hfa:=hx.fa i;have hfs:=hx.fs i;have hfc:=hx.fc i;obtain⟨n,hn⟩:∃n,aG x.l i=n:=⟨_,rfl⟩;rw [hn] at hfa hfs hfc;have htl:=Mj n.classes o.classes;have hcl1:=jQ n.classes;have hcl2:=jQ o.classes;have hsl:=aAi n.styles o.styles;obtain⟨C,hC⟩:∃C,jG n.classes o.classes=C:=⟨_,rfl⟩;obtain⟨S,hS⟩:∃S,wI n.styles o.styles=S:=⟨_,rfl⟩;rw [hC] at htl;rw [hS] at hsl;have hnl:(iO o).length<=99999:=by simp [iO];omega
 refine zr q44_1 fun _ _ Z=>?_;simp(disch:=omega)[aB,aA,hn,hC,hS];apply Z;refine zr q44_1 fun _ _ Z=>?_;refine zs 2 fun _ Y=>?_;simp(disch:=omega)[aB,aA,hn,hC,hS];apply Y;refine aE fun _ Y=>?_;simp(disch:=omega)[aB,aA,hn,hC,hS];refine cB (lD x i _ hx) ?_;rw [hn];apply Y;simp(disch:=omega)[aB,aA,hn,hC,hS];apply Z;apply aF;refine zk [1,5,6,7,8,9] ?_;refine zr q44_1 fun _ _ Z=>?_;simp(disch:=omega)[aB,aA,hn,hC,hS];apply Z;refine zI ?_ ?_<;>intro c1<;>try simp at c1
 .refine zr q44_1 fun _ _ Z=>?_;simp(disch:=omega)[aB,aA,hn,hC,hS];apply Z;apply aD;simp [aK,uD,Tx,c1]
 apply zA;apply aF;refine zr q44_1 fun _ _ Z=>?_;simp(disch:=omega)[aB,aA,hn,hC,hS];apply Z;refine zI ?_ ?_<;>intro c2<;>try simp at c2
 .refine zr q44_1 fun _ _ Z=>?_;simp(disch:=omega)[aB,aA,hn,hC,hS];apply Z;apply aD;have hm:uD n true i o=1:=by
   unfold uD;rw [aC (by simp),aI c2]
  simp [aK,Tx,hn,c1,hm]
 apply zA;apply aF;refine zr q44_1 fun _ _ Z=>?_;simp(disch:=omega)[aB,aA,hn,hC,hS];apply Z;refine zI ?_ ?_<;>intro c3<;>try simp at c3
 .refine zk [1,5,6,7,8] ?_;refine zr q44_1 fun _ _ Z=>?_;simp(disch:=omega)[aB,aA,hn,hC,hS];apply Z;apply aD;have hm:uD n true i o=14:=by
   unfold uD;rw [aC (by simp),aC c2,aI c3]
  simp [aK,Tx,hn,c1,hm]
 apply zA;refine zk [1,5,6,7,8] ?_;refine zr q44_1 fun _ _ Z=>?_;simp(disch:=omega)[aB,aA,hn,hC,hS];and_intros<;>(try omega);apply Z;apply aF;refine zr q44_1 fun _ _ Z=>?_;simp(disch:=omega)[aB,aA,hn,hC,hS];and_intros<;>(try omega);apply Z;apply aS;refine zk [1,5,6,7,8,10,49,50,51] ?_;refine aZ (fun(k:Nat)=> [(51,.d (.v (.int .i64 (k:Int)))),(10,.d (dlo (Jk o k))),(12,.d (.any))]) [10,12,51,52,53,54,55,56,57,58,59,60] (fun(k:Nat)=>k<=o.attrs.length) (fun(k:Nat)=>o.attrs.length - k) (0) (by simp <;> rfl) ?_ ?_ ?_
 .simp [Jk]
 .simp
 rintro k hk;simp only [aP,aN];have hnn1:=Un o k hk;refine zr q44_1 fun _ _ Z=>?_;simp(disch:=omega)[aB,aA,hn,hC,hS];apply Z;apply aF;refine zI ?_ ?_<;>intro c4<;>try simp at c4
 .have hnn:=Pu o c4;apply kR;refine zr q44_1 fun _ _ Z=>?_;simp(disch:=omega)[aB,aA,hn,hC,hS];and_intros<;>(try omega);apply Z;refine zk [1,5,6,7,8,10,12,49,50,51] ?_;refine zt q44_1 fun _ _ Z=>?_;simp(disch:=omega)[aB,aA,hn,hC,hS];and_intros<;>(try omega);apply Z;apply zB;refine zk [1,5,6,7,8,10,12,49,50,51] ?_;refine zt q44_1 fun _ _ Z=>?_;simp(disch:=omega)[aB,aA,hn,hC,hS];and_intros<;>(try omega);apply Z;refine zq (k+1) ?_ ?_ ?_
  .omega
  .try dsimp only
   omega
  simp(disch:=omega)[aB,aA,hnn,hn,hC,hS]
 obtain rfl:k=o.attrs.length:=by omega
 rw [Vv];apply zE;apply aF;refine zr q44_1 fun _ _ Z=>?_;simp(disch:=omega)[aB,aA,hn,hC,hS];and_intros<;>(try omega);apply Z;apply aS;refine zk [1,5,6,7,8,10,62,63,64] ?_;refine aZ (fun(k:Nat)=> [(64,.d (.v (.int .i64 (k:Int)))),(10,.d (dlo (Ka o k))),(14,.d (.any))]) [10,14,64,65,66,67,68,69,70,71,72,73] (fun(k:Nat)=>k<=o.styles.length) (fun(k:Nat)=>o.styles.length - k) (0) (by simp <;> rfl) ?_ ?_ ?_
 .simp
 .simp
 rintro k hk;simp only [aP,aN];have hnn1:=Ye o k hk;refine zr q44_1 fun _ _ Z=>?_;simp(disch:=omega)[aB,aA,hn,hC,hS];apply Z;apply aF;refine zI ?_ ?_<;>intro c5<;>try simp at c5
 .have hnn:=Rh o c5;apply kR;refine zr q44_1 fun _ _ Z=>?_;simp(disch:=omega)[aB,aA,hn,hC,hS];and_intros<;>(try omega);apply Z;refine zk [1,5,6,7,8,10,14,62,63,64] ?_;refine zt q44_1 fun _ _ Z=>?_;simp(disch:=omega)[aB,aA,hn,hC,hS];and_intros<;>(try omega);apply Z;apply zB;refine zk [1,5,6,7,8,10,14,62,63,64] ?_;refine zt q44_1 fun _ _ Z=>?_;simp(disch:=omega)[aB,aA,hn,hC,hS];and_intros<;>(try omega);apply Z;refine zq (k+1) ?_ ?_ ?_
  .omega
  .try dsimp only
   omega
  simp(disch:=omega)[aB,aA,hnn,hn,hC,hS]
 obtain rfl:k=o.styles.length:=by omega
 rw [Xo];apply zE;apply aF;refine zr q44_1 fun _ _ Z=>?_;simp(disch:=omega)[aB,aA,hn,hC,hS];and_intros<;>(try omega);apply Z;apply aS;refine zk [1,5,6,7,8,74,75,76] ?_;refine aZ (fun(k:Nat)=> [(76,.d (.v (.int .i64 (k:Int)))),(16,.d (.any))]) [6,7,16,76,77,78,79,80,81,82,83] (fun(k:Nat)=>k<=(iO o).length/\∀s∈(iO o).take k,fF s=true) (fun(k:Nat)=>(iO o).length - k) (0) (by simp <;> rfl) ?_ ?_ ?_
 .simp
 .simp
 rintro k ⟨hk,hh⟩;simp only [aP,aN];refine zr q44_1 fun _ _ Z=>?_;simp(disch:=omega)[aB,aA,hn,hC,hS];apply Z;apply aF;refine zI ?_ ?_<;>intro c6<;>try simp at c6
 .apply kR;refine zr q44_1 fun _ _ Z=>?_;simp(disch:=omega)[aB,aA,hn,hC,hS];and_intros<;>(try omega);apply Z;refine zr q44_1 fun _ _ Z=>?_;refine zs 1 fun _ Y=>?_;simp(disch:=omega)[aB,aA,hn,hC,hS];apply Y;refine aE fun _ Y=>?_;simp(disch:=omega)[aB,aA,hn,hC,hS];refine cB (Ku (iO o)[k] _ (hs _ (cN (by omega)))) ?_;apply Y;simp(disch:=omega)[aB,aA,hn,hC,hS];apply Z;refine zI ?_ ?_<;>intro c7<;>try simp at c7
  .have hany:(iO o).any (fun s=> !fF s)=true:=by rw [lU];exact⟨_,cN c6,by simp [c7]⟩
   refine zk [1,5,8,16,74,75,76] ?_;refine zr q44_1 fun _ _ Z=>?_;simp(disch:=omega)[aB,aA,hn,hC,hS];apply Z;apply aD;have hm:uD n true i o=2:=by
    unfold uD;rw [aC (by simp),aC c2,aC (fun h=>h c3),aI hany]
   simp [aK,Tx,hn,c1,hm]
  apply mM;refine zk [1,5,8,16,74,75,76] ?_;refine zt q44_1 fun _ _ Z=>?_;simp(disch:=omega)[aB,aA,hn,hC,hS];and_intros<;>(try omega);apply Z;refine zq (k+1) ?_ ?_ ?_
  .exact⟨by omega,Yw (by omega) hh (by simpa using c7)⟩
  .try dsimp only
   omega
  simp(disch:=omega)[aB,aA,hn,hC,hS]
 rw [bL (by omega)] at hh;have hall:(iO o).any (fun s=> !fF s)=false:=by rw [oX];intro s h;simp [hh s h]
 apply zE;refine zr q44_1 fun _ _ Z=>?_;simp(disch:=omega)[aB,aA,hn,hC,hS];and_intros<;>(try omega);apply Z;apply aF;refine zr q44_1 fun _ _ Z=>?_;refine zs 4 fun _ Y=>?_;simp(disch:=omega)[aB,aA,hn,hC,hS];apply Y;refine aE fun _ Y=>?_;simp(disch:=omega)[aB,aA,hn,hC,hS];refine cB (aKw n.classes o.classes _ (by omega) (by omega)) ?_;rw [hC];apply Y;simp(disch:=omega)[aB,aA,hn,hC,hS];and_intros<;>(try omega);apply Z;apply aS;refine zk [1,5,8,17,89,90,91] ?_;refine aZ (fun(k:Nat)=> [(91,.d (.v (.int .i64 (k:Int)))),(17,.d (.sl true ((cTs i C k).map kF))),(19,.d (.any)),(20,.d (.any))]) [17,19,20,91,92,93,94,95,96,97,98,99,100,101,102,103,104,105] (fun(k:Nat)=>k<=C.length) (fun(k:Nat)=>C.length - k) (0) (by simp <;> rfl) ?_ ?_ ?_
 .simp [cTs]
 .simp
 rintro k hk;simp only [aP,aN];have hl1:=Jb i C k hk;refine zr q44_1 fun _ _ Z=>?_;simp(disch:=omega)[aB,aA,hn,hC,hS];apply Z;apply aF;refine zI ?_ ?_<;>intro c8<;>try simp at c8
 .apply kR;refine zr q44_1 fun _ _ Z=>?_;simp(disch:=omega)[aB,aA,hn,hC,hS];and_intros<;>(try omega);apply Z;refine zk [1,5,8,17,19,20,89,90,91] ?_;refine zr q44_1 fun _ _ Z=>?_;simp(disch:=omega)[aB,aA,hn,hC,hS];apply Z;apply aF;refine zr q44_1 fun _ _ Z=>?_;simp(disch:=omega)[aB,aA,hn,hC,hS];apply Z;refine zI ?_ ?_<;>intro c9<;>try simp at c9
  .have hnx:=aUo i c8 c9;refine zk [1,5,8,17,19,20,89,90,91] ?_;refine zt q44_1 fun _ _ Z=>?_;simp(disch:=omega)[aB,aA,hn,hC,hS];apply Z;apply gI;refine zt q44_1 fun _ _ Z=>?_;refine zs 8 fun _ Y=>?_;simp(disch:=omega)[aB,aA,hn,hC,hS];and_intros<;>(try omega);apply Y;simp(disch:=omega)[aB,aA,hn,hC,hS];apply Z;apply zB;refine zk [1,5,8,17,19,20,89,90,91] ?_;refine zt q44_1 fun _ _ Z=>?_;simp(disch:=omega)[aB,aA,hn,hC,hS];and_intros<;>(try omega);apply Z;refine zq (k+1) ?_ ?_ ?_
   .omega
   .try dsimp only
    omega
   simp(disch:=omega)[aB,aA,hnx,hn,hC,hS]
  have hnx:=aT2 i c8 c9;apply zA;refine zk [1,5,8,17,19,20,89,90,91] ?_;refine zt q44_1 fun _ _ Z=>?_;refine zs 8 fun _ Y=>?_;simp(disch:=omega)[aB,aA,hn,hC,hS];and_intros<;>(try omega);apply Y;simp(disch:=omega)[aB,aA,hn,hC,hS];apply Z;apply zB;refine zk [1,5,8,17,19,20,89,90,91] ?_;refine zt q44_1 fun _ _ Z=>?_;simp(disch:=omega)[aB,aA,hn,hC,hS];and_intros<;>(try omega);apply Z;refine zq (k+1) ?_ ?_ ?_
  .omega
  .try dsimp only
   omega
  simp(disch:=omega)[aB,aA,hnx,hn,hC,hS]
 obtain rfl:k=C.length:=by omega
 apply zE;apply aF;refine zr q44_1 fun _ _ Z=>?_;simp(disch:=omega)[aB,aA,hn,hC,hS];and_intros<;>(try omega);apply Z;apply aS;refine zk [1,5,8,17,107,108,109] ?_;refine aZ (fun(k:Nat)=> [(109,.d (.v (.int .i64 (k:Int)))),(17,.d (.sl true ((cTs i C C.length++aDs i n.attrs o.attrs k).map kF))),(22,.d (.any)),(23,.d (.any)),(24,.d (.any))]) [17,22,23,24,109,110,111,112,113,114,115,116,117,118,119,120,121,122,123,124,125,126,127,128,129,130] (fun(k:Nat)=>k<=n.attrs.length) (fun(k:Nat)=>n.attrs.length - k) (0) (by simp <;> rfl) ?_ ?_ ?_
 .simp [aDs]
 .simp
 rintro k hk;simp only [aP,aN];have hl1:=Jb i C C.length (aV _);have hl2:=Rt i n.attrs o.attrs k hk;refine zr q44_1 fun _ _ Z=>?_;simp(disch:=omega)[aB,aA,hn,hC,hS];apply Z;apply aF;refine zI ?_ ?_<;>intro c10<;>try simp at c10
 .apply kR;refine zr q44_1 fun _ _ Z=>?_;simp(disch:=omega)[aB,aA,hn,hC,hS];and_intros<;>(try omega);apply Z;refine zk [1,5,8,17,22,23,24,107,108,109] ?_;refine zr q44_1 fun _ _ Z=>?_;refine zs 4 fun _ Y=>?_;simp(disch:=omega)[aB,aA,hn,hC,hS];apply Y;refine aE fun _ Y=>?_;simp(disch:=omega)[aB,aA,hn,hC,hS];refine cB (Xe o.attrs n.attrs[k].name _ (by omega)) ?_;apply Y;simp(disch:=omega)[aB,aA,hn,hC,hS];apply Z;refine zk [1,5,8,17,22,23,24,107,108,109] ?_;refine zr q44_1 fun _ _ Z=>?_;simp(disch:=omega)[aB,aA,hn,hC,hS];apply Z;refine zI ?_ ?_<;>intro c11<;>try simp at c11
  .have hnx:=aPh i (b:=o.attrs) c10 c11;refine zk [1,5,8,17,22,23,24,107,108,109] ?_;refine zt q44_1 fun _ _ Z=>?_;simp(disch:=omega)[aB,aA,hn,hC,hS];and_intros<;>(try omega);apply Z;apply zB;refine zk [1,5,8,17,22,23,24,107,108,109] ?_;refine zt q44_1 fun _ _ Z=>?_;simp(disch:=omega)[aB,aA,hn,hC,hS];and_intros<;>(try omega);apply Z;refine zq (k+1) ?_ ?_ ?_
   .omega
   .try dsimp only
    omega
   simp(disch:=omega)[aB,aA,hnx,hn,hC,hS]
  have hnx:=aTd i (b:=o.attrs) c10 c11;apply mM;refine zk [1,5,8,17,22,23,24,107,108,109] ?_;refine zt q44_1 fun _ _ Z=>?_;simp(disch:=omega)[aB,aA,hn,hC,hS];and_intros<;>(try omega);apply Z;refine zq (k+1) ?_ ?_ ?_
  .omega
  .try dsimp only
   omega
  simp(disch:=omega)[aB,aA,hnx,hn,hC,hS]
 obtain rfl:k=n.attrs.length:=by omega
 apply zE;apply aF;refine zr q44_1 fun _ _ Z=>?_;simp(disch:=omega)[aB,aA,hn,hC,hS];and_intros<;>(try omega);apply Z;apply aS;refine zk [1,5,8,17,132,133,134] ?_;refine aZ (fun(k:Nat)=> [(134,.d (.v (.int .i64 (k:Int)))),(17,.d (.sl true ((cTs i C C.length++aDs i n.attrs o.attrs n.attrs.length++aSs i n.attrs o.attrs k).map kF))),(26,.d (.any)),(27,.d (.any)),(28,.d (.any))]) [17,26,27,28,134,135,136,137,138,139,140,141,142,143,144,145,146,147,148,149,150,151,152,153,154,155,156,157,158,159,160,161,162,163] (fun(k:Nat)=>k<=o.attrs.length) (fun(k:Nat)=>o.attrs.length - k) (0) (by simp <;> rfl) ?_ ?_ ?_
 .simp [aSs]
 .simp
 rintro k hk;simp only [aP,aN];have hl1:=Jb i C C.length (aV _);have hl2:=Rt i n.attrs o.attrs n.attrs.length (aV _);have hl3:=aC4 i n.attrs o.attrs k hk;refine zr q44_1 fun _ _ Z=>?_;simp(disch:=omega)[aB,aA,hn,hC,hS];apply Z;apply aF;refine zI ?_ ?_<;>intro c12<;>try simp at c12
 .apply kR;refine zr q44_1 fun _ _ Z=>?_;simp(disch:=omega)[aB,aA,hn,hC,hS];and_intros<;>(try omega);apply Z;refine zk [1,5,8,17,26,27,28,132,133,134] ?_;refine zr q44_1 fun _ _ Z=>?_;refine zs 4 fun _ Y=>?_;simp(disch:=omega)[aB,aA,hn,hC,hS];apply Y;refine aE fun _ Y=>?_;simp(disch:=omega)[aB,aA,hn,hC,hS];refine cB (Xe n.attrs o.attrs[k].name _ (by omega)) ?_;apply Y;simp(disch:=omega)[aB,aA,hn,hC,hS];apply Z;refine zk [1,5,8,17,26,27,28,132,133,134] ?_;refine pB q44_1 fun all hall _ Z=>?_;have ga2:aT all 2=some 148:=hall 2;refine zs 3 fun _ Y=>?_;simp(disch:=omega)[aB,aA,ga2,hn,hC,hS];apply Y;refine zb 148 ?_ ?_<;>intro g13<;>try simp at g13
  .have hnx:=aB9 i (a:=n.attrs) c12 (by unfold Bb;simp [g13]);simp(disch:=omega)[aB,aA,ga2,hn,hC,hS];apply Z;refine bS (t:=true) (by simp) (fun _=>?_) (fun h=>by cases h);refine zk [1,5,8,17,26,27,28,132,133,134] ?_;refine zt q44_1 fun _ _ Z=>?_;refine zs 8 fun _ Y=>?_;simp(disch:=omega)[aB,aA,hn,hC,hS];and_intros<;>(try omega);apply Y;simp(disch:=omega)[aB,aA,hn,hC,hS];and_intros<;>(try omega);apply Z;apply zB;refine zk [1,5,8,17,26,27,28,132,133,134] ?_;refine zt q44_1 fun _ _ Z=>?_;simp(disch:=omega)[aB,aA,hn,hC,hS];and_intros<;>(try omega);apply Z;refine zq (k+1) ?_ ?_ ?_
   .omega
   .try dsimp only
    omega
   simp(disch:=omega)[aB,aA,hnx,hn,hC,hS]
  simp(disch:=omega)[aB,aA,ga2,hn,hC,hS];apply Z;refine zI ?_ ?_<;>intro c14<;>try simp at c14
  .have hnx:=aB9 i (a:=n.attrs) c12 (by unfold Bb;simp [c14]);refine zk [1,5,8,17,26,27,28,132,133,134] ?_;refine zt q44_1 fun _ _ Z=>?_;refine zs 8 fun _ Y=>?_;simp(disch:=omega)[aB,aA,hn,hC,hS];and_intros<;>(try omega);apply Y;simp(disch:=omega)[aB,aA,hn,hC,hS];and_intros<;>(try omega);apply Z;apply zB;refine zk [1,5,8,17,26,27,28,132,133,134] ?_;refine zt q44_1 fun _ _ Z=>?_;simp(disch:=omega)[aB,aA,hn,hC,hS];and_intros<;>(try omega);apply Z;refine zq (k+1) ?_ ?_ ?_
   .omega
   .try dsimp only
    omega
   simp(disch:=omega)[aB,aA,hnx,hn,hC,hS]
  have hnx:=aTc i (a:=n.attrs) c12 (by unfold Bb;simp [g13,c14]);apply mM;refine zk [1,5,8,17,26,27,28,132,133,134] ?_;refine zt q44_1 fun _ _ Z=>?_;simp(disch:=omega)[aB,aA,hn,hC,hS];and_intros<;>(try omega);apply Z;refine zq (k+1) ?_ ?_ ?_
  .omega
  .try dsimp only
   omega
  simp(disch:=omega)[aB,aA,hnx,hn,hC,hS]
 obtain rfl:k=o.attrs.length:=by omega
 apply zE;apply aF;refine zr q44_1 fun _ _ Z=>?_;refine zs 4 fun _ Y=>?_;simp(disch:=omega)[aB,aA,hn,hC,hS];apply Y;refine aE fun _ Y=>?_;simp(disch:=omega)[aB,aA,hn,hC,hS];refine cB (aFw n.styles o.styles _ (by omega) (by omega)) ?_;rw [hS];apply Y;simp(disch:=omega)[aB,aA,hn,hC,hS];and_intros<;>(try omega);apply Z;apply aS;refine zk [1,17,168,169,170] ?_;refine aZ (fun(k:Nat)=> [(170,.d (.v (.int .i64 (k:Int)))),(17,.d (.sl true ((cTs i C C.length++aDs i n.attrs o.attrs n.attrs.length++aSs i n.attrs o.attrs o.attrs.length++sTs i S k).map kF))),(30,.d (.any))]) [17,30,170,171,172,173,174,175,176,177,178,179,180,181,182,183,184,185,186,187,188,189,190,191,192] (fun(k:Nat)=>k<=S.length) (fun(k:Nat)=>S.length - k) (0) (by simp <;> rfl) ?_ ?_ ?_
 .simp [sTs]
 .simp
 rintro k hk;simp only [aP,aN];have hl1:=Jb i C C.length (aV _);have hl2:=Rt i n.attrs o.attrs n.attrs.length (aV _);have hl3:=aC4 i n.attrs o.attrs o.attrs.length (aV _);have hl4:=aRd i S k hk;refine zr q44_1 fun _ _ Z=>?_;simp(disch:=omega)[aB,aA,hn,hC,hS];apply Z;apply aF;refine zI ?_ ?_<;>intro c15<;>try simp at c15
 .apply kR;refine zr q44_1 fun _ _ Z=>?_;simp(disch:=omega)[aB,aA,hn,hC,hS];and_intros<;>(try omega);apply Z;refine zr q44_1 fun _ _ Z=>?_;simp(disch:=omega)[aB,aA,hn,hC,hS];apply Z;refine zI ?_ ?_<;>intro c16<;>try simp at c16
  .have hnx:=aVo i c15 c16;refine zk [1,17,30,168,169,170] ?_;refine zt q44_1 fun _ _ Z=>?_;simp(disch:=omega)[aB,aA,hn,hC,hS];and_intros<;>(try omega);apply Z;apply zB;refine zk [1,17,30,168,169,170] ?_;refine zt q44_1 fun _ _ Z=>?_;simp(disch:=omega)[aB,aA,hn,hC,hS];and_intros<;>(try omega);apply Z;refine zq (k+1) ?_ ?_ ?_
   .omega
   .try dsimp only
    omega
   simp(disch:=omega)[aB,aA,hnx,hn,hC,hS]
  have hnx:=aUe i c15 c16;refine zk [1,17,30,168,169,170] ?_;refine zt q44_1 fun _ _ Z=>?_;refine zs 8 fun _ Y=>?_;simp(disch:=omega)[aB,aA,hn,hC,hS];and_intros<;>(try omega);apply Y;simp(disch:=omega)[aB,aA,hn,hC,hS];and_intros<;>(try omega);apply Z;apply zB;refine zk [1,17,30,168,169,170] ?_;refine zt q44_1 fun _ _ Z=>?_;simp(disch:=omega)[aB,aA,hn,hC,hS];and_intros<;>(try omega);apply Z;refine zq (k+1) ?_ ?_ ?_
  .omega
  .try dsimp only
   omega
  simp(disch:=omega)[aB,aA,hnx,hn,hC,hS]
 obtain rfl:k=S.length:=by omega
 apply zE;refine zr q44_1 fun _ _ Z=>?_;simp(disch:=omega)[aB,aA,hn,hC,hS];apply Z;apply aD;have hm:uD n true i o=0:=by
  unfold uD;rw [aC (by simp),aC c2,aC (fun h=>h c3),aC (by rw [hall];simp)]
 simp [aK,Tx,hn,c1,hm,aQm,hC,hS]
end Go.Proofs.YtbgfljpnhhdkoaaGreat
