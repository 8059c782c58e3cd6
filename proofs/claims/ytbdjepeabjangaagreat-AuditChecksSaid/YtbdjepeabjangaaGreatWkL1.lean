import Derived.Test.YtbdjepeabjangaaGreatVmTab
import Derived.Test.YtbdjepeabjangaaGreatVmZ
import Derived.Test.YtbdjepeabjangaaGreatVmX6
set_option maxRecDepth 20000
set_option linter.all false
set_option maxHeartbeats 8000000
open Go.Proofs.Tryz
namespace Go.Proofs.YtbdjepeabjangaaGreat
open Go Go.Vm
abbrev Ls:=List ByteArray
@[simp] abbrev dl(l:Ls):D:= .sl false (l.map D.str)
@[simp] abbrev dlo(l:Ls):D:= .sl true (l.map D.str)
def qY(n:Nat)(s:ByteArray):ByteArray:=if n<s.size then s.extract 0 n else s
theorem oA(n:Nat)(s:ByteArray):(qY n s).size<=n:=by
 unfold qY;split
 .simp;omega
 omega
theorem tN(s:ByteArray)(n:Nat)(σ:List (List D))(hn:n<=1000000):Ct prog 32 [D.str s,D.int n] σ (fun r σ'=>r= .v (.string (qY n s))/\σ'=σ):=by
 refine zf func32 ?_;refine bT fun _ _ Z=>?_;simp;apply Z;apply aF;refine bT fun _ _ Z=>?_;simp;and_intros<;>(try omega);apply Z;refine zI ?_ ?_<;>intro c1<;>try simp at c1
 .refine bT fun _ _ Z=>?_;simp;and_intros<;>(try omega);apply Z;apply aE;simp [aP,qY,c1]
 apply zA;refine bT fun _ _ Z=>?_;simp;apply Z;apply aE;simp [aP,qY];intro h;omega
structure AT where
 name:ByteArray
 value:ByteArray
 deriving DecidableEq
@[simp] abbrev cH(s:AT):D:= .agg [.v (.string s.name),.v (.string s.value)]
structure PI where
 name:ByteArray
 value:Int
 deriving DecidableEq
@[simp] abbrev bY(s:PI):D:= .agg [.v (.string s.name),.v (.int .i64 s.value)]
def cA(x:AT):List D:= [D.str x.name,D.str x.value]
def cP(x:PI):List D:= [D.str x.name,D.int x.value]
def pR {α:Type} (l:List α)(i:Nat)(x:α):List α:=l.take i++x::l.drop i
theorem oC {α:Type} (l:List α)(i:Nat)(x:α)(h:i<=l.length):(pR l i x).length=l.length+1:=by simp [pR];omega
def Dc(k:Nat):D:=if k=1 then .any else .agg (List.replicate k .any)
theorem xC {k:Nat} :(Dc k).cells=List.replicate k .any:=by
 unfold Dc;split
 .rename_i h;subst h;rfl
 rfl
theorem aLh {k:Nat} :(Dc k).ncells=k/\(Dc k).arr=true:=by
 constructor
 .rw [<- dP,xC,cY]
 unfold D.arr;rw [xC,eT];intro x hx;rw [nK hx];rfl
section
variable {α:Type} {f:α->List D} {d:α->D} {k:Nat}
theorem Vk(hd:∀a,(d a).cells=f a)(hf:∀a,(f a).length=k)(l:List α)(i r:Nat)(hi:i<l.length)(hr:k<=r):((l.drop i).map d++ [Dc k]).flatMap D.cells<+:List.drop (i * k) (l.flatMap f++List.replicate r .any):=by
 have e:l.flatMap f=(l.take i).flatMap f++(l.drop i).flatMap f:=by rw [<- gB,fP]
 rw [e,bU,<- mG hf l i hi,vF,gB,dI hd];refine⟨List.replicate (r - k) .any,?_⟩;simp only [iU,Bd,iC,xC,bU,Ik];rw [show k+(r - k)=r by omega]
theorem Pn(hd:∀a,(d a).cells=f a)(hf:∀a,(f a).length=k)(l:List α)(i r:Nat)(hi:i<l.length)(hr:k<=r):dK (l.flatMap f++List.replicate r .any) ((i+1) * k) ((((l.drop i).map d++ [Dc k]).take (l.length - i)).flatMap D.cells)=(l.take (i+1)).flatMap f++((l.drop i).flatMap f++List.replicate (r - k) .any):=by
 have e:l.flatMap f=(l.take (i+1)).flatMap f++(l.drop (i+1)).flatMap f:=by rw [<- gB,fP]
 have e2:((l.drop i).map d++ [Dc k]).take (l.length - i)=(l.drop i).map d:=by
  rw [Ij (by simp),bZ (by simp)]
 have e3:(l.flatMap f++List.replicate r (D.any))=(l.take (i+1)).flatMap f++(((l.drop (i+1)).flatMap f++List.replicate k .any)++List.replicate (r - k) .any):=by
  rw [e,bU,bU,Ik,show k+(r - k)=r by omega]
 have e4:((l.take (i+1)).flatMap f).length=(i+1) * k:=by rw [dM hf,bF,iR (by omega)]
 rw [e2,dI hd,e3,<- e4];refine lQ _ _ _ _ ?_;rw [bC,dM hf,dM hf,cY,dO,dO,<- pQ];congr 1;omega
theorem Mp(hf:∀a,(f a).length=k)(l:List α)(i:Nat)(x:α)(R:List D)(hi:i<l.length):dK ((l.take (i+1)).flatMap f++((l.drop i).flatMap f++R)) (i * k) (f x)=(pR l i x).flatMap f++R:=by
 have e:(l.take (i+1)).flatMap f=(l.take i).flatMap f++f l[i]:=by rw [bB l i hi,gB];simp
 rw [e,bU,<- mG hf l i hi,lQ _ _ _ _ (by rw [hf,hf])];simp [pR]
theorem Eu(hd:∀a,(d a).cells=f a)(l:List α)(i r:Nat):((l.take i).map d).flatMap D.cells<+:l.flatMap f++List.replicate r .any:=by
 rw [dI hd];have e:l.flatMap f=(l.take i).flatMap f++(l.drop i).flatMap f:=by rw [<- gB,fP]
 rw [e,bU];exact cU _ _
theorem Ir(hd:∀a,(d a).cells=f a)(l:List α)(i:Nat):((l.take i).map d).flatMap D.cells<+:l.flatMap f:=by
 have:=Eu (f:=f) hd l i 0;simpa using this
theorem mH(hd:∀a,(d a).ncells=k/\(d a).arr=true)(l:List α):∀y∈l.map d,y.ncells=k/\y.arr=true:=fun y hy=>by
 obtain⟨a,_,rfl⟩:=bW.1 hy;exact hd a
theorem aHp(hd:∀a,(d a).ncells=k/\(d a).arr=true)(l:List α):∀y∈l.map d++ [Dc k],y.ncells=k/\y.arr=true:=fun y hy=>by
 rcases dZ.1 hy with h | h
 .exact mH hd l y h
 simp at h;subst h;exact aLh
theorem Qj(hd:∀a,(d a).cells=f a)(hf:∀a,(f a).length=k)(l:List α)(i r:Nat)(hi:i<l.length):((l.drop i).map d).flatMap D.cells<+:List.drop (i * k) (l.flatMap f++List.replicate r .any):=by
 have e:l.flatMap f=(l.take i).flatMap f++(l.drop i).flatMap f:=by rw [<- gB,fP]
 rw [e,bU,<- mG hf l i hi,vF,dI hd];exact cU _ _
theorem Sh {Z:D} (hZ:Z.ncells=k):∀n:Nat,((List.replicate n Z).flatMap D.cells).length=n * k
 | 0=>by simp
 | n+1=>by rw [Be,iU,bC,Sh hZ n,dP,hZ,pQ];omega
theorem Nt(hf:∀a,(f a).length=k)(l:List α)(i:Nat)(x:α)(R:List D)(hi:i<l.length)(hR:k<=R.length):dK ((l.take i).flatMap f++R) (i * k) (f x)=(l.take i).flatMap f++(f x++R.drop k):=by
 conv=>lhs;rw [<- fP k R]
 rw [<- mG hf l i hi,lQ _ _ _ _ (by rw [hf,bF];omega)]
theorem Nw(hd:∀a,(d a).cells=f a)(hf:∀a,(f a).length=k)(l:List α)(i:Nat)(x:α)(R:List D)(hi:i<l.length)(hR:(l.length - i) * k<=R.length):dK ((l.take i).flatMap f++(f x++R)) ((i+1) * k) (((l.drop i).map d).flatMap D.cells)=(pR l i x).flatMap f++R.drop ((l.length - i) * k):=by
 have e:((l.take i).flatMap f++f x).length=(i+1) * k:=by rw [bC,mG hf l i hi,hf,pQ]
 conv=>lhs;rw [<- fP ((l.length - i) * k) R]
 rw [<- bU,<- e,lQ _ _ _ _ (by rw [dI hd,dM hf,dO,bF];omega),dI hd];simp [pR]
end
theorem gI:Rf prog 148:=by
 obtain⟨ti,zv,h1,h2,_⟩:=iG aTa;exact⟨_,30,4,156,ti,func148,by kernel_rfl,by kernel_rfl,by kernel_rfl,by kernel_rfl,h1,h2⟩
@[simp] abbrev q42_1:Cfg:=⟨[0,6,9,17,23,55,61,83,94],[],[],[12,19,25,34,43,50,53,60,66,73,76,80],[30,40,45,54,67,77,82]⟩
theorem aGj(l:List AT)(x:AT)(i:Nat)(σ:List (List D))(hl:l.length<=1000000)(hi:i<=l.length):Ct prog 121 [.xs 2 (l.map cH),D.int i,.sl true [cH x]] σ (fun r σ'=>r= .xs 2 ((pR l i x).map cH)/\∃J,σ'=σ++J):=by
 refine zf func121 ?_;refine kV 0 2 rfl (by decide) fun cap rest hcap hcm hrest hk0 hes=>?_;subst hrest;simp only [cG] at hcap |-;rw [dI (f:=cA) (fun _=>rfl)];refine zr q42_1 fun _ _ Z=>?_;simp(disch:=omega)[gI,-bM,aL,aI,aD,aA];apply Z;refine zr q42_1 fun _ _ Z=>?_;simp(disch:=omega)[gI,-bM,aL,aI,aD,aA];and_intros<;>(try omega);apply Z;refine zr q42_1 fun _ _ Z=>?_;simp(disch:=omega)[gI,-bM,aL,aI,aD,aA];and_intros<;>(try omega);apply Z;apply aF;refine zr q42_1 fun _ _ Z=>?_;simp(disch:=omega)[gI,-bM,aL,aI,aD,aA];apply Z;refine zI ?_ ?_<;>intro c1<;>try simp at c1
 apply zA;refine zr q42_1 fun _ _ Z=>?_;simp(disch:=omega)[gI,-bM,aL,aI,aD,aA];and_intros<;>(try omega);apply Z;apply aF;refine zk [0,1,2,6,7,8] ?_;refine zr q42_1 fun _ _ Z=>?_;simp(disch:=omega)[gI,-bM,aL,aI,aD,aA];apply Z;refine zI ?_ ?_<;>intro c2<;>try simp at c2
 .refine zr q42_1 fun _ _ Z=>?_;refine zs 3 fun _ Y=>?_;simp(disch:=omega)[gI,-bM,aL,aI,aD,aA];refine⟨by first | rfl | exact⟨rfl,rfl⟩ | trivial,_,l.map cH,⟨rfl,by simp only [bC,dM (f:=cA) (k:=2) (fun _=>rfl),cY];omega,by simp,hes,by rw [dI (f:=cA) (fun _=>rfl)];exact cU _ _,by simp;omega,by simp;omega⟩,?_⟩;and_intros<;>(try omega);apply Y;simp(disch:=omega)[gI,-bM,aL,aI,aD,aA];apply Z;apply aE;obtain rfl:i=l.length:=by omega
  simp [aP,pR]
 apply zA;apply aF;refine zr q42_1 fun _ _ Z=>?_;simp(disch:=omega)[gI,-bM,aL,aI,aD,aA];and_intros<;>(try omega);apply Z;refine zI ?_ ?_<;>intro c3<;>try simp at c3
 .refine zk [0,1,2,6,7,8] ?_;refine zr q42_1 fun _ _ Z=>?_;refine zs 8 fun _ Y=>?_;simp(disch:=omega)[gI,-bM,aL,aI,aD,aA];and_intros<;>(try omega);apply Y;refine zs 1 fun _ Y=>?_;simp(disch:=omega)[gI,-bM,aL,aI,aD,aA];refine⟨(l.take i).map cH,⟨⟨by simp;omega,by first | exact Ir (f:=cA) (fun _=>rfl) l i | exact Eu (f:=cA) (fun _=>rfl) l i _⟩,(mH (d:=cH) (fun _=>⟨rfl,rfl⟩) _),by omega,by omega,by omega,by omega,by first | rfl | exact⟨rfl,rfl⟩ | trivial⟩,?_⟩;and_intros<;>(try omega);apply Y;simp(disch:=omega)[gI,-bM,aL,aI,aD,aA];apply Z;refine rE 9 2 rfl (by decide) fun cap2 rest2 hcap2 hcm2 hrest2 hk2 hes2=>?_;simp only [bC,cG,bF,cY,iR hi] at hcap2 hrest2 |-;rw [gB,show List.flatMap D.cells (List.take i (List.map cH l))=(l.take i).flatMap cA from by rw [<- sF];exact dI (f:=cA) (fun _=>rfl) _];simp only [bU];have hR:((List.replicate (l.length+1 - i) (tX 2 #[.string ⟨#[]⟩,.string ⟨#[]⟩])).flatMap D.cells++rest2).length=(cap2 - i) * 2:=by rw [bC,Sh (k:=2) rfl,hrest2];omega
  generalize (List.replicate (l.length+1 - i) (tX 2 #[.string ⟨#[]⟩,.string ⟨#[]⟩])).flatMap D.cells++rest2=R at hR |-;refine zk [0,1,2,6,7,8,9] ?_;refine zr q42_1 fun _ _ Z=>?_;simp(disch:=omega)[gI,-bM,aL,aI,aD,aA];have hlt:i<l.length:=by omega
  refine⟨by omega, [cH x],_,⟨rfl,(fun y hy=>by simp only [iW] at hy;subst hy;exact⟨rfl,rfl⟩),rfl,by simp only [bC,dM (f:=cA) (k:=2) (fun _=>rfl),show ∀a,(cA a).length=2 from fun _=>rfl,cY,cG,dO,bF,cI,dU] at *;omega⟩,?_⟩;rw [show min [cH x].length (l.length+1 - i)=1 by first | (simp;done) | (simp;omega),show List.flatMap D.cells (List.take 1 [cH x])=cA x from rfl];have row:=Nt (f:=cA) (k:=2) (fun _=>rfl) l i x R hlt (by rw [hR];omega)
  skip
  rw [row];clear row;have hR3:(R.drop 2).length=(cap2 - i - 1) * 2:=by rw [dO,hR];omega
  generalize R.drop 2=R3 at hR3 |-;and_intros<;>(try omega);apply Z;refine zk [0,1,2,6,7,8,9] ?_;refine zd q42_1 [.op {},.op {},.op {},.op {},.op {},.op {},.op {},.op {},.op {rO:=true,wO:=true}] fun all hall _ Z=>?_;refine iK 8 fun _ Y=>?_;simp(disch:=omega)[gI,-bM,aL,aI,aD,aA];and_intros<;>(try omega);apply Y;simp(disch:=omega)[gI,-bM,aL,aI,aD,aA];refine⟨(l.drop i).map cH,_,⟨⟨by simp,by have:=Qj (f:=cA) (d:=cH) (k:=2) (fun _=>rfl) (fun _=>rfl) l i 0 hlt;first | exact this | simpa using this⟩,(mH (d:=cH) (fun _=>⟨rfl,rfl⟩) _),rfl,by simp only [bC,dM (f:=cA) (k:=2) (fun _=>rfl),show ∀a,(cA a).length=2 from fun _=>rfl,cY,cG,dO,bF,cI,dU] at *;omega⟩,?_⟩;rw [show min ((l.drop i).map cH).length (l.length - i)=l.length - i by simp,bZ (show((l.drop i).map cH).length<=l.length - i by simp)];have row:=Nw (f:=cA) (d:=cH) (k:=2) (fun _=>rfl) (fun _=>rfl) l i x R3 hlt (by rw [hR3];omega)
  skip
  rw [row];clear row;have hR4:(R3.drop ((l.length - i) * 2)).length=(cap2 - i - 1 - (l.length - i)) * 2:=by rw [dO,hR3];omega
  generalize R3.drop _=R4 at hR4 |-;and_intros<;>(try omega);apply Z;refine zk [0,1,2,6,7,8,9] ?_;refine zr q42_1 fun _ _ Z=>?_;simp(disch:=omega)[gI,-bM,aL,aI,aD,aA];apply Z;refine eY 6 2 (σ.length+1) (l.length+1) cap2 ((pR l i x).map cH) ((pR l i x).flatMap cA++R4) (by simp <;> rfl) (by simp [aL,aD]) (by omega) (by have:=oC l i x hi;simp only [bC,dM (f:=cA) (k:=2) (fun _=>rfl),this] at *;omega) (by simp [oC l i x hi]) (mH (d:=cH) (fun _=>⟨rfl,rfl⟩) _) (by rw [dI (f:=cA) (fun _=>rfl)];exact cU _ _) ?_;apply aE;simp [aP]
 apply zA;refine zk [0,1,2,6,7,8] ?_;refine zr q42_1 fun _ _ Z=>?_;simp(disch:=omega)[gI,-bM,aL,aI,aD,aA];and_intros<;>(try omega);apply Z;apply aF;refine zk [0,1,2,6,7,8] ?_;refine zr q42_1 fun _ _ Z=>?_;simp(disch:=omega)[gI,-bM,aL,aI,aD,aA];and_intros<;>(try omega);apply Z;refine zI ?_ ?_<;>intro c4<;>try simp at c4
 refine zk [0,1,2,6,7,8] ?_;refine zd q42_1 [.op {},.op {},.op {},.op {},.op {},.op {},.op {},.op {},.op {rO:=true,wO:=true}] fun all hall _ Z=>?_;refine iK 8 fun _ Y=>?_;simp(disch:=omega)[gI,-bM,aL,aI,aD,aA];and_intros<;>(try omega);apply Y;simp(disch:=omega)[gI,-bM,aL,aI,aD,aA];have hlt:i<l.length:=by omega
 refine⟨(l.drop i).map cH++ [Dc 2],_,⟨⟨by first | (simp;done) | (simp;omega),by have:=Vk (f:=cA) (d:=cH) (k:=2) (fun _=>rfl) (fun _=>rfl) l i ((cap - l.length) * 2) hlt (show 2<=((cap - l.length) * 2) by omega);first | exact this | simpa using this⟩,aHp (d:=cH) (fun _=>⟨rfl,rfl⟩) _,rfl,by simp only [bC,dM (f:=cA) (k:=2) (fun _=>rfl),show ∀a,(cA a).length=2 from fun _=>rfl,cY,cG,dO,bF,cI,dU] at *;omega⟩,?_⟩;rw [show min ((l.drop i).map cH++ [Dc 2]).length (l.length - i)=l.length - i by first | (simp;done) | (simp;omega)];have row:=Pn (f:=cA) (d:=cH) (k:=2) (fun _=>rfl) (fun _=>rfl) l i ((cap - l.length) * 2) hlt (show 2<=((cap - l.length) * 2) by omega)
 skip
 rw [row];clear row;have hR:(List.replicate (((cap - l.length) * 2) - 2) D.any).length=((cap - l.length) * 2) - 2:=cY;generalize List.replicate _ D.any=R at hR |-;and_intros<;>(try omega);apply Z;refine zk [0,1,2,6,7,8] ?_;refine zr q42_1 fun _ _ Z=>?_;simp(disch:=omega)[gI,-bM,aL,aI,aD,aA];refine⟨by omega, [cH x],_,⟨rfl,(fun y hy=>by simp only [iW] at hy;subst hy;exact⟨rfl,rfl⟩),rfl,by simp only [bC,dM (f:=cA) (k:=2) (fun _=>rfl),show ∀a,(cA a).length=2 from fun _=>rfl,cY,cG,dO,bF,cI,dU] at *;omega⟩,?_⟩;rw [show min [cH x].length (l.length+1 - i)=1 by first | (simp;done) | (simp;omega),show List.flatMap D.cells (List.take 1 [cH x])=cA x from rfl];have row:=Mp (f:=cA) (k:=2) (fun _=>rfl) l i x R hlt
 skip
 rw [row];clear row;and_intros<;>(try omega);apply Z;refine zr q42_1 fun _ _ Z=>?_;simp(disch:=omega)[gI,-bM,aL,aI,aD,aA];apply Z;refine eY 6 2 σ.length (l.length+1) cap ((pR l i x).map cH) ((pR l i x).flatMap cA++R) (by simp <;> rfl) (by simp [aL,aD]) (by omega) (by have:=oC l i x hi;simp only [bC,dM (f:=cA) (k:=2) (fun _=>rfl),this] at *;omega) (by simp [oC l i x hi]) (mH (d:=cH) (fun _=>⟨rfl,rfl⟩) _) (by rw [dI (f:=cA) (fun _=>rfl)];exact cU _ _) ?_;apply aE;simp [aP]
theorem aM9(N:Nat)(l:List AT):Sc N (.xs 2 (l.map cH)):=Sc.xs fun e he y hy=>by
 obtain⟨a,_,rfl⟩:=bW.1 he;simp only [D.cells,gA,lF,lC] at hy;rcases hy with rfl | rfl <;> exact Sc.v _
theorem aKf(l:List AT)(x:AT)(i:Nat)(σ:List (List D))(hl:l.length<=1000000)(hi:i<=l.length):Ct prog 121 [.xs 2 (l.map cH),D.int i,.sl true [cH x]] σ (fun r σ'=>r= .xs 2 ((pR l i x).map cH)/\σ'=σ):=
 (aGj l x i σ hl hi).trim fun r σ' ⟨hr,J,hs⟩=>⟨σ,J,hs,rfl,by rw [hr];exact aM9 _ _,fun n cs h=> .inl h,hr,rfl⟩
theorem gJ:Rf prog 146:=by
 obtain⟨ti,zv,h1,h2,_⟩:=iG aS0;exact⟨_,32,4,158,ti,func146,by kernel_rfl,by kernel_rfl,by kernel_rfl,by kernel_rfl,h1,h2⟩
theorem aFb(l:List PI)(x:PI)(i:Nat)(σ:List (List D))(hl:l.length<=1000000)(hi:i<=l.length):Ct prog 120 [.xs 2 (l.map bY),D.int i,.sl true [bY x]] σ (fun r σ'=>r= .xs 2 ((pR l i x).map bY)/\∃J,σ'=σ++J):=by
 refine zf func120 ?_;refine kV 0 2 rfl (by decide) fun cap rest hcap hcm hrest hk0 hes=>?_;subst hrest;simp only [cG] at hcap |-;rw [dI (f:=cP) (fun _=>rfl)];refine zr q42_1 fun _ _ Z=>?_;simp(disch:=omega)[gJ,-bM,aL,aI,aD,aA];apply Z;refine zr q42_1 fun _ _ Z=>?_;simp(disch:=omega)[gJ,-bM,aL,aI,aD,aA];and_intros<;>(try omega);apply Z;refine zr q42_1 fun _ _ Z=>?_;simp(disch:=omega)[gJ,-bM,aL,aI,aD,aA];and_intros<;>(try omega);apply Z;apply aF;refine zr q42_1 fun _ _ Z=>?_;simp(disch:=omega)[gJ,-bM,aL,aI,aD,aA];apply Z;refine zI ?_ ?_<;>intro c1<;>try simp at c1
 apply zA;refine zr q42_1 fun _ _ Z=>?_;simp(disch:=omega)[gJ,-bM,aL,aI,aD,aA];and_intros<;>(try omega);apply Z;apply aF;refine zk [0,1,2,6,7,8] ?_;refine zr q42_1 fun _ _ Z=>?_;simp(disch:=omega)[gJ,-bM,aL,aI,aD,aA];apply Z;refine zI ?_ ?_<;>intro c2<;>try simp at c2
 .refine zr q42_1 fun _ _ Z=>?_;refine zs 3 fun _ Y=>?_;simp(disch:=omega)[gJ,-bM,aL,aI,aD,aA];refine⟨by first | rfl | exact⟨rfl,rfl⟩ | trivial,_,l.map bY,⟨rfl,by simp only [bC,dM (f:=cP) (k:=2) (fun _=>rfl),cY];omega,by simp,hes,by rw [dI (f:=cP) (fun _=>rfl)];exact cU _ _,by simp;omega,by simp;omega⟩,?_⟩;and_intros<;>(try omega);apply Y;simp(disch:=omega)[gJ,-bM,aL,aI,aD,aA];apply Z;apply aE;obtain rfl:i=l.length:=by omega
  simp [aP,pR]
 apply zA;apply aF;refine zr q42_1 fun _ _ Z=>?_;simp(disch:=omega)[gJ,-bM,aL,aI,aD,aA];and_intros<;>(try omega);apply Z;refine zI ?_ ?_<;>intro c3<;>try simp at c3
 .refine zk [0,1,2,6,7,8] ?_;refine zr q42_1 fun _ _ Z=>?_;refine zs 8 fun _ Y=>?_;simp(disch:=omega)[gJ,-bM,aL,aI,aD,aA];and_intros<;>(try omega);apply Y;refine zs 1 fun _ Y=>?_;simp(disch:=omega)[gJ,-bM,aL,aI,aD,aA];refine⟨(l.take i).map bY,⟨⟨by simp;omega,by first | exact Ir (f:=cP) (fun _=>rfl) l i | exact Eu (f:=cP) (fun _=>rfl) l i _⟩,(mH (d:=bY) (fun _=>⟨rfl,rfl⟩) _),by omega,by omega,by omega,by omega,by first | rfl | exact⟨rfl,rfl⟩ | trivial⟩,?_⟩;and_intros<;>(try omega);apply Y;simp(disch:=omega)[gJ,-bM,aL,aI,aD,aA];apply Z;refine rE 9 2 rfl (by decide) fun cap2 rest2 hcap2 hcm2 hrest2 hk2 hes2=>?_;simp only [bC,cG,bF,cY,iR hi] at hcap2 hrest2 |-;rw [gB,show List.flatMap D.cells (List.take i (List.map bY l))=(l.take i).flatMap cP from by rw [<- sF];exact dI (f:=cP) (fun _=>rfl) _];simp only [bU];have hR:((List.replicate (l.length+1 - i) (tX 2 #[.string ⟨#[]⟩,.int .i64 0])).flatMap D.cells++rest2).length=(cap2 - i) * 2:=by rw [bC,Sh (k:=2) rfl,hrest2];omega
  generalize (List.replicate (l.length+1 - i) (tX 2 #[.string ⟨#[]⟩,.int .i64 0])).flatMap D.cells++rest2=R at hR |-;refine zk [0,1,2,6,7,8,9] ?_;refine zr q42_1 fun _ _ Z=>?_;simp(disch:=omega)[gJ,-bM,aL,aI,aD,aA];have hlt:i<l.length:=by omega
  refine⟨by omega, [bY x],_,⟨rfl,(fun y hy=>by simp only [iW] at hy;subst hy;exact⟨rfl,rfl⟩),rfl,by simp only [bC,dM (f:=cP) (k:=2) (fun _=>rfl),show ∀a,(cP a).length=2 from fun _=>rfl,cY,cG,dO,bF,cI,dU] at *;omega⟩,?_⟩;rw [show min [bY x].length (l.length+1 - i)=1 by first | (simp;done) | (simp;omega),show List.flatMap D.cells (List.take 1 [bY x])=cP x from rfl];have row:=Nt (f:=cP) (k:=2) (fun _=>rfl) l i x R hlt (by rw [hR];omega)
  skip
  rw [row];clear row;have hR3:(R.drop 2).length=(cap2 - i - 1) * 2:=by rw [dO,hR];omega
  generalize R.drop 2=R3 at hR3 |-;and_intros<;>(try omega);apply Z;refine zk [0,1,2,6,7,8,9] ?_;refine zd q42_1 [.op {},.op {},.op {},.op {},.op {},.op {},.op {},.op {},.op {rO:=true,wO:=true}] fun all hall _ Z=>?_;refine iK 8 fun _ Y=>?_;simp(disch:=omega)[gJ,-bM,aL,aI,aD,aA];and_intros<;>(try omega);apply Y;simp(disch:=omega)[gJ,-bM,aL,aI,aD,aA];refine⟨(l.drop i).map bY,_,⟨⟨by simp,by have:=Qj (f:=cP) (d:=bY) (k:=2) (fun _=>rfl) (fun _=>rfl) l i 0 hlt;first | exact this | simpa using this⟩,(mH (d:=bY) (fun _=>⟨rfl,rfl⟩) _),rfl,by simp only [bC,dM (f:=cP) (k:=2) (fun _=>rfl),show ∀a,(cP a).length=2 from fun _=>rfl,cY,cG,dO,bF,cI,dU] at *;omega⟩,?_⟩;rw [show min ((l.drop i).map bY).length (l.length - i)=l.length - i by simp,bZ (show((l.drop i).map bY).length<=l.length - i by simp)];have row:=Nw (f:=cP) (d:=bY) (k:=2) (fun _=>rfl) (fun _=>rfl) l i x R3 hlt (by rw [hR3];omega)
  skip
  rw [row];clear row;have hR4:(R3.drop ((l.length - i) * 2)).length=(cap2 - i - 1 - (l.length - i)) * 2:=by rw [dO,hR3];omega
  generalize R3.drop _=R4 at hR4 |-;and_intros<;>(try omega);apply Z;refine zk [0,1,2,6,7,8,9] ?_;refine zr q42_1 fun _ _ Z=>?_;simp(disch:=omega)[gJ,-bM,aL,aI,aD,aA];apply Z;refine eY 6 2 (σ.length+1) (l.length+1) cap2 ((pR l i x).map bY) ((pR l i x).flatMap cP++R4) (by simp <;> rfl) (by simp [aL,aD]) (by omega) (by have:=oC l i x hi;simp only [bC,dM (f:=cP) (k:=2) (fun _=>rfl),this] at *;omega) (by simp [oC l i x hi]) (mH (d:=bY) (fun _=>⟨rfl,rfl⟩) _) (by rw [dI (f:=cP) (fun _=>rfl)];exact cU _ _) ?_;apply aE;simp [aP]
 apply zA;refine zk [0,1,2,6,7,8] ?_;refine zr q42_1 fun _ _ Z=>?_;simp(disch:=omega)[gJ,-bM,aL,aI,aD,aA];and_intros<;>(try omega);apply Z;apply aF;refine zk [0,1,2,6,7,8] ?_;refine zr q42_1 fun _ _ Z=>?_;simp(disch:=omega)[gJ,-bM,aL,aI,aD,aA];and_intros<;>(try omega);apply Z;refine zI ?_ ?_<;>intro c4<;>try simp at c4
 refine zk [0,1,2,6,7,8] ?_;refine zd q42_1 [.op {},.op {},.op {},.op {},.op {},.op {},.op {},.op {},.op {rO:=true,wO:=true}] fun all hall _ Z=>?_;refine iK 8 fun _ Y=>?_;simp(disch:=omega)[gJ,-bM,aL,aI,aD,aA];and_intros<;>(try omega);apply Y;simp(disch:=omega)[gJ,-bM,aL,aI,aD,aA];have hlt:i<l.length:=by omega
 refine⟨(l.drop i).map bY++ [Dc 2],_,⟨⟨by first | (simp;done) | (simp;omega),by have:=Vk (f:=cP) (d:=bY) (k:=2) (fun _=>rfl) (fun _=>rfl) l i ((cap - l.length) * 2) hlt (show 2<=((cap - l.length) * 2) by omega);first | exact this | simpa using this⟩,aHp (d:=bY) (fun _=>⟨rfl,rfl⟩) _,rfl,by simp only [bC,dM (f:=cP) (k:=2) (fun _=>rfl),show ∀a,(cP a).length=2 from fun _=>rfl,cY,cG,dO,bF,cI,dU] at *;omega⟩,?_⟩;rw [show min ((l.drop i).map bY++ [Dc 2]).length (l.length - i)=l.length - i by first | (simp;done) | (simp;omega)];have row:=Pn (f:=cP) (d:=bY) (k:=2) (fun _=>rfl) (fun _=>rfl) l i ((cap - l.length) * 2) hlt (show 2<=((cap - l.length) * 2) by omega)
 skip
 rw [row];clear row;have hR:(List.replicate (((cap - l.length) * 2) - 2) D.any).length=((cap - l.length) * 2) - 2:=cY;generalize List.replicate _ D.any=R at hR |-;and_intros<;>(try omega);apply Z;refine zk [0,1,2,6,7,8] ?_;refine zr q42_1 fun _ _ Z=>?_;simp(disch:=omega)[gJ,-bM,aL,aI,aD,aA];refine⟨by omega, [bY x],_,⟨rfl,(fun y hy=>by simp only [iW] at hy;subst hy;exact⟨rfl,rfl⟩),rfl,by simp only [bC,dM (f:=cP) (k:=2) (fun _=>rfl),show ∀a,(cP a).length=2 from fun _=>rfl,cY,cG,dO,bF,cI,dU] at *;omega⟩,?_⟩;rw [show min [bY x].length (l.length+1 - i)=1 by first | (simp;done) | (simp;omega),show List.flatMap D.cells (List.take 1 [bY x])=cP x from rfl];have row:=Mp (f:=cP) (k:=2) (fun _=>rfl) l i x R hlt
 skip
 rw [row];clear row;and_intros<;>(try omega);apply Z;refine zr q42_1 fun _ _ Z=>?_;simp(disch:=omega)[gJ,-bM,aL,aI,aD,aA];apply Z;refine eY 6 2 σ.length (l.length+1) cap ((pR l i x).map bY) ((pR l i x).flatMap cP++R) (by simp <;> rfl) (by simp [aL,aD]) (by omega) (by have:=oC l i x hi;simp only [bC,dM (f:=cP) (k:=2) (fun _=>rfl),this] at *;omega) (by simp [oC l i x hi]) (mH (d:=bY) (fun _=>⟨rfl,rfl⟩) _) (by rw [dI (f:=cP) (fun _=>rfl)];exact cU _ _) ?_;apply aE;simp [aP]
theorem aN7(N:Nat)(l:List PI):Sc N (.xs 2 (l.map bY)):=Sc.xs fun e he y hy=>by
 obtain⟨a,_,rfl⟩:=bW.1 he;simp only [D.cells,gA,lF,lC] at hy;rcases hy with rfl | rfl <;> exact Sc.v _
theorem aLm(l:List PI)(x:PI)(i:Nat)(σ:List (List D))(hl:l.length<=1000000)(hi:i<=l.length):Ct prog 120 [.xs 2 (l.map bY),D.int i,.sl true [bY x]] σ (fun r σ'=>r= .xs 2 ((pR l i x).map bY)/\σ'=σ):=
 (aFb l x i σ hl hi).trim fun r σ' ⟨hr,J,hs⟩=>⟨σ,J,hs,rfl,by rw [hr];exact aN7 _ _,fun n cs h=> .inl h,hr,rfl⟩
end Go.Proofs.YtbdjepeabjangaaGreat
