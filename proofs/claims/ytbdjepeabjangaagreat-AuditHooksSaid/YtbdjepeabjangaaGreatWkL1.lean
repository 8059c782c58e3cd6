import Derived.Test.YtbdjepeabjangaaGreatVmTab
import Derived.Test.YtbdjepeabjangaaGreatVmZ
import Derived.Test.YtbdjepeabjangaaGreatVmX6
set_option maxRecDepth 20000
set_option linter.all false
set_option maxHeartbeats 8000000
open Go.Proofs.Tryz
namespace Go.Proofs.YtbdjepeabjangaaGreat
open Go Go.Vm
abbrev Ls:=List ByteArray
@[simp] abbrev dl(l:Ls):D:= .sl false (l.map D.str)
@[simp] abbrev dlo(l:Ls):D:= .sl true (l.map D.str)
def pF(n:Nat)(s:ByteArray):ByteArray:=if n<s.size then s.extract 0 n else s
theorem mE(n:Nat)(s:ByteArray):(pF n s).size<=n:=by
 unfold pF;split
 .simp;omega
 omega
theorem sI(s:ByteArray)(n:Nat)(σ:List (List D))(hn:n<=1000000):Ct prog 32 [D.str s,D.int n] σ (fun r σ'=>r= .v (.string (pF n s))/\σ'=σ):=by
 refine zf func32 ?_;refine cL fun _ _ Z=>?_;simp;apply Z;apply aE;refine cL fun _ _ Z=>?_;simp;and_intros<;>(try omega);apply Z;refine zI ?_ ?_<;>intro c1<;>try simp at c1
 .refine cL fun _ _ Z=>?_;simp;and_intros<;>(try omega);apply Z;apply aC;simp [aT,pF,c1]
 apply zA;refine cL fun _ _ Z=>?_;simp;apply Z;apply aC;simp [aT,pF];intro h;omega
structure AT where
 name:ByteArray
 value:ByteArray
 deriving DecidableEq
@[simp] abbrev cD(s:AT):D:= .agg [.v (.string s.name),.v (.string s.value)]
structure PI where
 name:ByteArray
 value:Int
 deriving DecidableEq
@[simp] abbrev bV(s:PI):D:= .agg [.v (.string s.name),.v (.int .i64 s.value)]
def cA(x:AT):List D:= [D.str x.name,D.str x.value]
def cP(x:PI):List D:= [D.str x.name,D.int x.value]
def oE {α:Type} (l:List α)(i:Nat)(x:α):List α:=l.take i++x::l.drop i
theorem mB {α:Type} (l:List α)(i:Nat)(x:α)(h:i<=l.length):(oE l i x).length=l.length+1:=by simp [oE];omega
def Ab(k:Nat):D:=if k=1 then .any else .agg (List.replicate k .any)
theorem vE {k:Nat} :(Ab k).cells=List.replicate k .any:=by
 unfold Ab;split
 .rename_i h;subst h;rfl
 rfl
theorem aFe {k:Nat} :(Ab k).ncells=k/\(Ab k).arr=true:=by
 constructor
 .rw [<- dK,vE,cW]
 unfold D.arr;rw [vE,eJ];intro x hx;rw [lW hx];rfl
section
variable {α:Type} {f:α->List D} {d:α->D} {k:Nat}
theorem Qk(hd:∀a,(d a).cells=f a)(hf:∀a,(f a).length=k)(l:List α)(i r:Nat)(hi:i<l.length)(hr:k<=r):((l.drop i).map d++ [Ab k]).flatMap D.cells<+:List.drop (i * k) (l.flatMap f++List.replicate r .any):=by
 have e:l.flatMap f=(l.take i).flatMap f++(l.drop i).flatMap f:=by rw [<- fN,gL]
 rw [e,bN,<- lE hf l i hi,sS,fN,dB hd];refine⟨List.replicate (r - k) .any,?_⟩;simp only [hU,xZ,iK,vE,bN,Fw];rw [show k+(r - k)=r by omega]
theorem Ld(hd:∀a,(d a).cells=f a)(hf:∀a,(f a).length=k)(l:List α)(i r:Nat)(hi:i<l.length)(hr:k<=r):dE (l.flatMap f++List.replicate r .any) ((i+1) * k) ((((l.drop i).map d++ [Ab k]).take (l.length - i)).flatMap D.cells)=(l.take (i+1)).flatMap f++((l.drop i).flatMap f++List.replicate (r - k) .any):=by
 have e:l.flatMap f=(l.take (i+1)).flatMap f++(l.drop (i+1)).flatMap f:=by rw [<- fN,gL]
 have e2:((l.drop i).map d++ [Ab k]).take (l.length - i)=(l.drop i).map d:=by
  rw [Ep (by simp),bW (by simp)]
 have e3:(l.flatMap f++List.replicate r (D.any))=(l.take (i+1)).flatMap f++(((l.drop (i+1)).flatMap f++List.replicate k .any)++List.replicate (r - k) .any):=by
  rw [e,bN,bN,Fw,show k+(r - k)=r by omega]
 have e4:((l.take (i+1)).flatMap f).length=(i+1) * k:=by rw [dG hf,bB,iA (by omega)]
 rw [e2,dB hd,e3,<- e4];refine kR _ _ _ _ ?_;rw [aX,dG hf,dG hf,cW,dI,dI,<- nH];congr 1;omega
theorem Lh(hf:∀a,(f a).length=k)(l:List α)(i:Nat)(x:α)(R:List D)(hi:i<l.length):dE ((l.take (i+1)).flatMap f++((l.drop i).flatMap f++R)) (i * k) (f x)=(oE l i x).flatMap f++R:=by
 have e:(l.take (i+1)).flatMap f=(l.take i).flatMap f++f l[i]:=by rw [bM l i hi,fN];simp
 rw [e,bN,<- lE hf l i hi,kR _ _ _ _ (by rw [hf,hf])];simp [oE]
theorem Cp(hd:∀a,(d a).cells=f a)(l:List α)(i r:Nat):((l.take i).map d).flatMap D.cells<+:l.flatMap f++List.replicate r .any:=by
 rw [dB hd];have e:l.flatMap f=(l.take i).flatMap f++(l.drop i).flatMap f:=by rw [<- fN,gL]
 rw [e,bN];exact dA _ _
theorem Ev(hd:∀a,(d a).cells=f a)(l:List α)(i:Nat):((l.take i).map d).flatMap D.cells<+:l.flatMap f:=by
 have:=Cp (f:=f) hd l i 0;simpa using this
theorem lF(hd:∀a,(d a).ncells=k/\(d a).arr=true)(l:List α):∀y∈l.map d,y.ncells=k/\y.arr=true:=fun y hy=>by
 obtain⟨a,_,rfl⟩:=bY.1 hy;exact hd a
theorem Ym(hd:∀a,(d a).ncells=k/\(d a).arr=true)(l:List α):∀y∈l.map d++ [Ab k],y.ncells=k/\y.arr=true:=fun y hy=>by
 rcases dZ.1 hy with h | h
 .exact lF hd l y h
 simp at h;subst h;exact aFe
theorem Js(hd:∀a,(d a).cells=f a)(hf:∀a,(f a).length=k)(l:List α)(i r:Nat)(hi:i<l.length):((l.drop i).map d).flatMap D.cells<+:List.drop (i * k) (l.flatMap f++List.replicate r .any):=by
 have e:l.flatMap f=(l.take i).flatMap f++(l.drop i).flatMap f:=by rw [<- fN,gL]
 rw [e,bN,<- lE hf l i hi,sS,dB hd];exact dA _ _
theorem Mn {Z:D} (hZ:Z.ncells=k):∀n:Nat,((List.replicate n Z).flatMap D.cells).length=n * k
 | 0=>by simp
 | n+1=>by rw [yD,hU,aX,Mn hZ n,dK,hZ,nH];omega
theorem Lv(hf:∀a,(f a).length=k)(l:List α)(i:Nat)(x:α)(R:List D)(hi:i<l.length)(hR:k<=R.length):dE ((l.take i).flatMap f++R) (i * k) (f x)=(l.take i).flatMap f++(f x++R.drop k):=by
 conv=>lhs;rw [<- gL k R]
 rw [<- lE hf l i hi,kR _ _ _ _ (by rw [hf,bB];omega)]
theorem Lc(hd:∀a,(d a).cells=f a)(hf:∀a,(f a).length=k)(l:List α)(i:Nat)(x:α)(R:List D)(hi:i<l.length)(hR:(l.length - i) * k<=R.length):dE ((l.take i).flatMap f++(f x++R)) ((i+1) * k) (((l.drop i).map d).flatMap D.cells)=(oE l i x).flatMap f++R.drop ((l.length - i) * k):=by
 have e:((l.take i).flatMap f++f x).length=(i+1) * k:=by rw [aX,lE hf l i hi,hf,nH]
 conv=>lhs;rw [<- gL ((l.length - i) * k) R]
 rw [<- bN,<- e,kR _ _ _ _ (by rw [dB hd,dG hf,dI,bB];omega),dB hd];simp [oE]
end
theorem fX:Pf prog 148:=by
 obtain⟨ti,zv,h1,h2,_⟩:=gW aN9;exact⟨_,30,4,156,ti,func148,by kernel_rfl,by kernel_rfl,by kernel_rfl,by kernel_rfl,h1,h2⟩
@[simp] abbrev q42_1:Cfg:=⟨[0,6,9,17,23,55,61,83,94],[],[],[12,19,25,34,43,50,53,60,66,73,76,80],[30,40,45,54,67,77,82]⟩
theorem aAv(l:List AT)(x:AT)(i:Nat)(σ:List (List D))(hl:l.length<=1000000)(hi:i<=l.length):Ct prog 121 [.xs 2 (l.map cD),D.int i,.sl true [cD x]] σ (fun r σ'=>r= .xs 2 ((oE l i x).map cD)/\∃J,σ'=σ++J):=by
 refine zf func121 ?_;refine kQ 0 2 rfl (by decide) fun cap rest hcap hcm hrest hk0 hes=>?_;subst hrest;simp only [cC] at hcap |-;rw [dB (f:=cA) (fun _=>rfl)];refine zr q42_1 fun _ _ Z=>?_;simp(disch:=omega)[fX,-bG,aI,aF,aB,aA];apply Z;refine zr q42_1 fun _ _ Z=>?_;simp(disch:=omega)[fX,-bG,aI,aF,aB,aA];and_intros<;>(try omega);apply Z;refine zr q42_1 fun _ _ Z=>?_;simp(disch:=omega)[fX,-bG,aI,aF,aB,aA];and_intros<;>(try omega);apply Z;apply aE;refine zr q42_1 fun _ _ Z=>?_;simp(disch:=omega)[fX,-bG,aI,aF,aB,aA];apply Z;refine zI ?_ ?_<;>intro c1<;>try simp at c1
 apply zA;refine zr q42_1 fun _ _ Z=>?_;simp(disch:=omega)[fX,-bG,aI,aF,aB,aA];and_intros<;>(try omega);apply Z;apply aE;refine zk [0,1,2,6,7,8] ?_;refine zr q42_1 fun _ _ Z=>?_;simp(disch:=omega)[fX,-bG,aI,aF,aB,aA];apply Z;refine zI ?_ ?_<;>intro c2<;>try simp at c2
 .refine zr q42_1 fun _ _ Z=>?_;refine zs 3 fun _ Y=>?_;simp(disch:=omega)[fX,-bG,aI,aF,aB,aA];refine⟨by first | rfl | exact⟨rfl,rfl⟩ | trivial,_,l.map cD,⟨rfl,by simp only [aX,dG (f:=cA) (k:=2) (fun _=>rfl),cW];omega,by simp,hes,by rw [dB (f:=cA) (fun _=>rfl)];exact dA _ _,by simp;omega,by simp;omega⟩,?_⟩;and_intros<;>(try omega);apply Y;simp(disch:=omega)[fX,-bG,aI,aF,aB,aA];apply Z;apply aC;obtain rfl:i=l.length:=by omega
  simp [aT,oE]
 apply zA;apply aE;refine zr q42_1 fun _ _ Z=>?_;simp(disch:=omega)[fX,-bG,aI,aF,aB,aA];and_intros<;>(try omega);apply Z;refine zI ?_ ?_<;>intro c3<;>try simp at c3
 .refine zk [0,1,2,6,7,8] ?_;refine zr q42_1 fun _ _ Z=>?_;refine zs 8 fun _ Y=>?_;simp(disch:=omega)[fX,-bG,aI,aF,aB,aA];and_intros<;>(try omega);apply Y;refine zs 1 fun _ Y=>?_;simp(disch:=omega)[fX,-bG,aI,aF,aB,aA];refine⟨(l.take i).map cD,⟨⟨by simp;omega,by first | exact Ev (f:=cA) (fun _=>rfl) l i | exact Cp (f:=cA) (fun _=>rfl) l i _⟩,(lF (d:=cD) (fun _=>⟨rfl,rfl⟩) _),by omega,by omega,by omega,by omega,by first | rfl | exact⟨rfl,rfl⟩ | trivial⟩,?_⟩;and_intros<;>(try omega);apply Y;simp(disch:=omega)[fX,-bG,aI,aF,aB,aA];apply Z;refine qI 9 2 rfl (by decide) fun cap2 rest2 hcap2 hcm2 hrest2 hk2 hes2=>?_;simp only [aX,cC,bB,cW,iA hi] at hcap2 hrest2 |-;rw [fN,show List.flatMap D.cells (List.take i (List.map cD l))=(l.take i).flatMap cA from by rw [<- wX];exact dB (f:=cA) (fun _=>rfl) _];simp only [bN];have hR:((List.replicate (l.length+1 - i) (rI 2 #[.string ⟨#[]⟩,.string ⟨#[]⟩])).flatMap D.cells++rest2).length=(cap2 - i) * 2:=by rw [aX,Mn (k:=2) rfl,hrest2];omega
  generalize (List.replicate (l.length+1 - i) (rI 2 #[.string ⟨#[]⟩,.string ⟨#[]⟩])).flatMap D.cells++rest2=R at hR |-;refine zk [0,1,2,6,7,8,9] ?_;refine zr q42_1 fun _ _ Z=>?_;simp(disch:=omega)[fX,-bG,aI,aF,aB,aA];have hlt:i<l.length:=by omega
  refine⟨by omega, [cD x],_,⟨rfl,(fun y hy=>by simp only [iM] at hy;subst hy;exact⟨rfl,rfl⟩),rfl,by simp only [aX,dG (f:=cA) (k:=2) (fun _=>rfl),show ∀a,(cA a).length=2 from fun _=>rfl,cW,cC,dI,bB,bU,dO] at *;omega⟩,?_⟩;rw [show min [cD x].length (l.length+1 - i)=1 by first | (simp;done) | (simp;omega),show List.flatMap D.cells (List.take 1 [cD x])=cA x from rfl];have row:=Lv (f:=cA) (k:=2) (fun _=>rfl) l i x R hlt (by rw [hR];omega)
  skip
  rw [row];clear row;have hR3:(R.drop 2).length=(cap2 - i - 1) * 2:=by rw [dI,hR];omega
  generalize R.drop 2=R3 at hR3 |-;and_intros<;>(try omega);apply Z;refine zk [0,1,2,6,7,8,9] ?_;refine zd q42_1 [.op {},.op {},.op {},.op {},.op {},.op {},.op {},.op {},.op {rO:=true,wO:=true}] fun all hall _ Z=>?_;refine kY 8 fun _ Y=>?_;simp(disch:=omega)[fX,-bG,aI,aF,aB,aA];and_intros<;>(try omega);apply Y;simp(disch:=omega)[fX,-bG,aI,aF,aB,aA];refine⟨(l.drop i).map cD,_,⟨⟨by simp,by have:=Js (f:=cA) (d:=cD) (k:=2) (fun _=>rfl) (fun _=>rfl) l i 0 hlt;first | exact this | simpa using this⟩,(lF (d:=cD) (fun _=>⟨rfl,rfl⟩) _),rfl,by simp only [aX,dG (f:=cA) (k:=2) (fun _=>rfl),show ∀a,(cA a).length=2 from fun _=>rfl,cW,cC,dI,bB,bU,dO] at *;omega⟩,?_⟩;rw [show min ((l.drop i).map cD).length (l.length - i)=l.length - i by simp,bW (show((l.drop i).map cD).length<=l.length - i by simp)];have row:=Lc (f:=cA) (d:=cD) (k:=2) (fun _=>rfl) (fun _=>rfl) l i x R3 hlt (by rw [hR3];omega)
  skip
  rw [row];clear row;have hR4:(R3.drop ((l.length - i) * 2)).length=(cap2 - i - 1 - (l.length - i)) * 2:=by rw [dI,hR3];omega
  generalize R3.drop _=R4 at hR4 |-;and_intros<;>(try omega);apply Z;refine zk [0,1,2,6,7,8,9] ?_;refine zr q42_1 fun _ _ Z=>?_;simp(disch:=omega)[fX,-bG,aI,aF,aB,aA];apply Z;refine eQ 6 2 (σ.length+1) (l.length+1) cap2 ((oE l i x).map cD) ((oE l i x).flatMap cA++R4) (by simp <;> rfl) (by simp [aI,aB]) (by omega) (by have:=mB l i x hi;simp only [aX,dG (f:=cA) (k:=2) (fun _=>rfl),this] at *;omega) (by simp [mB l i x hi]) (lF (d:=cD) (fun _=>⟨rfl,rfl⟩) _) (by rw [dB (f:=cA) (fun _=>rfl)];exact dA _ _) ?_;apply aC;simp [aT]
 apply zA;refine zk [0,1,2,6,7,8] ?_;refine zr q42_1 fun _ _ Z=>?_;simp(disch:=omega)[fX,-bG,aI,aF,aB,aA];and_intros<;>(try omega);apply Z;apply aE;refine zk [0,1,2,6,7,8] ?_;refine zr q42_1 fun _ _ Z=>?_;simp(disch:=omega)[fX,-bG,aI,aF,aB,aA];and_intros<;>(try omega);apply Z;refine zI ?_ ?_<;>intro c4<;>try simp at c4
 refine zk [0,1,2,6,7,8] ?_;refine zd q42_1 [.op {},.op {},.op {},.op {},.op {},.op {},.op {},.op {},.op {rO:=true,wO:=true}] fun all hall _ Z=>?_;refine kY 8 fun _ Y=>?_;simp(disch:=omega)[fX,-bG,aI,aF,aB,aA];and_intros<;>(try omega);apply Y;simp(disch:=omega)[fX,-bG,aI,aF,aB,aA];have hlt:i<l.length:=by omega
 refine⟨(l.drop i).map cD++ [Ab 2],_,⟨⟨by first | (simp;done) | (simp;omega),by have:=Qk (f:=cA) (d:=cD) (k:=2) (fun _=>rfl) (fun _=>rfl) l i ((cap - l.length) * 2) hlt (show 2<=((cap - l.length) * 2) by omega);first | exact this | simpa using this⟩,Ym (d:=cD) (fun _=>⟨rfl,rfl⟩) _,rfl,by simp only [aX,dG (f:=cA) (k:=2) (fun _=>rfl),show ∀a,(cA a).length=2 from fun _=>rfl,cW,cC,dI,bB,bU,dO] at *;omega⟩,?_⟩;rw [show min ((l.drop i).map cD++ [Ab 2]).length (l.length - i)=l.length - i by first | (simp;done) | (simp;omega)];have row:=Ld (f:=cA) (d:=cD) (k:=2) (fun _=>rfl) (fun _=>rfl) l i ((cap - l.length) * 2) hlt (show 2<=((cap - l.length) * 2) by omega)
 skip
 rw [row];clear row;have hR:(List.replicate (((cap - l.length) * 2) - 2) D.any).length=((cap - l.length) * 2) - 2:=cW;generalize List.replicate _ D.any=R at hR |-;and_intros<;>(try omega);apply Z;refine zk [0,1,2,6,7,8] ?_;refine zr q42_1 fun _ _ Z=>?_;simp(disch:=omega)[fX,-bG,aI,aF,aB,aA];refine⟨by omega, [cD x],_,⟨rfl,(fun y hy=>by simp only [iM] at hy;subst hy;exact⟨rfl,rfl⟩),rfl,by simp only [aX,dG (f:=cA) (k:=2) (fun _=>rfl),show ∀a,(cA a).length=2 from fun _=>rfl,cW,cC,dI,bB,bU,dO] at *;omega⟩,?_⟩;rw [show min [cD x].length (l.length+1 - i)=1 by first | (simp;done) | (simp;omega),show List.flatMap D.cells (List.take 1 [cD x])=cA x from rfl];have row:=Lh (f:=cA) (k:=2) (fun _=>rfl) l i x R hlt
 skip
 rw [row];clear row;and_intros<;>(try omega);apply Z;refine zr q42_1 fun _ _ Z=>?_;simp(disch:=omega)[fX,-bG,aI,aF,aB,aA];apply Z;refine eQ 6 2 σ.length (l.length+1) cap ((oE l i x).map cD) ((oE l i x).flatMap cA++R) (by simp <;> rfl) (by simp [aI,aB]) (by omega) (by have:=mB l i x hi;simp only [aX,dG (f:=cA) (k:=2) (fun _=>rfl),this] at *;omega) (by simp [mB l i x hi]) (lF (d:=cD) (fun _=>⟨rfl,rfl⟩) _) (by rw [dB (f:=cA) (fun _=>rfl)];exact dA _ _) ?_;apply aC;simp [aT]
theorem aIu(N:Nat)(l:List AT):Sc N (.xs 2 (l.map cD)):=Sc.xs fun e he y hy=>by
 obtain⟨a,_,rfl⟩:=bY.1 he;simp only [D.cells,fQ,kA,kD] at hy;rcases hy with rfl | rfl <;> exact Sc.v _
theorem aG8(l:List AT)(x:AT)(i:Nat)(σ:List (List D))(hl:l.length<=1000000)(hi:i<=l.length):Ct prog 121 [.xs 2 (l.map cD),D.int i,.sl true [cD x]] σ (fun r σ'=>r= .xs 2 ((oE l i x).map cD)/\σ'=σ):=
 (aAv l x i σ hl hi).trim fun r σ' ⟨hr,J,hs⟩=>⟨σ,J,hs,rfl,by rw [hr];exact aIu _ _,fun n cs h=> .inl h,hr,rfl⟩
theorem fW:Pf prog 146:=by
 obtain⟨ti,zv,h1,h2,_⟩:=gW aNt;exact⟨_,32,4,158,ti,func146,by kernel_rfl,by kernel_rfl,by kernel_rfl,by kernel_rfl,h1,h2⟩
theorem aCr(l:List PI)(x:PI)(i:Nat)(σ:List (List D))(hl:l.length<=1000000)(hi:i<=l.length):Ct prog 120 [.xs 2 (l.map bV),D.int i,.sl true [bV x]] σ (fun r σ'=>r= .xs 2 ((oE l i x).map bV)/\∃J,σ'=σ++J):=by
 refine zf func120 ?_;refine kQ 0 2 rfl (by decide) fun cap rest hcap hcm hrest hk0 hes=>?_;subst hrest;simp only [cC] at hcap |-;rw [dB (f:=cP) (fun _=>rfl)];refine zr q42_1 fun _ _ Z=>?_;simp(disch:=omega)[fW,-bG,aI,aF,aB,aA];apply Z;refine zr q42_1 fun _ _ Z=>?_;simp(disch:=omega)[fW,-bG,aI,aF,aB,aA];and_intros<;>(try omega);apply Z;refine zr q42_1 fun _ _ Z=>?_;simp(disch:=omega)[fW,-bG,aI,aF,aB,aA];and_intros<;>(try omega);apply Z;apply aE;refine zr q42_1 fun _ _ Z=>?_;simp(disch:=omega)[fW,-bG,aI,aF,aB,aA];apply Z;refine zI ?_ ?_<;>intro c1<;>try simp at c1
 apply zA;refine zr q42_1 fun _ _ Z=>?_;simp(disch:=omega)[fW,-bG,aI,aF,aB,aA];and_intros<;>(try omega);apply Z;apply aE;refine zk [0,1,2,6,7,8] ?_;refine zr q42_1 fun _ _ Z=>?_;simp(disch:=omega)[fW,-bG,aI,aF,aB,aA];apply Z;refine zI ?_ ?_<;>intro c2<;>try simp at c2
 .refine zr q42_1 fun _ _ Z=>?_;refine zs 3 fun _ Y=>?_;simp(disch:=omega)[fW,-bG,aI,aF,aB,aA];refine⟨by first | rfl | exact⟨rfl,rfl⟩ | trivial,_,l.map bV,⟨rfl,by simp only [aX,dG (f:=cP) (k:=2) (fun _=>rfl),cW];omega,by simp,hes,by rw [dB (f:=cP) (fun _=>rfl)];exact dA _ _,by simp;omega,by simp;omega⟩,?_⟩;and_intros<;>(try omega);apply Y;simp(disch:=omega)[fW,-bG,aI,aF,aB,aA];apply Z;apply aC;obtain rfl:i=l.length:=by omega
  simp [aT,oE]
 apply zA;apply aE;refine zr q42_1 fun _ _ Z=>?_;simp(disch:=omega)[fW,-bG,aI,aF,aB,aA];and_intros<;>(try omega);apply Z;refine zI ?_ ?_<;>intro c3<;>try simp at c3
 .refine zk [0,1,2,6,7,8] ?_;refine zr q42_1 fun _ _ Z=>?_;refine zs 8 fun _ Y=>?_;simp(disch:=omega)[fW,-bG,aI,aF,aB,aA];and_intros<;>(try omega);apply Y;refine zs 1 fun _ Y=>?_;simp(disch:=omega)[fW,-bG,aI,aF,aB,aA];refine⟨(l.take i).map bV,⟨⟨by simp;omega,by first | exact Ev (f:=cP) (fun _=>rfl) l i | exact Cp (f:=cP) (fun _=>rfl) l i _⟩,(lF (d:=bV) (fun _=>⟨rfl,rfl⟩) _),by omega,by omega,by omega,by omega,by first | rfl | exact⟨rfl,rfl⟩ | trivial⟩,?_⟩;and_intros<;>(try omega);apply Y;simp(disch:=omega)[fW,-bG,aI,aF,aB,aA];apply Z;refine qI 9 2 rfl (by decide) fun cap2 rest2 hcap2 hcm2 hrest2 hk2 hes2=>?_;simp only [aX,cC,bB,cW,iA hi] at hcap2 hrest2 |-;rw [fN,show List.flatMap D.cells (List.take i (List.map bV l))=(l.take i).flatMap cP from by rw [<- wX];exact dB (f:=cP) (fun _=>rfl) _];simp only [bN];have hR:((List.replicate (l.length+1 - i) (rI 2 #[.string ⟨#[]⟩,.int .i64 0])).flatMap D.cells++rest2).length=(cap2 - i) * 2:=by rw [aX,Mn (k:=2) rfl,hrest2];omega
  generalize (List.replicate (l.length+1 - i) (rI 2 #[.string ⟨#[]⟩,.int .i64 0])).flatMap D.cells++rest2=R at hR |-;refine zk [0,1,2,6,7,8,9] ?_;refine zr q42_1 fun _ _ Z=>?_;simp(disch:=omega)[fW,-bG,aI,aF,aB,aA];have hlt:i<l.length:=by omega
  refine⟨by omega, [bV x],_,⟨rfl,(fun y hy=>by simp only [iM] at hy;subst hy;exact⟨rfl,rfl⟩),rfl,by simp only [aX,dG (f:=cP) (k:=2) (fun _=>rfl),show ∀a,(cP a).length=2 from fun _=>rfl,cW,cC,dI,bB,bU,dO] at *;omega⟩,?_⟩;rw [show min [bV x].length (l.length+1 - i)=1 by first | (simp;done) | (simp;omega),show List.flatMap D.cells (List.take 1 [bV x])=cP x from rfl];have row:=Lv (f:=cP) (k:=2) (fun _=>rfl) l i x R hlt (by rw [hR];omega)
  skip
  rw [row];clear row;have hR3:(R.drop 2).length=(cap2 - i - 1) * 2:=by rw [dI,hR];omega
  generalize R.drop 2=R3 at hR3 |-;and_intros<;>(try omega);apply Z;refine zk [0,1,2,6,7,8,9] ?_;refine zd q42_1 [.op {},.op {},.op {},.op {},.op {},.op {},.op {},.op {},.op {rO:=true,wO:=true}] fun all hall _ Z=>?_;refine kY 8 fun _ Y=>?_;simp(disch:=omega)[fW,-bG,aI,aF,aB,aA];and_intros<;>(try omega);apply Y;simp(disch:=omega)[fW,-bG,aI,aF,aB,aA];refine⟨(l.drop i).map bV,_,⟨⟨by simp,by have:=Js (f:=cP) (d:=bV) (k:=2) (fun _=>rfl) (fun _=>rfl) l i 0 hlt;first | exact this | simpa using this⟩,(lF (d:=bV) (fun _=>⟨rfl,rfl⟩) _),rfl,by simp only [aX,dG (f:=cP) (k:=2) (fun _=>rfl),show ∀a,(cP a).length=2 from fun _=>rfl,cW,cC,dI,bB,bU,dO] at *;omega⟩,?_⟩;rw [show min ((l.drop i).map bV).length (l.length - i)=l.length - i by simp,bW (show((l.drop i).map bV).length<=l.length - i by simp)];have row:=Lc (f:=cP) (d:=bV) (k:=2) (fun _=>rfl) (fun _=>rfl) l i x R3 hlt (by rw [hR3];omega)
  skip
  rw [row];clear row;have hR4:(R3.drop ((l.length - i) * 2)).length=(cap2 - i - 1 - (l.length - i)) * 2:=by rw [dI,hR3];omega
  generalize R3.drop _=R4 at hR4 |-;and_intros<;>(try omega);apply Z;refine zk [0,1,2,6,7,8,9] ?_;refine zr q42_1 fun _ _ Z=>?_;simp(disch:=omega)[fW,-bG,aI,aF,aB,aA];apply Z;refine eQ 6 2 (σ.length+1) (l.length+1) cap2 ((oE l i x).map bV) ((oE l i x).flatMap cP++R4) (by simp <;> rfl) (by simp [aI,aB]) (by omega) (by have:=mB l i x hi;simp only [aX,dG (f:=cP) (k:=2) (fun _=>rfl),this] at *;omega) (by simp [mB l i x hi]) (lF (d:=bV) (fun _=>⟨rfl,rfl⟩) _) (by rw [dB (f:=cP) (fun _=>rfl)];exact dA _ _) ?_;apply aC;simp [aT]
 apply zA;refine zk [0,1,2,6,7,8] ?_;refine zr q42_1 fun _ _ Z=>?_;simp(disch:=omega)[fW,-bG,aI,aF,aB,aA];and_intros<;>(try omega);apply Z;apply aE;refine zk [0,1,2,6,7,8] ?_;refine zr q42_1 fun _ _ Z=>?_;simp(disch:=omega)[fW,-bG,aI,aF,aB,aA];and_intros<;>(try omega);apply Z;refine zI ?_ ?_<;>intro c4<;>try simp at c4
 refine zk [0,1,2,6,7,8] ?_;refine zd q42_1 [.op {},.op {},.op {},.op {},.op {},.op {},.op {},.op {},.op {rO:=true,wO:=true}] fun all hall _ Z=>?_;refine kY 8 fun _ Y=>?_;simp(disch:=omega)[fW,-bG,aI,aF,aB,aA];and_intros<;>(try omega);apply Y;simp(disch:=omega)[fW,-bG,aI,aF,aB,aA];have hlt:i<l.length:=by omega
 refine⟨(l.drop i).map bV++ [Ab 2],_,⟨⟨by first | (simp;done) | (simp;omega),by have:=Qk (f:=cP) (d:=bV) (k:=2) (fun _=>rfl) (fun _=>rfl) l i ((cap - l.length) * 2) hlt (show 2<=((cap - l.length) * 2) by omega);first | exact this | simpa using this⟩,Ym (d:=bV) (fun _=>⟨rfl,rfl⟩) _,rfl,by simp only [aX,dG (f:=cP) (k:=2) (fun _=>rfl),show ∀a,(cP a).length=2 from fun _=>rfl,cW,cC,dI,bB,bU,dO] at *;omega⟩,?_⟩;rw [show min ((l.drop i).map bV++ [Ab 2]).length (l.length - i)=l.length - i by first | (simp;done) | (simp;omega)];have row:=Ld (f:=cP) (d:=bV) (k:=2) (fun _=>rfl) (fun _=>rfl) l i ((cap - l.length) * 2) hlt (show 2<=((cap - l.length) * 2) by omega)
 skip
 rw [row];clear row;have hR:(List.replicate (((cap - l.length) * 2) - 2) D.any).length=((cap - l.length) * 2) - 2:=cW;generalize List.replicate _ D.any=R at hR |-;and_intros<;>(try omega);apply Z;refine zk [0,1,2,6,7,8] ?_;refine zr q42_1 fun _ _ Z=>?_;simp(disch:=omega)[fW,-bG,aI,aF,aB,aA];refine⟨by omega, [bV x],_,⟨rfl,(fun y hy=>by simp only [iM] at hy;subst hy;exact⟨rfl,rfl⟩),rfl,by simp only [aX,dG (f:=cP) (k:=2) (fun _=>rfl),show ∀a,(cP a).length=2 from fun _=>rfl,cW,cC,dI,bB,bU,dO] at *;omega⟩,?_⟩;rw [show min [bV x].length (l.length+1 - i)=1 by first | (simp;done) | (simp;omega),show List.flatMap D.cells (List.take 1 [bV x])=cP x from rfl];have row:=Lh (f:=cP) (k:=2) (fun _=>rfl) l i x R hlt
 skip
 rw [row];clear row;and_intros<;>(try omega);apply Z;refine zr q42_1 fun _ _ Z=>?_;simp(disch:=omega)[fW,-bG,aI,aF,aB,aA];apply Z;refine eQ 6 2 σ.length (l.length+1) cap ((oE l i x).map bV) ((oE l i x).flatMap cP++R) (by simp <;> rfl) (by simp [aI,aB]) (by omega) (by have:=mB l i x hi;simp only [aX,dG (f:=cP) (k:=2) (fun _=>rfl),this] at *;omega) (by simp [mB l i x hi]) (lF (d:=bV) (fun _=>⟨rfl,rfl⟩) _) (by rw [dB (f:=cP) (fun _=>rfl)];exact dA _ _) ?_;apply aC;simp [aT]
theorem aJz(N:Nat)(l:List PI):Sc N (.xs 2 (l.map bV)):=Sc.xs fun e he y hy=>by
 obtain⟨a,_,rfl⟩:=bY.1 he;simp only [D.cells,fQ,kA,kD] at hy;rcases hy with rfl | rfl <;> exact Sc.v _
theorem aE7(l:List PI)(x:PI)(i:Nat)(σ:List (List D))(hl:l.length<=1000000)(hi:i<=l.length):Ct prog 120 [.xs 2 (l.map bV),D.int i,.sl true [bV x]] σ (fun r σ'=>r= .xs 2 ((oE l i x).map bV)/\σ'=σ):=
 (aCr l x i σ hl hi).trim fun r σ' ⟨hr,J,hs⟩=>⟨σ,J,hs,rfl,by rw [hr];exact aJz _ _,fun n cs h=> .inl h,hr,rfl⟩
end Go.Proofs.YtbdjepeabjangaaGreat
