import Derived.Test.YtbgfljpnhhdkoaaGreatWkAr2
set_option linter.all false
set_option maxRecDepth 20000
set_option maxHeartbeats 8000000
open Go.Proofs.Tryz
namespace Go.Proofs.YtbgfljpnhhdkoaaGreat
open Go Go.Vm
structure AT where
 name:ByteArray
 value:ByteArray
 deriving DecidableEq
@[simp] abbrev cY(s:AT):D:= .agg [.v (.string s.name),.v (.string s.value)]
structure PI where
 name:ByteArray
 value:Int
 deriving DecidableEq
@[simp] abbrev cQ(s:PI):D:= .agg [.v (.string s.name),.v (.int .i64 s.value)]
def cI(n:Int):List D:= [D.int n]
def cA(x:AT):List D:= [D.str x.name,D.str x.value]
def cP(x:PI):List D:= [D.str x.name,D.int x.value]
def fL {α:Type} (l:List α)(i:Nat)(x:α):List α:=l.take i++x::l.drop i
theorem jT {α:Type} (l:List α)(i:Nat)(x:α)(h:i<=l.length):(fL l i x).length=l.length+1:=by simp [fL];omega
def Cd(k:Nat):D:=if k=1 then .any else .agg (List.replicate k .any)
theorem Ar {k:Nat} :(Cd k).cells=List.replicate k .any:=by
 unfold Cd;split
 .rename_i h;subst h;rfl
 rfl
theorem aPc {k:Nat} :(Cd k).ncells=k/\(Cd k).arr=true:=by
 constructor
 .rw [<- eC,Ar,cO]
 unfold D.arr;rw [Ar,gH];intro x hx;rw [qG hx];rfl
section
variable {α:Type} {f:α->List D} {d:α->D} {k:Nat}
theorem Rc(hd:∀a,(d a).cells=f a)(hf:∀a,(f a).length=k)(l:List α)(i r:Nat)(hi:i<l.length)(hr:k<=r):((l.drop i).map d++ [Cd k]).flatMap D.cells<+:List.drop (i * k) (l.flatMap f++List.replicate r .any):=by
 have e:l.flatMap f=(l.take i).flatMap f++(l.drop i).flatMap f:=by rw [<- gR,eO]
 rw [e,bW,<- pJ hf l i hi,yB,gR,cT hd];refine⟨List.replicate (r - k) .any,?_⟩;simp only [gD,Gn,gG,Ar,bW,Nt];rw [show k+(r - k)=r by omega]
theorem Jw(hd:∀a,(d a).cells=f a)(hf:∀a,(f a).length=k)(l:List α)(i r:Nat)(hi:i<l.length)(hr:k<=r):dU (l.flatMap f++List.replicate r .any) ((i+1) * k) ((((l.drop i).map d++ [Cd k]).take (l.length - i)).flatMap D.cells)=(l.take (i+1)).flatMap f++((l.drop i).flatMap f++List.replicate (r - k) .any):=by
 have e:l.flatMap f=(l.take (i+1)).flatMap f++(l.drop (i+1)).flatMap f:=by rw [<- gR,eO]
 have e2:((l.drop i).map d++ [Cd k]).take (l.length - i)=(l.drop i).map d:=by
  rw [Nh (by simp),cC (by simp)]
 have e3:(l.flatMap f++List.replicate r (D.any))=(l.take (i+1)).flatMap f++(((l.drop (i+1)).flatMap f++List.replicate k .any)++List.replicate (r - k) .any):=by
  rw [e,bW,bW,Nt,show k+(r - k)=r by omega]
 have e4:((l.take (i+1)).flatMap f).length=(i+1) * k:=by rw [dI hf,bG,kB (by omega)]
 rw [e2,cT hd,e3,<- e4];refine oC _ _ _ _ ?_;rw [aY,dI hf,dI hf,cO,dG,dG,<- uC];congr 1;omega
theorem Kn(hf:∀a,(f a).length=k)(l:List α)(i:Nat)(x:α)(R:List D)(hi:i<l.length):dU ((l.take (i+1)).flatMap f++((l.drop i).flatMap f++R)) (i * k) (f x)=(fL l i x).flatMap f++R:=by
 have e:(l.take (i+1)).flatMap f=(l.take i).flatMap f++f l[i]:=by rw [bS l i hi,gR];simp
 rw [e,bW,<- pJ hf l i hi,oC _ _ _ _ (by rw [hf,hf])];simp [fL]
theorem Ce(hd:∀a,(d a).cells=f a)(l:List α)(i r:Nat):((l.take i).map d).flatMap D.cells<+:l.flatMap f++List.replicate r .any:=by
 rw [cT hd];have e:l.flatMap f=(l.take i).flatMap f++(l.drop i).flatMap f:=by rw [<- gR,eO]
 rw [e,bW];exact cZ _ _
theorem Ec(hd:∀a,(d a).cells=f a)(l:List α)(i:Nat):((l.take i).map d).flatMap D.cells<+:l.flatMap f:=by
 have:=Ce (f:=f) hd l i 0;simpa using this
theorem mH(hd:∀a,(d a).ncells=k/\(d a).arr=true)(l:List α):∀y∈l.map d,y.ncells=k/\y.arr=true:=fun y hy=>by
 obtain⟨a,_,rfl⟩:=aX.1 hy;exact hd a
theorem Zy(hd:∀a,(d a).ncells=k/\(d a).arr=true)(l:List α):∀y∈l.map d++ [Cd k],y.ncells=k/\y.arr=true:=fun y hy=>by
 rcases bR.1 hy with h | h
 .exact mH hd l y h
 simp at h;subst h;exact aPc
theorem Kt(hd:∀a,(d a).cells=f a)(hf:∀a,(f a).length=k)(l:List α)(i r:Nat)(hi:i<l.length):((l.drop i).map d).flatMap D.cells<+:List.drop (i * k) (l.flatMap f++List.replicate r .any):=by
 have e:l.flatMap f=(l.take i).flatMap f++(l.drop i).flatMap f:=by rw [<- gR,eO]
 rw [e,bW,<- pJ hf l i hi,yB,cT hd];exact cZ _ _
theorem Qq {Z:D} (hZ:Z.ncells=k):∀n:Nat,((List.replicate n Z).flatMap D.cells).length=n * k
 | 0=>by simp
 | n+1=>by rw [Dr,gD,aY,Qq hZ n,eC,hZ,uC];omega
theorem Lj(hf:∀a,(f a).length=k)(l:List α)(i:Nat)(x:α)(R:List D)(hi:i<l.length)(hR:k<=R.length):dU ((l.take i).flatMap f++R) (i * k) (f x)=(l.take i).flatMap f++(f x++R.drop k):=by
 conv=>lhs;rw [<- eO k R]
 rw [<- pJ hf l i hi,oC _ _ _ _ (by rw [hf,bG];omega)]
theorem Ld(hd:∀a,(d a).cells=f a)(hf:∀a,(f a).length=k)(l:List α)(i:Nat)(x:α)(R:List D)(hi:i<l.length)(hR:(l.length - i) * k<=R.length):dU ((l.take i).flatMap f++(f x++R)) ((i+1) * k) (((l.drop i).map d).flatMap D.cells)=(fL l i x).flatMap f++R.drop ((l.length - i) * k):=by
 have e:((l.take i).flatMap f++f x).length=(i+1) * k:=by rw [aY,pJ hf l i hi,hf,uC]
 conv=>lhs;rw [<- eO ((l.length - i) * k) R]
 rw [<- bW,<- e,oC _ _ _ _ (by rw [cT hd,dI hf,dG,bG];omega),cT hd];simp [fL]
end
theorem iE:Rg prog 241:=by
 obtain⟨ti,zv,h1,h2,_⟩:=jE aXu;exact⟨_,22,4,3,ti,func241,by kernel_rfl,by kernel_rfl,by kernel_rfl,by kernel_rfl,h1,h2⟩
@[simp] abbrev q30_1:Cfg:=⟨[0,6,9,17,23,55,61,83,94],[],[],[12,19,25,34,43,50,53,60,66,73,76,80],[30,40,45,54,67,77,82]⟩
theorem aJr(l:List Int)(x:Int)(i:Nat)(σ:List (List D))(hl:l.length<=1000000)(hi:i<=l.length):Ct prog 205 [.xs 1 (l.map D.int),D.int i,.sl true [D.int x]] σ (fun r σ'=>r= .xs 1 ((fL l i x).map D.int)/\∃J,σ'=σ++J):=by
 refine zf func205 ?_;refine iO 0 1 rfl (by decide) fun cap rest hcap hcm hrest hk0 hes=>?_;subst hrest;simp only [bQ] at hcap |-;rw [cT (f:=cI) (fun _=>rfl)];refine zr q30_1 fun _ _ Z=>?_;simp(disch:=omega)[iE,-bH,bI,aW,aJ,aG];apply Z;refine zr q30_1 fun _ _ Z=>?_;simp(disch:=omega)[iE,-bH,bI,aW,aJ,aG];and_intros<;>(try omega);apply Z;refine zr q30_1 fun _ _ Z=>?_;simp(disch:=omega)[iE,-bH,bI,aW,aJ,aG];and_intros<;>(try omega);apply Z;apply aE;refine zr q30_1 fun _ _ Z=>?_;simp(disch:=omega)[iE,-bH,bI,aW,aJ,aG];apply Z;refine zI ?_ ?_<;>intro c1<;>try simp at c1
 apply zA;refine zr q30_1 fun _ _ Z=>?_;simp(disch:=omega)[iE,-bH,bI,aW,aJ,aG];and_intros<;>(try omega);apply Z;apply aE;refine zk [0,1,2,6,7,8] ?_;refine zr q30_1 fun _ _ Z=>?_;simp(disch:=omega)[iE,-bH,bI,aW,aJ,aG];apply Z;refine zI ?_ ?_<;>intro c2<;>try simp at c2
 .refine zr q30_1 fun _ _ Z=>?_;refine zs 3 fun _ Y=>?_;simp(disch:=omega)[iE,-bH,bI,aW,aJ,aG];refine⟨by first | rfl | exact⟨rfl,rfl⟩ | trivial,_,l.map D.int,⟨rfl,by simp only [aY,dI (f:=cI) (k:=1) (fun _=>rfl),cO];omega,by simp,hes,by rw [cT (f:=cI) (fun _=>rfl)];exact cZ _ _,by simp;omega,by simp;omega⟩,?_⟩;and_intros<;>(try omega);apply Y;simp(disch:=omega)[iE,-bH,bI,aW,aJ,aG];apply Z;apply aC;obtain rfl:i=l.length:=by omega
  simp [aH,fL]
 apply zA;apply aE;refine zr q30_1 fun _ _ Z=>?_;simp(disch:=omega)[iE,-bH,bI,aW,aJ,aG];and_intros<;>(try omega);apply Z;refine zI ?_ ?_<;>intro c3<;>try simp at c3
 .refine zk [0,1,2,6,7,8] ?_;refine zr q30_1 fun _ _ Z=>?_;refine zs 8 fun _ Y=>?_;simp(disch:=omega)[iE,-bH,bI,aW,aJ,aG];and_intros<;>(try omega);apply Y;refine zs 1 fun _ Y=>?_;simp(disch:=omega)[iE,-bH,bI,aW,aJ,aG];refine⟨(l.take i).map D.int,⟨⟨by simp;omega,by first | exact Ec (f:=cI) (fun _=>rfl) l i | exact Ce (f:=cI) (fun _=>rfl) l i _⟩,(mH (d:=D.int) (fun _=>⟨rfl,rfl⟩) _),by omega,by omega,by omega,by omega,by first | rfl | exact⟨rfl,rfl⟩ | trivial⟩,?_⟩;and_intros<;>(try omega);apply Y;simp(disch:=omega)[iE,-bH,bI,aW,aJ,aG];apply Z;refine rW 9 1 rfl (by decide) fun cap2 rest2 hcap2 hcm2 hrest2 hk2 hes2=>?_;simp only [aY,bQ,bG,cO,kB hi] at hcap2 hrest2 |-;rw [gR,show List.flatMap D.cells (List.take i (List.map D.int l))=(l.take i).flatMap cI from by rw [<- uX];exact cT (f:=cI) (fun _=>rfl) _];simp only [bW];have hR:((List.replicate (l.length+1 - i) (vL 1 #[.int .i64 0])).flatMap D.cells++rest2).length=(cap2 - i) * 1:=by rw [aY,Qq (k:=1) rfl,hrest2];omega
  generalize (List.replicate (l.length+1 - i) (vL 1 #[.int .i64 0])).flatMap D.cells++rest2=R at hR |-;refine zk [0,1,2,6,7,8,9] ?_;refine zr q30_1 fun _ _ Z=>?_;simp(disch:=omega)[iE,-bH,bI,aW,aJ,aG];have hlt:i<l.length:=by omega
  refine⟨by omega, [D.int x],_,⟨rfl,(fun y hy=>by simp only [fK] at hy;subst hy;exact⟨rfl,rfl⟩),rfl,by simp only [aY,dI (f:=cI) (k:=1) (fun _=>rfl),show ∀a,(cI a).length=1 from fun _=>rfl,cO,bQ,dG,bG,bT,dD] at *;omega⟩,?_⟩;rw [show min [D.int x].length (l.length+1 - i)=1 by first | (simp;done) | (simp;omega),show List.flatMap D.cells (List.take 1 [D.int x])=cI x from rfl];have row:=Lj (f:=cI) (k:=1) (fun _=>rfl) l i x R hlt (by rw [hR];omega);simp only [sB] at row;rw [row];clear row;have hR3:(R.drop 1).length=(cap2 - i - 1) * 1:=by rw [dG,hR];omega
  generalize R.drop 1=R3 at hR3 |-;and_intros<;>(try omega);apply Z;refine zk [0,1,2,6,7,8,9] ?_;refine zd q30_1 [.op {},.op {},.op {},.op {},.op {},.op {},.op {},.op {},.op {rO:=true,wO:=true}] fun all hall _ Z=>?_;refine lN 8 fun _ Y=>?_;simp(disch:=omega)[iE,-bH,bI,aW,aJ,aG];and_intros<;>(try omega);apply Y;simp(disch:=omega)[iE,-bH,bI,aW,aJ,aG];refine⟨(l.drop i).map D.int,_,⟨⟨by simp,by have:=Kt (f:=cI) (d:=D.int) (k:=1) (fun _=>rfl) (fun _=>rfl) l i 0 hlt;first | exact this | simpa using this⟩,(mH (d:=D.int) (fun _=>⟨rfl,rfl⟩) _),rfl,by simp only [aY,dI (f:=cI) (k:=1) (fun _=>rfl),show ∀a,(cI a).length=1 from fun _=>rfl,cO,bQ,dG,bG,bT,dD] at *;omega⟩,?_⟩;rw [show min ((l.drop i).map D.int).length (l.length - i)=l.length - i by simp,cC (show((l.drop i).map D.int).length<=l.length - i by simp)];have row:=Ld (f:=cI) (d:=D.int) (k:=1) (fun _=>rfl) (fun _=>rfl) l i x R3 hlt (by rw [hR3];omega);simp only [sB] at row;rw [row];clear row;have hR4:(R3.drop ((l.length - i) * 1)).length=(cap2 - i - 1 - (l.length - i)) * 1:=by rw [dG,hR3];omega
  simp only [sB] at hR4;generalize R3.drop _=R4 at hR4 |-;and_intros<;>(try omega);apply Z;refine zk [0,1,2,6,7,8,9] ?_;refine zr q30_1 fun _ _ Z=>?_;simp(disch:=omega)[iE,-bH,bI,aW,aJ,aG];apply Z;refine fD 6 1 (σ.length+1) (l.length+1) cap2 ((fL l i x).map D.int) ((fL l i x).flatMap cI++R4) (by simp <;> rfl) (by simp [bI,aJ]) (by omega) (by have:=jT l i x hi;simp only [aY,dI (f:=cI) (k:=1) (fun _=>rfl),this] at *;omega) (by simp [jT l i x hi]) (mH (d:=D.int) (fun _=>⟨rfl,rfl⟩) _) (by rw [cT (f:=cI) (fun _=>rfl)];exact cZ _ _) ?_;apply aC;simp [aH]
 apply zA;refine zk [0,1,2,6,7,8] ?_;refine zr q30_1 fun _ _ Z=>?_;simp(disch:=omega)[iE,-bH,bI,aW,aJ,aG];and_intros<;>(try omega);apply Z;apply aE;refine zk [0,1,2,6,7,8] ?_;refine zr q30_1 fun _ _ Z=>?_;simp(disch:=omega)[iE,-bH,bI,aW,aJ,aG];and_intros<;>(try omega);apply Z;refine zI ?_ ?_<;>intro c4<;>try simp at c4
 refine zk [0,1,2,6,7,8] ?_;refine zd q30_1 [.op {},.op {},.op {},.op {},.op {},.op {},.op {},.op {},.op {rO:=true,wO:=true}] fun all hall _ Z=>?_;refine lN 8 fun _ Y=>?_;simp(disch:=omega)[iE,-bH,bI,aW,aJ,aG];and_intros<;>(try omega);apply Y;simp(disch:=omega)[iE,-bH,bI,aW,aJ,aG];have hlt:i<l.length:=by omega
 refine⟨(l.drop i).map D.int++ [Cd 1],_,⟨⟨by first | (simp;done) | (simp;omega),by have:=Rc (f:=cI) (d:=D.int) (k:=1) (fun _=>rfl) (fun _=>rfl) l i ((cap - l.length) * 1) hlt (show 1<=((cap - l.length) * 1) by omega);first | exact this | simpa using this⟩,Zy (d:=D.int) (fun _=>⟨rfl,rfl⟩) _,rfl,by simp only [aY,dI (f:=cI) (k:=1) (fun _=>rfl),show ∀a,(cI a).length=1 from fun _=>rfl,cO,bQ,dG,bG,bT,dD] at *;omega⟩,?_⟩;rw [show min ((l.drop i).map D.int++ [Cd 1]).length (l.length - i)=l.length - i by first | (simp;done) | (simp;omega)];have row:=Jw (f:=cI) (d:=D.int) (k:=1) (fun _=>rfl) (fun _=>rfl) l i ((cap - l.length) * 1) hlt (show 1<=((cap - l.length) * 1) by omega);simp only [sB] at row;rw [row];clear row;have hR:(List.replicate (((cap - l.length) * 1) - 1) D.any).length=((cap - l.length) * 1) - 1:=cO;simp only [sB] at hR;generalize List.replicate _ D.any=R at hR |-;and_intros<;>(try omega);apply Z;refine zk [0,1,2,6,7,8] ?_;refine zr q30_1 fun _ _ Z=>?_;simp(disch:=omega)[iE,-bH,bI,aW,aJ,aG];refine⟨by omega, [D.int x],_,⟨rfl,(fun y hy=>by simp only [fK] at hy;subst hy;exact⟨rfl,rfl⟩),rfl,by simp only [aY,dI (f:=cI) (k:=1) (fun _=>rfl),show ∀a,(cI a).length=1 from fun _=>rfl,cO,bQ,dG,bG,bT,dD] at *;omega⟩,?_⟩;rw [show min [D.int x].length (l.length+1 - i)=1 by first | (simp;done) | (simp;omega),show List.flatMap D.cells (List.take 1 [D.int x])=cI x from rfl];have row:=Kn (f:=cI) (k:=1) (fun _=>rfl) l i x R hlt;simp only [sB] at row;rw [row];clear row;and_intros<;>(try omega);apply Z;refine zr q30_1 fun _ _ Z=>?_;simp(disch:=omega)[iE,-bH,bI,aW,aJ,aG];apply Z;refine fD 6 1 σ.length (l.length+1) cap ((fL l i x).map D.int) ((fL l i x).flatMap cI++R) (by simp <;> rfl) (by simp [bI,aJ]) (by omega) (by have:=jT l i x hi;simp only [aY,dI (f:=cI) (k:=1) (fun _=>rfl),this] at *;omega) (by simp [jT l i x hi]) (mH (d:=D.int) (fun _=>⟨rfl,rfl⟩) _) (by rw [cT (f:=cI) (fun _=>rfl)];exact cZ _ _) ?_;apply aC;simp [aH]
theorem aX6(N:Nat)(l:List Int):Sc N (.xs 1 (l.map D.int)):=Sc.xs fun e he y hy=>by
 obtain⟨a,_,rfl⟩:=aX.1 he;simp only [D.cells,bN,iK,iH] at hy;subst hy <;> exact Sc.v _
theorem aPr(l:List Int)(x:Int)(i:Nat)(σ:List (List D))(hl:l.length<=1000000)(hi:i<=l.length):Ct prog 205 [.xs 1 (l.map D.int),D.int i,.sl true [D.int x]] σ (fun r σ'=>r= .xs 1 ((fL l i x).map D.int)/\σ'=σ):=
 (aJr l x i σ hl hi).trim fun r σ' ⟨hr,J,hs⟩=>⟨σ,J,hs,rfl,by rw [hr];exact aX6 _ _,fun n cs h=> .inl h,hr,rfl⟩
theorem iD:Rg prog 249:=by
 obtain⟨ti,zv,h1,h2,_⟩:=jE aX2;exact⟨_,36,4,191,ti,func249,by kernel_rfl,by kernel_rfl,by kernel_rfl,by kernel_rfl,h1,h2⟩
theorem aGq(l:List AT)(x:AT)(i:Nat)(σ:List (List D))(hl:l.length<=1000000)(hi:i<=l.length):Ct prog 224 [.xs 2 (l.map cY),D.int i,.sl true [cY x]] σ (fun r σ'=>r= .xs 2 ((fL l i x).map cY)/\∃J,σ'=σ++J):=by
 refine zf func224 ?_;refine iO 0 2 rfl (by decide) fun cap rest hcap hcm hrest hk0 hes=>?_;subst hrest;simp only [bQ] at hcap |-;rw [cT (f:=cA) (fun _=>rfl)];refine zr q30_1 fun _ _ Z=>?_;simp(disch:=omega)[iD,-bH,bI,aW,aJ,aG];apply Z;refine zr q30_1 fun _ _ Z=>?_;simp(disch:=omega)[iD,-bH,bI,aW,aJ,aG];and_intros<;>(try omega);apply Z;refine zr q30_1 fun _ _ Z=>?_;simp(disch:=omega)[iD,-bH,bI,aW,aJ,aG];and_intros<;>(try omega);apply Z;apply aE;refine zr q30_1 fun _ _ Z=>?_;simp(disch:=omega)[iD,-bH,bI,aW,aJ,aG];apply Z;refine zI ?_ ?_<;>intro c1<;>try simp at c1
 apply zA;refine zr q30_1 fun _ _ Z=>?_;simp(disch:=omega)[iD,-bH,bI,aW,aJ,aG];and_intros<;>(try omega);apply Z;apply aE;refine zk [0,1,2,6,7,8] ?_;refine zr q30_1 fun _ _ Z=>?_;simp(disch:=omega)[iD,-bH,bI,aW,aJ,aG];apply Z;refine zI ?_ ?_<;>intro c2<;>try simp at c2
 .refine zr q30_1 fun _ _ Z=>?_;refine zs 3 fun _ Y=>?_;simp(disch:=omega)[iD,-bH,bI,aW,aJ,aG];refine⟨by first | rfl | exact⟨rfl,rfl⟩ | trivial,_,l.map cY,⟨rfl,by simp only [aY,dI (f:=cA) (k:=2) (fun _=>rfl),cO];omega,by simp,hes,by rw [cT (f:=cA) (fun _=>rfl)];exact cZ _ _,by simp;omega,by simp;omega⟩,?_⟩;and_intros<;>(try omega);apply Y;simp(disch:=omega)[iD,-bH,bI,aW,aJ,aG];apply Z;apply aC;obtain rfl:i=l.length:=by omega
  simp [aH,fL]
 apply zA;apply aE;refine zr q30_1 fun _ _ Z=>?_;simp(disch:=omega)[iD,-bH,bI,aW,aJ,aG];and_intros<;>(try omega);apply Z;refine zI ?_ ?_<;>intro c3<;>try simp at c3
 .refine zk [0,1,2,6,7,8] ?_;refine zr q30_1 fun _ _ Z=>?_;refine zs 8 fun _ Y=>?_;simp(disch:=omega)[iD,-bH,bI,aW,aJ,aG];and_intros<;>(try omega);apply Y;refine zs 1 fun _ Y=>?_;simp(disch:=omega)[iD,-bH,bI,aW,aJ,aG];refine⟨(l.take i).map cY,⟨⟨by simp;omega,by first | exact Ec (f:=cA) (fun _=>rfl) l i | exact Ce (f:=cA) (fun _=>rfl) l i _⟩,(mH (d:=cY) (fun _=>⟨rfl,rfl⟩) _),by omega,by omega,by omega,by omega,by first | rfl | exact⟨rfl,rfl⟩ | trivial⟩,?_⟩;and_intros<;>(try omega);apply Y;simp(disch:=omega)[iD,-bH,bI,aW,aJ,aG];apply Z;refine rW 9 2 rfl (by decide) fun cap2 rest2 hcap2 hcm2 hrest2 hk2 hes2=>?_;simp only [aY,bQ,bG,cO,kB hi] at hcap2 hrest2 |-;rw [gR,show List.flatMap D.cells (List.take i (List.map cY l))=(l.take i).flatMap cA from by rw [<- uX];exact cT (f:=cA) (fun _=>rfl) _];simp only [bW];have hR:((List.replicate (l.length+1 - i) (vL 2 #[.string ⟨#[]⟩,.string ⟨#[]⟩])).flatMap D.cells++rest2).length=(cap2 - i) * 2:=by rw [aY,Qq (k:=2) rfl,hrest2];omega
  generalize (List.replicate (l.length+1 - i) (vL 2 #[.string ⟨#[]⟩,.string ⟨#[]⟩])).flatMap D.cells++rest2=R at hR |-;refine zk [0,1,2,6,7,8,9] ?_;refine zr q30_1 fun _ _ Z=>?_;simp(disch:=omega)[iD,-bH,bI,aW,aJ,aG];have hlt:i<l.length:=by omega
  refine⟨by omega, [cY x],_,⟨rfl,(fun y hy=>by simp only [fK] at hy;subst hy;exact⟨rfl,rfl⟩),rfl,by simp only [aY,dI (f:=cA) (k:=2) (fun _=>rfl),show ∀a,(cA a).length=2 from fun _=>rfl,cO,bQ,dG,bG,bT,dD] at *;omega⟩,?_⟩;rw [show min [cY x].length (l.length+1 - i)=1 by first | (simp;done) | (simp;omega),show List.flatMap D.cells (List.take 1 [cY x])=cA x from rfl];have row:=Lj (f:=cA) (k:=2) (fun _=>rfl) l i x R hlt (by rw [hR];omega)
  skip
  rw [row];clear row;have hR3:(R.drop 2).length=(cap2 - i - 1) * 2:=by rw [dG,hR];omega
  generalize R.drop 2=R3 at hR3 |-;and_intros<;>(try omega);apply Z;refine zk [0,1,2,6,7,8,9] ?_;refine zd q30_1 [.op {},.op {},.op {},.op {},.op {},.op {},.op {},.op {},.op {rO:=true,wO:=true}] fun all hall _ Z=>?_;refine lN 8 fun _ Y=>?_;simp(disch:=omega)[iD,-bH,bI,aW,aJ,aG];and_intros<;>(try omega);apply Y;simp(disch:=omega)[iD,-bH,bI,aW,aJ,aG];refine⟨(l.drop i).map cY,_,⟨⟨by simp,by have:=Kt (f:=cA) (d:=cY) (k:=2) (fun _=>rfl) (fun _=>rfl) l i 0 hlt;first | exact this | simpa using this⟩,(mH (d:=cY) (fun _=>⟨rfl,rfl⟩) _),rfl,by simp only [aY,dI (f:=cA) (k:=2) (fun _=>rfl),show ∀a,(cA a).length=2 from fun _=>rfl,cO,bQ,dG,bG,bT,dD] at *;omega⟩,?_⟩;rw [show min ((l.drop i).map cY).length (l.length - i)=l.length - i by simp,cC (show((l.drop i).map cY).length<=l.length - i by simp)];have row:=Ld (f:=cA) (d:=cY) (k:=2) (fun _=>rfl) (fun _=>rfl) l i x R3 hlt (by rw [hR3];omega)
  skip
  rw [row];clear row;have hR4:(R3.drop ((l.length - i) * 2)).length=(cap2 - i - 1 - (l.length - i)) * 2:=by rw [dG,hR3];omega
  generalize R3.drop _=R4 at hR4 |-;and_intros<;>(try omega);apply Z;refine zk [0,1,2,6,7,8,9] ?_;refine zr q30_1 fun _ _ Z=>?_;simp(disch:=omega)[iD,-bH,bI,aW,aJ,aG];apply Z;refine fD 6 2 (σ.length+1) (l.length+1) cap2 ((fL l i x).map cY) ((fL l i x).flatMap cA++R4) (by simp <;> rfl) (by simp [bI,aJ]) (by omega) (by have:=jT l i x hi;simp only [aY,dI (f:=cA) (k:=2) (fun _=>rfl),this] at *;omega) (by simp [jT l i x hi]) (mH (d:=cY) (fun _=>⟨rfl,rfl⟩) _) (by rw [cT (f:=cA) (fun _=>rfl)];exact cZ _ _) ?_;apply aC;simp [aH]
 apply zA;refine zk [0,1,2,6,7,8] ?_;refine zr q30_1 fun _ _ Z=>?_;simp(disch:=omega)[iD,-bH,bI,aW,aJ,aG];and_intros<;>(try omega);apply Z;apply aE;refine zk [0,1,2,6,7,8] ?_;refine zr q30_1 fun _ _ Z=>?_;simp(disch:=omega)[iD,-bH,bI,aW,aJ,aG];and_intros<;>(try omega);apply Z;refine zI ?_ ?_<;>intro c4<;>try simp at c4
 refine zk [0,1,2,6,7,8] ?_;refine zd q30_1 [.op {},.op {},.op {},.op {},.op {},.op {},.op {},.op {},.op {rO:=true,wO:=true}] fun all hall _ Z=>?_;refine lN 8 fun _ Y=>?_;simp(disch:=omega)[iD,-bH,bI,aW,aJ,aG];and_intros<;>(try omega);apply Y;simp(disch:=omega)[iD,-bH,bI,aW,aJ,aG];have hlt:i<l.length:=by omega
 refine⟨(l.drop i).map cY++ [Cd 2],_,⟨⟨by first | (simp;done) | (simp;omega),by have:=Rc (f:=cA) (d:=cY) (k:=2) (fun _=>rfl) (fun _=>rfl) l i ((cap - l.length) * 2) hlt (show 2<=((cap - l.length) * 2) by omega);first | exact this | simpa using this⟩,Zy (d:=cY) (fun _=>⟨rfl,rfl⟩) _,rfl,by simp only [aY,dI (f:=cA) (k:=2) (fun _=>rfl),show ∀a,(cA a).length=2 from fun _=>rfl,cO,bQ,dG,bG,bT,dD] at *;omega⟩,?_⟩;rw [show min ((l.drop i).map cY++ [Cd 2]).length (l.length - i)=l.length - i by first | (simp;done) | (simp;omega)];have row:=Jw (f:=cA) (d:=cY) (k:=2) (fun _=>rfl) (fun _=>rfl) l i ((cap - l.length) * 2) hlt (show 2<=((cap - l.length) * 2) by omega)
 skip
 rw [row];clear row;have hR:(List.replicate (((cap - l.length) * 2) - 2) D.any).length=((cap - l.length) * 2) - 2:=cO;generalize List.replicate _ D.any=R at hR |-;and_intros<;>(try omega);apply Z;refine zk [0,1,2,6,7,8] ?_;refine zr q30_1 fun _ _ Z=>?_;simp(disch:=omega)[iD,-bH,bI,aW,aJ,aG];refine⟨by omega, [cY x],_,⟨rfl,(fun y hy=>by simp only [fK] at hy;subst hy;exact⟨rfl,rfl⟩),rfl,by simp only [aY,dI (f:=cA) (k:=2) (fun _=>rfl),show ∀a,(cA a).length=2 from fun _=>rfl,cO,bQ,dG,bG,bT,dD] at *;omega⟩,?_⟩;rw [show min [cY x].length (l.length+1 - i)=1 by first | (simp;done) | (simp;omega),show List.flatMap D.cells (List.take 1 [cY x])=cA x from rfl];have row:=Kn (f:=cA) (k:=2) (fun _=>rfl) l i x R hlt
 skip
 rw [row];clear row;and_intros<;>(try omega);apply Z;refine zr q30_1 fun _ _ Z=>?_;simp(disch:=omega)[iD,-bH,bI,aW,aJ,aG];apply Z;refine fD 6 2 σ.length (l.length+1) cap ((fL l i x).map cY) ((fL l i x).flatMap cA++R) (by simp <;> rfl) (by simp [bI,aJ]) (by omega) (by have:=jT l i x hi;simp only [aY,dI (f:=cA) (k:=2) (fun _=>rfl),this] at *;omega) (by simp [jT l i x hi]) (mH (d:=cY) (fun _=>⟨rfl,rfl⟩) _) (by rw [cT (f:=cA) (fun _=>rfl)];exact cZ _ _) ?_;apply aC;simp [aH]
theorem aS3(N:Nat)(l:List AT):Sc N (.xs 2 (l.map cY)):=Sc.xs fun e he y hy=>by
 obtain⟨a,_,rfl⟩:=aX.1 he;simp only [D.cells,bN,iK,iH] at hy;rcases hy with rfl | rfl <;> exact Sc.v _
theorem aPo(l:List AT)(x:AT)(i:Nat)(σ:List (List D))(hl:l.length<=1000000)(hi:i<=l.length):Ct prog 224 [.xs 2 (l.map cY),D.int i,.sl true [cY x]] σ (fun r σ'=>r= .xs 2 ((fL l i x).map cY)/\σ'=σ):=
 (aGq l x i σ hl hi).trim fun r σ' ⟨hr,J,hs⟩=>⟨σ,J,hs,rfl,by rw [hr];exact aS3 _ _,fun n cs h=> .inl h,hr,rfl⟩
theorem iF:Rg prog 251:=by
 obtain⟨ti,zv,h1,h2,_⟩:=jE aXs;exact⟨_,38,4,137,ti,func251,by kernel_rfl,by kernel_rfl,by kernel_rfl,by kernel_rfl,h1,h2⟩
theorem aGy(l:List PI)(x:PI)(i:Nat)(σ:List (List D))(hl:l.length<=1000000)(hi:i<=l.length):Ct prog 225 [.xs 2 (l.map cQ),D.int i,.sl true [cQ x]] σ (fun r σ'=>r= .xs 2 ((fL l i x).map cQ)/\∃J,σ'=σ++J):=by
 refine zf func225 ?_;refine iO 0 2 rfl (by decide) fun cap rest hcap hcm hrest hk0 hes=>?_;subst hrest;simp only [bQ] at hcap |-;rw [cT (f:=cP) (fun _=>rfl)];refine zr q30_1 fun _ _ Z=>?_;simp(disch:=omega)[iF,-bH,bI,aW,aJ,aG];apply Z;refine zr q30_1 fun _ _ Z=>?_;simp(disch:=omega)[iF,-bH,bI,aW,aJ,aG];and_intros<;>(try omega);apply Z;refine zr q30_1 fun _ _ Z=>?_;simp(disch:=omega)[iF,-bH,bI,aW,aJ,aG];and_intros<;>(try omega);apply Z;apply aE;refine zr q30_1 fun _ _ Z=>?_;simp(disch:=omega)[iF,-bH,bI,aW,aJ,aG];apply Z;refine zI ?_ ?_<;>intro c1<;>try simp at c1
 apply zA;refine zr q30_1 fun _ _ Z=>?_;simp(disch:=omega)[iF,-bH,bI,aW,aJ,aG];and_intros<;>(try omega);apply Z;apply aE;refine zk [0,1,2,6,7,8] ?_;refine zr q30_1 fun _ _ Z=>?_;simp(disch:=omega)[iF,-bH,bI,aW,aJ,aG];apply Z;refine zI ?_ ?_<;>intro c2<;>try simp at c2
 .refine zr q30_1 fun _ _ Z=>?_;refine zs 3 fun _ Y=>?_;simp(disch:=omega)[iF,-bH,bI,aW,aJ,aG];refine⟨by first | rfl | exact⟨rfl,rfl⟩ | trivial,_,l.map cQ,⟨rfl,by simp only [aY,dI (f:=cP) (k:=2) (fun _=>rfl),cO];omega,by simp,hes,by rw [cT (f:=cP) (fun _=>rfl)];exact cZ _ _,by simp;omega,by simp;omega⟩,?_⟩;and_intros<;>(try omega);apply Y;simp(disch:=omega)[iF,-bH,bI,aW,aJ,aG];apply Z;apply aC;obtain rfl:i=l.length:=by omega
  simp [aH,fL]
 apply zA;apply aE;refine zr q30_1 fun _ _ Z=>?_;simp(disch:=omega)[iF,-bH,bI,aW,aJ,aG];and_intros<;>(try omega);apply Z;refine zI ?_ ?_<;>intro c3<;>try simp at c3
 .refine zk [0,1,2,6,7,8] ?_;refine zr q30_1 fun _ _ Z=>?_;refine zs 8 fun _ Y=>?_;simp(disch:=omega)[iF,-bH,bI,aW,aJ,aG];and_intros<;>(try omega);apply Y;refine zs 1 fun _ Y=>?_;simp(disch:=omega)[iF,-bH,bI,aW,aJ,aG];refine⟨(l.take i).map cQ,⟨⟨by simp;omega,by first | exact Ec (f:=cP) (fun _=>rfl) l i | exact Ce (f:=cP) (fun _=>rfl) l i _⟩,(mH (d:=cQ) (fun _=>⟨rfl,rfl⟩) _),by omega,by omega,by omega,by omega,by first | rfl | exact⟨rfl,rfl⟩ | trivial⟩,?_⟩;and_intros<;>(try omega);apply Y;simp(disch:=omega)[iF,-bH,bI,aW,aJ,aG];apply Z;refine rW 9 2 rfl (by decide) fun cap2 rest2 hcap2 hcm2 hrest2 hk2 hes2=>?_;simp only [aY,bQ,bG,cO,kB hi] at hcap2 hrest2 |-;rw [gR,show List.flatMap D.cells (List.take i (List.map cQ l))=(l.take i).flatMap cP from by rw [<- uX];exact cT (f:=cP) (fun _=>rfl) _];simp only [bW];have hR:((List.replicate (l.length+1 - i) (vL 2 #[.string ⟨#[]⟩,.int .i64 0])).flatMap D.cells++rest2).length=(cap2 - i) * 2:=by rw [aY,Qq (k:=2) rfl,hrest2];omega
  generalize (List.replicate (l.length+1 - i) (vL 2 #[.string ⟨#[]⟩,.int .i64 0])).flatMap D.cells++rest2=R at hR |-;refine zk [0,1,2,6,7,8,9] ?_;refine zr q30_1 fun _ _ Z=>?_;simp(disch:=omega)[iF,-bH,bI,aW,aJ,aG];have hlt:i<l.length:=by omega
  refine⟨by omega, [cQ x],_,⟨rfl,(fun y hy=>by simp only [fK] at hy;subst hy;exact⟨rfl,rfl⟩),rfl,by simp only [aY,dI (f:=cP) (k:=2) (fun _=>rfl),show ∀a,(cP a).length=2 from fun _=>rfl,cO,bQ,dG,bG,bT,dD] at *;omega⟩,?_⟩;rw [show min [cQ x].length (l.length+1 - i)=1 by first | (simp;done) | (simp;omega),show List.flatMap D.cells (List.take 1 [cQ x])=cP x from rfl];have row:=Lj (f:=cP) (k:=2) (fun _=>rfl) l i x R hlt (by rw [hR];omega)
  skip
  rw [row];clear row;have hR3:(R.drop 2).length=(cap2 - i - 1) * 2:=by rw [dG,hR];omega
  generalize R.drop 2=R3 at hR3 |-;and_intros<;>(try omega);apply Z;refine zk [0,1,2,6,7,8,9] ?_;refine zd q30_1 [.op {},.op {},.op {},.op {},.op {},.op {},.op {},.op {},.op {rO:=true,wO:=true}] fun all hall _ Z=>?_;refine lN 8 fun _ Y=>?_;simp(disch:=omega)[iF,-bH,bI,aW,aJ,aG];and_intros<;>(try omega);apply Y;simp(disch:=omega)[iF,-bH,bI,aW,aJ,aG];refine⟨(l.drop i).map cQ,_,⟨⟨by simp,by have:=Kt (f:=cP) (d:=cQ) (k:=2) (fun _=>rfl) (fun _=>rfl) l i 0 hlt;first | exact this | simpa using this⟩,(mH (d:=cQ) (fun _=>⟨rfl,rfl⟩) _),rfl,by simp only [aY,dI (f:=cP) (k:=2) (fun _=>rfl),show ∀a,(cP a).length=2 from fun _=>rfl,cO,bQ,dG,bG,bT,dD] at *;omega⟩,?_⟩;rw [show min ((l.drop i).map cQ).length (l.length - i)=l.length - i by simp,cC (show((l.drop i).map cQ).length<=l.length - i by simp)];have row:=Ld (f:=cP) (d:=cQ) (k:=2) (fun _=>rfl) (fun _=>rfl) l i x R3 hlt (by rw [hR3];omega)
  skip
  rw [row];clear row;have hR4:(R3.drop ((l.length - i) * 2)).length=(cap2 - i - 1 - (l.length - i)) * 2:=by rw [dG,hR3];omega
  generalize R3.drop _=R4 at hR4 |-;and_intros<;>(try omega);apply Z;refine zk [0,1,2,6,7,8,9] ?_;refine zr q30_1 fun _ _ Z=>?_;simp(disch:=omega)[iF,-bH,bI,aW,aJ,aG];apply Z;refine fD 6 2 (σ.length+1) (l.length+1) cap2 ((fL l i x).map cQ) ((fL l i x).flatMap cP++R4) (by simp <;> rfl) (by simp [bI,aJ]) (by omega) (by have:=jT l i x hi;simp only [aY,dI (f:=cP) (k:=2) (fun _=>rfl),this] at *;omega) (by simp [jT l i x hi]) (mH (d:=cQ) (fun _=>⟨rfl,rfl⟩) _) (by rw [cT (f:=cP) (fun _=>rfl)];exact cZ _ _) ?_;apply aC;simp [aH]
 apply zA;refine zk [0,1,2,6,7,8] ?_;refine zr q30_1 fun _ _ Z=>?_;simp(disch:=omega)[iF,-bH,bI,aW,aJ,aG];and_intros<;>(try omega);apply Z;apply aE;refine zk [0,1,2,6,7,8] ?_;refine zr q30_1 fun _ _ Z=>?_;simp(disch:=omega)[iF,-bH,bI,aW,aJ,aG];and_intros<;>(try omega);apply Z;refine zI ?_ ?_<;>intro c4<;>try simp at c4
 refine zk [0,1,2,6,7,8] ?_;refine zd q30_1 [.op {},.op {},.op {},.op {},.op {},.op {},.op {},.op {},.op {rO:=true,wO:=true}] fun all hall _ Z=>?_;refine lN 8 fun _ Y=>?_;simp(disch:=omega)[iF,-bH,bI,aW,aJ,aG];and_intros<;>(try omega);apply Y;simp(disch:=omega)[iF,-bH,bI,aW,aJ,aG];have hlt:i<l.length:=by omega
 refine⟨(l.drop i).map cQ++ [Cd 2],_,⟨⟨by first | (simp;done) | (simp;omega),by have:=Rc (f:=cP) (d:=cQ) (k:=2) (fun _=>rfl) (fun _=>rfl) l i ((cap - l.length) * 2) hlt (show 2<=((cap - l.length) * 2) by omega);first | exact this | simpa using this⟩,Zy (d:=cQ) (fun _=>⟨rfl,rfl⟩) _,rfl,by simp only [aY,dI (f:=cP) (k:=2) (fun _=>rfl),show ∀a,(cP a).length=2 from fun _=>rfl,cO,bQ,dG,bG,bT,dD] at *;omega⟩,?_⟩;rw [show min ((l.drop i).map cQ++ [Cd 2]).length (l.length - i)=l.length - i by first | (simp;done) | (simp;omega)];have row:=Jw (f:=cP) (d:=cQ) (k:=2) (fun _=>rfl) (fun _=>rfl) l i ((cap - l.length) * 2) hlt (show 2<=((cap - l.length) * 2) by omega)
 skip
 rw [row];clear row;have hR:(List.replicate (((cap - l.length) * 2) - 2) D.any).length=((cap - l.length) * 2) - 2:=cO;generalize List.replicate _ D.any=R at hR |-;and_intros<;>(try omega);apply Z;refine zk [0,1,2,6,7,8] ?_;refine zr q30_1 fun _ _ Z=>?_;simp(disch:=omega)[iF,-bH,bI,aW,aJ,aG];refine⟨by omega, [cQ x],_,⟨rfl,(fun y hy=>by simp only [fK] at hy;subst hy;exact⟨rfl,rfl⟩),rfl,by simp only [aY,dI (f:=cP) (k:=2) (fun _=>rfl),show ∀a,(cP a).length=2 from fun _=>rfl,cO,bQ,dG,bG,bT,dD] at *;omega⟩,?_⟩;rw [show min [cQ x].length (l.length+1 - i)=1 by first | (simp;done) | (simp;omega),show List.flatMap D.cells (List.take 1 [cQ x])=cP x from rfl];have row:=Kn (f:=cP) (k:=2) (fun _=>rfl) l i x R hlt
 skip
 rw [row];clear row;and_intros<;>(try omega);apply Z;refine zr q30_1 fun _ _ Z=>?_;simp(disch:=omega)[iF,-bH,bI,aW,aJ,aG];apply Z;refine fD 6 2 σ.length (l.length+1) cap ((fL l i x).map cQ) ((fL l i x).flatMap cP++R) (by simp <;> rfl) (by simp [bI,aJ]) (by omega) (by have:=jT l i x hi;simp only [aY,dI (f:=cP) (k:=2) (fun _=>rfl),this] at *;omega) (by simp [jT l i x hi]) (mH (d:=cQ) (fun _=>⟨rfl,rfl⟩) _) (by rw [cT (f:=cP) (fun _=>rfl)];exact cZ _ _) ?_;apply aC;simp [aH]
theorem aSq(N:Nat)(l:List PI):Sc N (.xs 2 (l.map cQ)):=Sc.xs fun e he y hy=>by
 obtain⟨a,_,rfl⟩:=aX.1 he;simp only [D.cells,bN,iK,iH] at hy;rcases hy with rfl | rfl <;> exact Sc.v _
theorem aOn(l:List PI)(x:PI)(i:Nat)(σ:List (List D))(hl:l.length<=1000000)(hi:i<=l.length):Ct prog 225 [.xs 2 (l.map cQ),D.int i,.sl true [cQ x]] σ (fun r σ'=>r= .xs 2 ((fL l i x).map cQ)/\σ'=σ):=
 (aGy l x i σ hl hi).trim fun r σ' ⟨hr,J,hs⟩=>⟨σ,J,hs,rfl,by rw [hr];exact aSq _ _,fun n cs h=> .inl h,hr,rfl⟩
attribute [simp] cA
theorem Zj(l:List AT):(l.map cY).flatMap D.cells=l.flatMap cA:=cT (fun _=>rfl) l
theorem aQr(l:List AT):∀d∈l.map cY,d.ncells=2/\d.arr=true:=by
 intro d hd;obtain⟨a,_,rfl⟩:=aX.1 hd;exact⟨rfl,rfl⟩
@[simp high] theorem aYw(l:List AT):(l.flatMap cA).length=l.length * 2:=dI (f:=cA) (fun _=>rfl) l
@[simp high] theorem aZe(l:List AT)(rest:List D)(i:Nat)(h:i<l.length):zN true 2 ((l.flatMap cA++rest).drop (i * 2))=some (.agg (cA l[i])):=aBb (f:=cA) (fun _=>rfl) l rest i h
@[simp high] theorem aZa(l:List AT)(rest:List D)(i:Nat)(x:AT)(h:i<l.length):dU (l.flatMap cA++rest) (i * 2) [D.str x.name,D.str x.value]=(l.set i x).flatMap cA++rest:=Hb (f:=cA) (fun _=>rfl) l rest i x h
theorem lF(p:AT->Bool)(l:List AT)(j:Nat)(rest:List D):dU ((ar p l j).flatMap cA++rest) ((kp p l j).length * 2) (jH #[.string ⟨#[]⟩,.string ⟨#[]⟩] (l.length - (kp p l j).length))=(kp p l j).flatMap cA++(jH #[.string ⟨#[]⟩,.string ⟨#[]⟩] (l.length - (kp p l j).length)++rest):=by
 have hz:(jH #[.string ⟨#[]⟩,.string ⟨#[]⟩] (l.length - (kp p l j).length)).length=((l.drop (kp p l j).length).flatMap cA).length:=by
  rw [dI (f:=cA) (k:=2) (fun _=>rfl),jO (k:=2) rfl,dG]
 have hk:((kp p l j).flatMap cA).length=(kp p l j).length * 2:=dI (f:=cA) (fun _=>rfl) _;unfold ar;rw [gR,bW,<- hk,oC _ _ _ _ hz]
theorem Yn(l:List AT)(p:AT->Bool)(f:FuncId)(caps:List D)(m cap:Nat)(rest:List D)(σ:List (List D))(hl:l.length<=9223372036854775807)(hσ:σ[m]?=some (l.flatMap cA++rest))(hcp:∀d∈caps,d.plain=true)(hcs:caps.map D.strip=caps)(hp:∀x τ,Ct prog f (cY x::caps) τ (fun r τ'=>r= .bool (p x)/\τ'=τ)):Ct prog 273 [.slo m 0 l.length cap,.clo (.func f) [] caps] σ (fun r σ'=>r= .int (wB p l)/\σ'=σ):=by
 refine zf func273 ?_;refine zr ⟨[],[],[],[7,14],[]⟩ fun _ _ Z=>?_;simp(disch:=omega)[hσ,hcs];apply Z;apply aE;refine zr ⟨[],[],[],[7,14],[]⟩ fun _ _ Z=>?_;simp(disch:=omega)[hσ,hcs];and_intros<;>(try omega);apply Z;apply aR;refine zk [0,1,4,7,8] ?_;refine bA (fun(k:Nat)=> [(8,.d (.v (.int .i64 (k:Int))))]) [4,5,8,9,10,11,12,13,14,15,16,17,18] (fun(k:Nat)=>k<=l.length/\∀x∈l.take k,p x=false) (fun(k:Nat)=>l.length - k) (0) (by simp <;> rfl) ?_ ?_ ?_
 .simp
 .simp
 rintro k ⟨hk,hh⟩;simp only [aQ,aP];refine zr ⟨[],[],[],[7,14],[]⟩ fun _ _ Z=>?_;simp(disch:=omega)[hσ,hcs];apply Z;apply aE;refine zI ?_ ?_<;>intro c1<;>try simp at c1
 .apply kP;refine zr ⟨[],[],[],[7,14],[]⟩ fun _ _ Z=>?_;simp(disch:=omega)[hσ,hcs];apply Z;refine zr ⟨[],[],[],[7,14],[]⟩ fun _ _ Z=>?_;refine zs 5 fun _ Y=>?_;simp(disch:=omega)[hσ,hcs];and_intros<;>(try omega);apply Y;refine aF fun _ Y=>?_;simp(disch:=omega)[hσ,hcs];refine⟨hcp,?_⟩;refine cU (hp l[k] _) ?_;apply Y;simp only [eF];apply Z;refine zI ?_ ?_<;>intro c2<;>try simp at c2
  .refine zk [0,1,5,7,8] ?_;refine zr ⟨[],[],[],[7,14],[]⟩ fun _ _ Z=>?_;simp(disch:=omega)[hσ,hcs];apply Z;apply aC;simp [aH];exact(Ie c1 hh c2).symm
  apply nS;refine zk [0,1,7,8] ?_;refine zt ⟨[],[],[],[7,14],[]⟩ fun _ _ Z=>?_;simp(disch:=omega)[hσ,hcs];and_intros<;>(try omega);apply Z;refine zq (k+1) ?_ ?_ ?_
  .exact⟨by omega,uL (by omega) hh c2⟩
  .try dsimp only
   omega
  simp(disch:=omega)[hσ,hcs]
 apply zE;refine zr ⟨[],[],[],[7,14],[]⟩ fun _ _ Z=>?_;simp(disch:=omega)[hσ,hcs];apply Z;apply aC;simp [aH];rw [cC (by omega)] at hh;exact(yP hh).symm
@[simp] abbrev q30_2:Cfg:=⟨[4,13],[],[],[18,24,33,38,41],[]⟩
theorem Tz(l:List AT)(p:AT->Bool)(f:FuncId)(caps:List D)(σ:List (List D))(hl:l.length<=1000000)(hcp:∀d∈caps,d.plain=true)(hcs:caps.map D.strip=caps)(hp:∀x τ,Ct prog f (cY x::caps) τ (fun r τ'=>r= .bool (p x)/\τ'=τ)):Ct prog 269 [.xs 2 (l.map cY),.clo (.func f) [] caps] σ (fun r σ'=>r= .xs 2 ((l.filter fun x=> !p x).map cY)/\σ'=σ++ [[]]):=by
 refine zf func269 ?_;refine rW 0 2 rfl (by decide) fun cap rest hcap hcm hrest hk0 hes=>?_;simp only [bQ] at hcap hrest |-;rw [Zj];refine zr q30_2 fun _ _ Z=>?_;simp(disch:=first|omega|assumption)[hcs,lF];apply Z;refine zr q30_2 fun _ _ Z=>?_;refine zs 2 fun _ Y=>?_;simp(disch:=first|omega|assumption)[hcs,lF];apply Y;refine aF fun _ Y=>?_;simp(disch:=first|omega|assumption)[hcs,lF];refine cU (Yn l p f caps σ.length cap rest _ (by omega) (by simp) hcp hcs hp) ?_;apply Y;simp(disch:=first|omega|assumption)[hcs,lF];apply Z;apply aE;refine zr q30_2 fun _ _ Z=>?_;simp(disch:=first|omega|assumption)[hcs,lF];apply Z;refine zI ?_ ?_<;>intro c1<;>try simp at c1
 .refine zr q30_2 fun _ _ Z=>?_;simp(disch:=first|omega|assumption)[hcs,lF];apply Z;refine fD 4 2 σ.length l.length cap (l.map cY) (l.flatMap cA++rest) (by simp <;> rfl) (by simp) (by omega) (by simp [hrest,jO (z:=#[.string ⟨#[]⟩,.string ⟨#[]⟩]) (k:=2) rfl];omega) (by simp) (aQr _) (by rw [Zj];exact cZ _ _) ?_;simp only [sW];apply aC;simp [aH];rcases Ay p l with ⟨_,h⟩ | ⟨k,h,_⟩
  .rw [h]
  omega
 obtain⟨k0,e0,e1,e2,e3⟩:=Kl c1;rw [e0];apply zA;apply aE;refine zr q30_2 fun _ _ Z=>?_;simp(disch:=first|omega|assumption)[hcs,lF];and_intros<;>try first|omega|exact rfl
 apply Z;apply aR;refine zk [0,1,4,5,6] ?_;refine oL (fun(j:Nat)=> [(5,.d (.v (.int .i64 ((kp p l j).length:Int)))),(6,.d (.v (.int .i64 (j:Int))))]) (fun(j:Nat)=> []) (fun(j:Nat)=> [(σ.length,(ar p l j).flatMap cA++rest)]) [5,6,7,16,17,18,19,20,21,22,23,24,25,26,27,28,29,30,31,32,33,34,35] (fun(j:Nat)=>j<=l.length) (fun(j:Nat)=>l.length - j) (k0+1) (by simp <;> rfl) ?_ (by simp) (by simp [e1]) ?_ ?_
 .simp [e1,e2]
 .omega
 rintro j hj;simp only [aQ,aP,oY,nC,iY,iQ];have hkl:=Vn p l j hj;have hal:=Rs p l j;apply aE;refine zr q30_2 fun _ _ Z=>?_;simp(disch:=first|omega|assumption)[hcs,lF];and_intros<;>try first|omega|exact rfl
 apply Z;refine zI ?_ ?_<;>intro c2<;>try simp at c2
 .apply kP;refine zr q30_2 fun _ _ Z=>?_;simp(disch:=first|omega|assumption)[hcs,lF];and_intros<;>try first|omega|exact rfl
  apply Z;refine zk [0,1,4,5,6,7] ?_;refine zr q30_2 fun _ _ Z=>?_;refine zs 2 fun _ Y=>?_;simp(disch:=first|omega|assumption)[hcs,lF];apply Y;refine aF fun _ Y=>?_;simp(disch:=first|omega|assumption)[hcs,lF];simp only [aI0 p l j (by omega)];refine⟨hcp,?_⟩;refine cU (hp l[j] _) ?_;apply Y;simp(disch:=first|omega|assumption)[hcs,lF];apply Z;refine zI ?_ ?_<;>intro c3<;>try simp at c3
  .refine zr q30_2 fun _ _ Z=>?_;simp(disch:=first|omega|assumption)[hcs,lF];and_intros<;>try first|omega|exact rfl
   apply Z;refine zk [0,1,4,5,6] ?_;refine zt q30_2 fun _ _ Z=>?_;simp(disch:=first|omega|assumption)[hcs,lF];and_intros<;>try first|omega|exact rfl
   apply Z;apply zB;refine zt q30_2 fun _ _ Z=>?_;simp(disch:=first|omega|assumption)[hcs,lF];and_intros<;>try first|omega|exact rfl
   apply Z;refine fU (j+1) ?_ ?_ (eN rfl ?_ (by simp) (by first | (simp [<- (Hh p l j (by omega) c3).1];done) | (simp [(Hh p l j (by omega) c3).1];done)))
   .omega
   .try dsimp only
    omega
   simp(disch:=first|omega|assumption)[hcs,lF,(Hh p l j (by omega) c3).2]
  apply nS;refine zt q30_2 fun _ _ Z=>?_;simp(disch:=first|omega|assumption)[hcs,lF];and_intros<;>try first|omega|exact rfl
  apply Z;refine fU (j+1) ?_ ?_ (eN rfl ?_ (by simp) (by simp [(Ap p l j (by omega) c3).1]))
  .omega
  .try dsimp only
   omega
  simp(disch:=first|omega|assumption)[hcs,lF,(Ap p l j (by omega) c3).2]
 apply zE;refine zr q30_2 fun _ _ Z=>?_;simp(disch:=first|omega|assumption)[hcs,lF];and_intros<;>try first|omega|exact rfl
 apply Z;refine zk [0,4,5] ?_;refine zr q30_2 fun _ _ Z=>?_;simp(disch:=first|omega|assumption)[hcs,lF];and_intros<;>try first|omega|exact rfl
 apply Z;refine fD 4 2 σ.length (kp p l j).length cap ((kp p l j).map cY) ((kp p l j).flatMap cA++(jH #[.string ⟨#[]⟩,.string ⟨#[]⟩] (l.length - (kp p l j).length)++rest)) (by simp <;> rfl) (by simp) (by omega) (by simp [hrest,jO (z:=#[.string ⟨#[]⟩,.string ⟨#[]⟩]) (k:=2) rfl];omega) (by simp) (aQr _) (by rw [Zj];exact cZ _ _) ?_;simp only [sW];apply aC;simp [aH];unfold kp;rw [cC (by omega)]
theorem Xu(l:List AT)(p:AT->Bool)(f:FuncId)(caps:List D)(σ:List (List D))(hl:l.length<=1000000)(hcp:∀d∈caps,d.plain=true)(hcs:caps.map D.strip=caps)(hp:∀x τ,Ct prog f (cY x::caps) τ (fun r τ'=>r= .bool (p x)/\τ'=τ)):
  Ct prog 269 [.xs 2 (l.map cY),.clo (.func f) [] caps] σ (fun r σ'=>r= .xs 2 ((l.filter fun x=> !p x).map cY)/\σ'=σ):=
 (Tz l p f caps σ hl hcp hcs hp).trim fun r σ' ⟨hr,hs⟩=>⟨σ, [[]],hs,rfl,by rw [hr];exact aS3 _ _,fun n cs h=> .inl h,hr,rfl⟩
theorem aC1(l:List AT)(σ:List (List D))(hl:l.length<=1000000):Ct prog 154 [.sl false (l.map cY)] σ (fun r σ'=>r= .sl true (l.map cY)/\σ'=σ):=by
 refine zf func154 ?_;refine zr ⟨[2],[],[],[],[]⟩ fun _ _ Z=>?_;simp;apply Z;apply aE;refine zr ⟨[2],[],[],[],[]⟩ fun _ _ Z=>?_;refine zs 1 fun _ Y=>?_;simp;apply Y;refine aF fun _ Y=>?_;simp;refine⟨Y _ ?_,fun e1=>Y _ ?_⟩
 .simp only [eF];apply Z;refine aZ (t:=false) (by simp) (fun h=>by cases h) (fun _=>?_);apply zA;refine zr ⟨[2],[],[],[],[]⟩ fun _ _ Z=>?_;simp;and_intros<;>(try omega);apply Z;apply aC;simp [aH]
 simp only [eF];apply Z;refine aZ (t:=true) (by simp) (fun _=>?_) (fun h=>by cases h);refine zr ⟨[2],[],[],[],[]⟩ fun _ _ Z=>?_;simp;apply Z;apply aC;simp [aH,e1]
attribute [simp] cP
theorem Xe(l:List PI):(l.map cQ).flatMap D.cells=l.flatMap cP:=cT (fun _=>rfl) l
theorem aQu(l:List PI):∀d∈l.map cQ,d.ncells=2/\d.arr=true:=by
 intro d hd;obtain⟨a,_,rfl⟩:=aX.1 hd;exact⟨rfl,rfl⟩
@[simp high] theorem aYb(l:List PI):(l.flatMap cP).length=l.length * 2:=dI (f:=cP) (fun _=>rfl) l
@[simp high] theorem aZs(l:List PI)(rest:List D)(i:Nat)(h:i<l.length):zN true 2 ((l.flatMap cP++rest).drop (i * 2))=some (.agg (cP l[i])):=aBb (f:=cP) (fun _=>rfl) l rest i h
@[simp high] theorem aY6(l:List PI)(rest:List D)(i:Nat)(x:PI)(h:i<l.length):dU (l.flatMap cP++rest) (i * 2) [D.str x.name,D.int x.value]=(l.set i x).flatMap cP++rest:=Hb (f:=cP) (fun _=>rfl) l rest i x h
theorem kY(p:PI->Bool)(l:List PI)(j:Nat)(rest:List D):dU ((ar p l j).flatMap cP++rest) ((kp p l j).length * 2) (jH #[.string ⟨#[]⟩,.int .i64 0] (l.length - (kp p l j).length))=(kp p l j).flatMap cP++(jH #[.string ⟨#[]⟩,.int .i64 0] (l.length - (kp p l j).length)++rest):=by
 have hz:(jH #[.string ⟨#[]⟩,.int .i64 0] (l.length - (kp p l j).length)).length=((l.drop (kp p l j).length).flatMap cP).length:=by
  rw [dI (f:=cP) (k:=2) (fun _=>rfl),jO (k:=2) rfl,dG]
 have hk:((kp p l j).flatMap cP).length=(kp p l j).length * 2:=dI (f:=cP) (fun _=>rfl) _;unfold ar;rw [gR,bW,<- hk,oC _ _ _ _ hz]
theorem Zv(l:List PI)(p:PI->Bool)(f:FuncId)(caps:List D)(m cap:Nat)(rest:List D)(σ:List (List D))(hl:l.length<=9223372036854775807)(hσ:σ[m]?=some (l.flatMap cP++rest))(hcp:∀d∈caps,d.plain=true)(hcs:caps.map D.strip=caps)(hp:∀x τ,Ct prog f (cQ x::caps) τ (fun r τ'=>r= .bool (p x)/\τ'=τ)):Ct prog 274 [.slo m 0 l.length cap,.clo (.func f) [] caps] σ (fun r σ'=>r= .int (wB p l)/\σ'=σ):=by
 refine zf func274 ?_;refine zr ⟨[],[],[],[7,14],[]⟩ fun _ _ Z=>?_;simp(disch:=omega)[hσ,hcs];apply Z;apply aE;refine zr ⟨[],[],[],[7,14],[]⟩ fun _ _ Z=>?_;simp(disch:=omega)[hσ,hcs];and_intros<;>(try omega);apply Z;apply aR;refine zk [0,1,4,7,8] ?_;refine bA (fun(k:Nat)=> [(8,.d (.v (.int .i64 (k:Int))))]) [4,5,8,9,10,11,12,13,14,15,16,17,18] (fun(k:Nat)=>k<=l.length/\∀x∈l.take k,p x=false) (fun(k:Nat)=>l.length - k) (0) (by simp <;> rfl) ?_ ?_ ?_
 .simp
 .simp
 rintro k ⟨hk,hh⟩;simp only [aQ,aP];refine zr ⟨[],[],[],[7,14],[]⟩ fun _ _ Z=>?_;simp(disch:=omega)[hσ,hcs];apply Z;apply aE;refine zI ?_ ?_<;>intro c1<;>try simp at c1
 .apply kP;refine zr ⟨[],[],[],[7,14],[]⟩ fun _ _ Z=>?_;simp(disch:=omega)[hσ,hcs];apply Z;refine zr ⟨[],[],[],[7,14],[]⟩ fun _ _ Z=>?_;refine zs 5 fun _ Y=>?_;simp(disch:=omega)[hσ,hcs];and_intros<;>(try omega);apply Y;refine aF fun _ Y=>?_;simp(disch:=omega)[hσ,hcs];refine⟨hcp,?_⟩;refine cU (hp l[k] _) ?_;apply Y;simp only [eF];apply Z;refine zI ?_ ?_<;>intro c2<;>try simp at c2
  .refine zk [0,1,5,7,8] ?_;refine zr ⟨[],[],[],[7,14],[]⟩ fun _ _ Z=>?_;simp(disch:=omega)[hσ,hcs];apply Z;apply aC;simp [aH];exact(Ie c1 hh c2).symm
  apply nS;refine zk [0,1,7,8] ?_;refine zt ⟨[],[],[],[7,14],[]⟩ fun _ _ Z=>?_;simp(disch:=omega)[hσ,hcs];and_intros<;>(try omega);apply Z;refine zq (k+1) ?_ ?_ ?_
  .exact⟨by omega,uL (by omega) hh c2⟩
  .try dsimp only
   omega
  simp(disch:=omega)[hσ,hcs]
 apply zE;refine zr ⟨[],[],[],[7,14],[]⟩ fun _ _ Z=>?_;simp(disch:=omega)[hσ,hcs];apply Z;apply aC;simp [aH];rw [cC (by omega)] at hh;exact(yP hh).symm
theorem Ue(l:List PI)(p:PI->Bool)(f:FuncId)(caps:List D)(σ:List (List D))(hl:l.length<=1000000)(hcp:∀d∈caps,d.plain=true)(hcs:caps.map D.strip=caps)(hp:∀x τ,Ct prog f (cQ x::caps) τ (fun r τ'=>r= .bool (p x)/\τ'=τ)):Ct prog 270 [.xs 2 (l.map cQ),.clo (.func f) [] caps] σ (fun r σ'=>r= .xs 2 ((l.filter fun x=> !p x).map cQ)/\σ'=σ++ [[]]):=by
 refine zf func270 ?_;refine rW 0 2 rfl (by decide) fun cap rest hcap hcm hrest hk0 hes=>?_;simp only [bQ] at hcap hrest |-;rw [Xe];refine zr q30_2 fun _ _ Z=>?_;simp(disch:=first|omega|assumption)[hcs,kY];apply Z;refine zr q30_2 fun _ _ Z=>?_;refine zs 2 fun _ Y=>?_;simp(disch:=first|omega|assumption)[hcs,kY];apply Y;refine aF fun _ Y=>?_;simp(disch:=first|omega|assumption)[hcs,kY];refine cU (Zv l p f caps σ.length cap rest _ (by omega) (by simp) hcp hcs hp) ?_;apply Y;simp(disch:=first|omega|assumption)[hcs,kY];apply Z;apply aE;refine zr q30_2 fun _ _ Z=>?_;simp(disch:=first|omega|assumption)[hcs,kY];apply Z;refine zI ?_ ?_<;>intro c1<;>try simp at c1
 .refine zr q30_2 fun _ _ Z=>?_;simp(disch:=first|omega|assumption)[hcs,kY];apply Z;refine fD 4 2 σ.length l.length cap (l.map cQ) (l.flatMap cP++rest) (by simp <;> rfl) (by simp) (by omega) (by simp [hrest,jO (z:=#[.string ⟨#[]⟩,.int .i64 0]) (k:=2) rfl];omega) (by simp) (aQu _) (by rw [Xe];exact cZ _ _) ?_;simp only [sW];apply aC;simp [aH];rcases Ay p l with ⟨_,h⟩ | ⟨k,h,_⟩
  .rw [h]
  omega
 obtain⟨k0,e0,e1,e2,e3⟩:=Kl c1;rw [e0];apply zA;apply aE;refine zr q30_2 fun _ _ Z=>?_;simp(disch:=first|omega|assumption)[hcs,kY];and_intros<;>try first|omega|exact rfl
 apply Z;apply aR;refine zk [0,1,4,5,6] ?_;refine oL (fun(j:Nat)=> [(5,.d (.v (.int .i64 ((kp p l j).length:Int)))),(6,.d (.v (.int .i64 (j:Int))))]) (fun(j:Nat)=> []) (fun(j:Nat)=> [(σ.length,(ar p l j).flatMap cP++rest)]) [5,6,7,16,17,18,19,20,21,22,23,24,25,26,27,28,29,30,31,32,33,34,35] (fun(j:Nat)=>j<=l.length) (fun(j:Nat)=>l.length - j) (k0+1) (by simp <;> rfl) ?_ (by simp) (by simp [e1]) ?_ ?_
 .simp [e1,e2]
 .omega
 rintro j hj;simp only [aQ,aP,oY,nC,iY,iQ];have hkl:=Vn p l j hj;have hal:=Rs p l j;apply aE;refine zr q30_2 fun _ _ Z=>?_;simp(disch:=first|omega|assumption)[hcs,kY];and_intros<;>try first|omega|exact rfl
 apply Z;refine zI ?_ ?_<;>intro c2<;>try simp at c2
 .apply kP;refine zr q30_2 fun _ _ Z=>?_;simp(disch:=first|omega|assumption)[hcs,kY];and_intros<;>try first|omega|exact rfl
  apply Z;refine zk [0,1,4,5,6,7] ?_;refine zr q30_2 fun _ _ Z=>?_;refine zs 2 fun _ Y=>?_;simp(disch:=first|omega|assumption)[hcs,kY];apply Y;refine aF fun _ Y=>?_;simp(disch:=first|omega|assumption)[hcs,kY];simp only [aI0 p l j (by omega)];refine⟨hcp,?_⟩;refine cU (hp l[j] _) ?_;apply Y;simp(disch:=first|omega|assumption)[hcs,kY];apply Z;refine zI ?_ ?_<;>intro c3<;>try simp at c3
  .refine zr q30_2 fun _ _ Z=>?_;simp(disch:=first|omega|assumption)[hcs,kY];and_intros<;>try first|omega|exact rfl
   apply Z;refine zk [0,1,4,5,6] ?_;refine zt q30_2 fun _ _ Z=>?_;simp(disch:=first|omega|assumption)[hcs,kY];and_intros<;>try first|omega|exact rfl
   apply Z;apply zB;refine zt q30_2 fun _ _ Z=>?_;simp(disch:=first|omega|assumption)[hcs,kY];and_intros<;>try first|omega|exact rfl
   apply Z;refine fU (j+1) ?_ ?_ (eN rfl ?_ (by simp) (by first | (simp [<- (Hh p l j (by omega) c3).1];done) | (simp [(Hh p l j (by omega) c3).1];done)))
   .omega
   .try dsimp only
    omega
   simp(disch:=first|omega|assumption)[hcs,kY,(Hh p l j (by omega) c3).2]
  apply nS;refine zt q30_2 fun _ _ Z=>?_;simp(disch:=first|omega|assumption)[hcs,kY];and_intros<;>try first|omega|exact rfl
  apply Z;refine fU (j+1) ?_ ?_ (eN rfl ?_ (by simp) (by simp [(Ap p l j (by omega) c3).1]))
  .omega
  .try dsimp only
   omega
  simp(disch:=first|omega|assumption)[hcs,kY,(Ap p l j (by omega) c3).2]
 apply zE;refine zr q30_2 fun _ _ Z=>?_;simp(disch:=first|omega|assumption)[hcs,kY];and_intros<;>try first|omega|exact rfl
 apply Z;refine zk [0,4,5] ?_;refine zr q30_2 fun _ _ Z=>?_;simp(disch:=first|omega|assumption)[hcs,kY];and_intros<;>try first|omega|exact rfl
 apply Z;refine fD 4 2 σ.length (kp p l j).length cap ((kp p l j).map cQ) ((kp p l j).flatMap cP++(jH #[.string ⟨#[]⟩,.int .i64 0] (l.length - (kp p l j).length)++rest)) (by simp <;> rfl) (by simp) (by omega) (by simp [hrest,jO (z:=#[.string ⟨#[]⟩,.int .i64 0]) (k:=2) rfl];omega) (by simp) (aQu _) (by rw [Xe];exact cZ _ _) ?_;simp only [sW];apply aC;simp [aH];unfold kp;rw [cC (by omega)]
theorem Yr(l:List PI)(p:PI->Bool)(f:FuncId)(caps:List D)(σ:List (List D))(hl:l.length<=1000000)(hcp:∀d∈caps,d.plain=true)(hcs:caps.map D.strip=caps)(hp:∀x τ,Ct prog f (cQ x::caps) τ (fun r τ'=>r= .bool (p x)/\τ'=τ)):
  Ct prog 270 [.xs 2 (l.map cQ),.clo (.func f) [] caps] σ (fun r σ'=>r= .xs 2 ((l.filter fun x=> !p x).map cQ)/\σ'=σ):=
 (Ue l p f caps σ hl hcp hcs hp).trim fun r σ' ⟨hr,hs⟩=>⟨σ, [[]],hs,rfl,by rw [hr];exact aSq _ _,fun n cs h=> .inl h,hr,rfl⟩
theorem aD6(l:List PI)(σ:List (List D))(hl:l.length<=1000000):Ct prog 155 [.sl false (l.map cQ)] σ (fun r σ'=>r= .sl true (l.map cQ)/\σ'=σ):=by
 refine zf func155 ?_;refine zr ⟨[2],[],[],[],[]⟩ fun _ _ Z=>?_;simp;apply Z;apply aE;refine zr ⟨[2],[],[],[],[]⟩ fun _ _ Z=>?_;refine zs 1 fun _ Y=>?_;simp;apply Y;refine aF fun _ Y=>?_;simp;refine⟨Y _ ?_,fun e1=>Y _ ?_⟩
 .simp only [eF];apply Z;refine aZ (t:=false) (by simp) (fun h=>by cases h) (fun _=>?_);apply zA;refine zr ⟨[2],[],[],[],[]⟩ fun _ _ Z=>?_;simp;and_intros<;>(try omega);apply Z;apply aC;simp [aH]
 simp only [eF];apply Z;refine aZ (t:=true) (by simp) (fun _=>?_) (fun h=>by cases h);refine zr ⟨[2],[],[],[],[]⟩ fun _ _ Z=>?_;simp;apply Z;apply aC;simp [aH,e1]
theorem Zp(N cap:Nat)(l:List Int)(rest:List D)(σ:List (List D))(hl:l.length<=1000000)(hN:σ[N]?=some (l.map D.int++rest)):Ct prog 153 [.slo N 0 l.length cap] σ (fun r σ'=>vU 1 (l.map D.int) r/\σ'=σ):=by
 refine zf func153 ?_;refine zr ⟨[2,7],[],[],[],[7]⟩ fun _ _ Z=>?_;simp[hN];apply Z;apply aE;refine zr ⟨[2,7],[],[],[],[7]⟩ fun _ _ Z=>?_;refine zs 1 fun _ Y=>?_;simp[hN];apply Y;refine aF fun _ Y=>?_;simp[hN];refine⟨Y _ ?_,fun e1=>Y _ ?_⟩
 .simp only [eF];apply Z;refine aZ (t:=false) (by simp) (fun h=>by cases h) (fun _=>?_);apply zA;refine zr ⟨[2,7],[],[],[],[7]⟩ fun _ _ Z=>?_;refine zs 3 fun _ Y=>?_;simp[hN];refine⟨l.map D.int,⟨⟨by simp,by rw [tY (f:=D.int) (fun _=>rfl)];exact cZ _ _⟩,mH (d:=D.int) (fun _=>⟨rfl,rfl⟩) _,by first | rfl | trivial⟩,⟨by simp;omega,by simp;omega⟩,?_⟩;and_intros<;>(try omega);apply Y;simp[hN];apply Z;apply aC;simp [aH,vU]
 simp only [eF];apply Z;refine aZ (t:=true) (by simp) (fun _=>?_) (fun h=>by cases h);refine zr ⟨[2,7],[],[],[],[7]⟩ fun _ _ Z=>?_;simp[hN];apply Z;apply aC;simp [aH,vU,e1]
theorem aDu(N cap:Nat)(l:List Int)(rest:List D)(σ:List (List D))(hl:l.length<=1000000)(hN:σ[N]?=some (l.map D.int++rest)):Ct prog 153 [.slo N 0 l.length cap] σ (fun r σ'=>r= .sl false (l.map D.int)/\σ'=σ):=((Zp N cap l rest σ hl hN).toX fun _ _ h=>h).freeze fun _ _ h=>h
def aFl(c:Int)(l:List Int):Int:=wB (fun x=>decide (x=c)) l
end Go.Proofs.YtbgfljpnhhdkoaaGreat
