import Derived.Test.YtbgfljpnhhdkoaaGreatWkAr2
set_option linter.all false
set_option maxRecDepth 20000
set_option maxHeartbeats 8000000
open Go.Proofs.Tryz
namespace Go.Proofs.YtbgfljpnhhdkoaaGreat
open Go Go.Vm
structure AT where
 name:ByteArray
 value:ByteArray
 deriving DecidableEq
@[simp] abbrev cW(s:AT):D:= .agg [.v (.string s.name),.v (.string s.value)]
structure PI where
 name:ByteArray
 value:Int
 deriving DecidableEq
@[simp] abbrev cQ(s:PI):D:= .agg [.v (.string s.name),.v (.int .i64 s.value)]
def cI(n:Int):List D:= [D.int n]
def cA(x:AT):List D:= [D.str x.name,D.str x.value]
def cP(x:PI):List D:= [D.str x.name,D.int x.value]
def fM {α:Type} (l:List α)(i:Nat)(x:α):List α:=l.take i++x::l.drop i
theorem jV {α:Type} (l:List α)(i:Nat)(x:α)(h:i<=l.length):(fM l i x).length=l.length+1:=by simp [fM];omega
def Bx(k:Nat):D:=if k=1 then .any else .agg (List.replicate k .any)
theorem Ac {k:Nat} :(Bx k).cells=List.replicate k .any:=by
 unfold Bx;split
 .rename_i h;subst h;rfl
 rfl
theorem aPm {k:Nat} :(Bx k).ncells=k/\(Bx k).arr=true:=by
 constructor
 .rw [<- eE,Ac,cO]
 unfold D.arr;rw [Ac,gB];intro x hx;rw [qP hx];rfl
section
variable {α:Type} {f:α->List D} {d:α->D} {k:Nat}
theorem Qz(hd:∀a,(d a).cells=f a)(hf:∀a,(f a).length=k)(l:List α)(i r:Nat)(hi:i<l.length)(hr:k<=r):((l.drop i).map d++ [Bx k]).flatMap D.cells<+:List.drop (i * k) (l.flatMap f++List.replicate r .any):=by
 have e:l.flatMap f=(l.take i).flatMap f++(l.drop i).flatMap f:=by rw [<- gP,fL]
 rw [e,bU,<- pL hf l i hi,zG,gP,cU hd];refine⟨List.replicate (r - k) .any,?_⟩;simp only [gH,Fx,gR,Ac,bU,Ms];rw [show k+(r - k)=r by omega]
theorem Ik(hd:∀a,(d a).cells=f a)(hf:∀a,(f a).length=k)(l:List α)(i r:Nat)(hi:i<l.length)(hr:k<=r):dT (l.flatMap f++List.replicate r .any) ((i+1) * k) ((((l.drop i).map d++ [Bx k]).take (l.length - i)).flatMap D.cells)=(l.take (i+1)).flatMap f++((l.drop i).flatMap f++List.replicate (r - k) .any):=by
 have e:l.flatMap f=(l.take (i+1)).flatMap f++(l.drop (i+1)).flatMap f:=by rw [<- gP,fL]
 have e2:((l.drop i).map d++ [Bx k]).take (l.length - i)=(l.drop i).map d:=by
  rw [Mt (by simp),bX (by simp)]
 have e3:(l.flatMap f++List.replicate r (D.any))=(l.take (i+1)).flatMap f++(((l.drop (i+1)).flatMap f++List.replicate k .any)++List.replicate (r - k) .any):=by
  rw [e,bU,bU,Ms,show k+(r - k)=r by omega]
 have e4:((l.take (i+1)).flatMap f).length=(i+1) * k:=by rw [dG hf,bE,kJ (by omega)]
 rw [e2,cU hd,e3,<- e4];refine oM _ _ _ _ ?_;rw [bB,dG hf,dG hf,cO,dF,dF,<- uN];congr 1;omega
theorem Ln(hf:∀a,(f a).length=k)(l:List α)(i:Nat)(x:α)(R:List D)(hi:i<l.length):dT ((l.take (i+1)).flatMap f++((l.drop i).flatMap f++R)) (i * k) (f x)=(fM l i x).flatMap f++R:=by
 have e:(l.take (i+1)).flatMap f=(l.take i).flatMap f++f l[i]:=by rw [bN l i hi,gP];simp
 rw [e,bU,<- pL hf l i hi,oM _ _ _ _ (by rw [hf,hf])];simp [fM]
theorem Cq(hd:∀a,(d a).cells=f a)(l:List α)(i r:Nat):((l.take i).map d).flatMap D.cells<+:l.flatMap f++List.replicate r .any:=by
 rw [cU hd];have e:l.flatMap f=(l.take i).flatMap f++(l.drop i).flatMap f:=by rw [<- gP,fL]
 rw [e,bU];exact cZ _ _
theorem Fp(hd:∀a,(d a).cells=f a)(l:List α)(i:Nat):((l.take i).map d).flatMap D.cells<+:l.flatMap f:=by
 have:=Cq (f:=f) hd l i 0;simpa using this
theorem mH(hd:∀a,(d a).ncells=k/\(d a).arr=true)(l:List α):∀y∈l.map d,y.ncells=k/\y.arr=true:=fun y hy=>by
 obtain⟨a,_,rfl⟩:=aU.1 hy;exact hd a
theorem Yk(hd:∀a,(d a).ncells=k/\(d a).arr=true)(l:List α):∀y∈l.map d++ [Bx k],y.ncells=k/\y.arr=true:=fun y hy=>by
 rcases bQ.1 hy with h | h
 .exact mH hd l y h
 simp at h;subst h;exact aPm
theorem Jr(hd:∀a,(d a).cells=f a)(hf:∀a,(f a).length=k)(l:List α)(i r:Nat)(hi:i<l.length):((l.drop i).map d).flatMap D.cells<+:List.drop (i * k) (l.flatMap f++List.replicate r .any):=by
 have e:l.flatMap f=(l.take i).flatMap f++(l.drop i).flatMap f:=by rw [<- gP,fL]
 rw [e,bU,<- pL hf l i hi,zG,cU hd];exact cZ _ _
theorem Sd {Z:D} (hZ:Z.ncells=k):∀n:Nat,((List.replicate n Z).flatMap D.cells).length=n * k
 | 0=>by simp
 | n+1=>by rw [Di,gH,bB,Sd hZ n,eE,hZ,uN];omega
theorem Ii(hf:∀a,(f a).length=k)(l:List α)(i:Nat)(x:α)(R:List D)(hi:i<l.length)(hR:k<=R.length):dT ((l.take i).flatMap f++R) (i * k) (f x)=(l.take i).flatMap f++(f x++R.drop k):=by
 conv=>lhs;rw [<- fL k R]
 rw [<- pL hf l i hi,oM _ _ _ _ (by rw [hf,bE];omega)]
theorem Km(hd:∀a,(d a).cells=f a)(hf:∀a,(f a).length=k)(l:List α)(i:Nat)(x:α)(R:List D)(hi:i<l.length)(hR:(l.length - i) * k<=R.length):dT ((l.take i).flatMap f++(f x++R)) ((i+1) * k) (((l.drop i).map d).flatMap D.cells)=(fM l i x).flatMap f++R.drop ((l.length - i) * k):=by
 have e:((l.take i).flatMap f++f x).length=(i+1) * k:=by rw [bB,pL hf l i hi,hf,uN]
 conv=>lhs;rw [<- fL ((l.length - i) * k) R]
 rw [<- bU,<- e,oM _ _ _ _ (by rw [cU hd,dG hf,dF,bE];omega),cU hd];simp [fM]
end
theorem iE:Qo prog 241:=by
 obtain⟨ti,zv,h1,h2,_⟩:=jJ aX3;exact⟨_,22,4,3,ti,func241,by kernel_rfl,by kernel_rfl,by kernel_rfl,by kernel_rfl,h1,h2⟩
@[simp] abbrev q26_1:Cfg:=⟨[0,6,9,17,23,55,61,83,94],[],[],[12,19,25,34,43,50,53,60,66,73,76,80],[30,40,45,54,67,77,82]⟩
theorem aH4(l:List Int)(x:Int)(i:Nat)(σ:List (List D))(hl:l.length<=1000000)(hi:i<=l.length):Ct prog 205 [.xs 1 (l.map D.int),D.int i,.sl true [D.int x]] σ (fun r σ'=>r= .xs 1 ((fM l i x).map D.int)/\∃J,σ'=σ++J):=by
 refine zf func205 ?_;refine iL 0 1 rfl (by decide) fun cap rest hcap hcm hrest hk0 hes=>?_;subst hrest;simp only [bS] at hcap |-;rw [cU (f:=cI) (fun _=>rfl)];refine zr q26_1 fun _ _ Z=>?_;simp(disch:=omega)[iE,-bH,bI,aV,aJ,aG];apply Z;refine zr q26_1 fun _ _ Z=>?_;simp(disch:=omega)[iE,-bH,bI,aV,aJ,aG];and_intros<;>(try omega);apply Z;refine zr q26_1 fun _ _ Z=>?_;simp(disch:=omega)[iE,-bH,bI,aV,aJ,aG];and_intros<;>(try omega);apply Z;apply aF;refine zr q26_1 fun _ _ Z=>?_;simp(disch:=omega)[iE,-bH,bI,aV,aJ,aG];apply Z;refine zI ?_ ?_<;>intro c1<;>try simp at c1
 apply zA;refine zr q26_1 fun _ _ Z=>?_;simp(disch:=omega)[iE,-bH,bI,aV,aJ,aG];and_intros<;>(try omega);apply Z;apply aF;refine zk [0,1,2,6,7,8] ?_;refine zr q26_1 fun _ _ Z=>?_;simp(disch:=omega)[iE,-bH,bI,aV,aJ,aG];apply Z;refine zI ?_ ?_<;>intro c2<;>try simp at c2
 .refine zr q26_1 fun _ _ Z=>?_;refine zs 3 fun _ Y=>?_;simp(disch:=omega)[iE,-bH,bI,aV,aJ,aG];refine⟨by first | rfl | exact⟨rfl,rfl⟩ | trivial,_,l.map D.int,⟨rfl,by simp only [bB,dG (f:=cI) (k:=1) (fun _=>rfl),cO];omega,by simp,hes,by rw [cU (f:=cI) (fun _=>rfl)];exact cZ _ _,by simp;omega,by simp;omega⟩,?_⟩;and_intros<;>(try omega);apply Y;simp(disch:=omega)[iE,-bH,bI,aV,aJ,aG];apply Z;apply aC;obtain rfl:i=l.length:=by omega
  simp [aI,fM]
 apply zA;apply aF;refine zr q26_1 fun _ _ Z=>?_;simp(disch:=omega)[iE,-bH,bI,aV,aJ,aG];and_intros<;>(try omega);apply Z;refine zI ?_ ?_<;>intro c3<;>try simp at c3
 .refine zk [0,1,2,6,7,8] ?_;refine zr q26_1 fun _ _ Z=>?_;refine zs 8 fun _ Y=>?_;simp(disch:=omega)[iE,-bH,bI,aV,aJ,aG];and_intros<;>(try omega);apply Y;refine zs 1 fun _ Y=>?_;simp(disch:=omega)[iE,-bH,bI,aV,aJ,aG];refine⟨(l.take i).map D.int,⟨⟨by simp;omega,by first | exact Fp (f:=cI) (fun _=>rfl) l i | exact Cq (f:=cI) (fun _=>rfl) l i _⟩,(mH (d:=D.int) (fun _=>⟨rfl,rfl⟩) _),by omega,by omega,by omega,by omega,by first | rfl | exact⟨rfl,rfl⟩ | trivial⟩,?_⟩;and_intros<;>(try omega);apply Y;simp(disch:=omega)[iE,-bH,bI,aV,aJ,aG];apply Z;refine sB 9 1 rfl (by decide) fun cap2 rest2 hcap2 hcm2 hrest2 hk2 hes2=>?_;simp only [bB,bS,bE,cO,kJ hi] at hcap2 hrest2 |-;rw [gP,show List.flatMap D.cells (List.take i (List.map D.int l))=(l.take i).flatMap cI from by rw [<- uG];exact cU (f:=cI) (fun _=>rfl) _];simp only [bU];have hR:((List.replicate (l.length+1 - i) (vE 1 #[.int .i64 0])).flatMap D.cells++rest2).length=(cap2 - i) * 1:=by rw [bB,Sd (k:=1) rfl,hrest2];omega
  generalize (List.replicate (l.length+1 - i) (vE 1 #[.int .i64 0])).flatMap D.cells++rest2=R at hR |-;refine zk [0,1,2,6,7,8,9] ?_;refine zr q26_1 fun _ _ Z=>?_;simp(disch:=omega)[iE,-bH,bI,aV,aJ,aG];have hlt:i<l.length:=by omega
  refine⟨by omega, [D.int x],_,⟨rfl,(fun y hy=>by simp only [fP] at hy;subst hy;exact⟨rfl,rfl⟩),rfl,by simp only [bB,dG (f:=cI) (k:=1) (fun _=>rfl),show ∀a,(cI a).length=1 from fun _=>rfl,cO,bS,dF,bE,cG,dX] at *;omega⟩,?_⟩;rw [show min [D.int x].length (l.length+1 - i)=1 by first | (simp;done) | (simp;omega),show List.flatMap D.cells (List.take 1 [D.int x])=cI x from rfl];have row:=Ii (f:=cI) (k:=1) (fun _=>rfl) l i x R hlt (by rw [hR];omega);simp only [rU] at row;rw [row];clear row;have hR3:(R.drop 1).length=(cap2 - i - 1) * 1:=by rw [dF,hR];omega
  generalize R.drop 1=R3 at hR3 |-;and_intros<;>(try omega);apply Z;refine zk [0,1,2,6,7,8,9] ?_;refine zd q26_1 [.op {},.op {},.op {},.op {},.op {},.op {},.op {},.op {},.op {rO:=true,wO:=true}] fun all hall _ Z=>?_;refine lM 8 fun _ Y=>?_;simp(disch:=omega)[iE,-bH,bI,aV,aJ,aG];and_intros<;>(try omega);apply Y;simp(disch:=omega)[iE,-bH,bI,aV,aJ,aG];refine⟨(l.drop i).map D.int,_,⟨⟨by simp,by have:=Jr (f:=cI) (d:=D.int) (k:=1) (fun _=>rfl) (fun _=>rfl) l i 0 hlt;first | exact this | simpa using this⟩,(mH (d:=D.int) (fun _=>⟨rfl,rfl⟩) _),rfl,by simp only [bB,dG (f:=cI) (k:=1) (fun _=>rfl),show ∀a,(cI a).length=1 from fun _=>rfl,cO,bS,dF,bE,cG,dX] at *;omega⟩,?_⟩;rw [show min ((l.drop i).map D.int).length (l.length - i)=l.length - i by simp,bX (show((l.drop i).map D.int).length<=l.length - i by simp)];have row:=Km (f:=cI) (d:=D.int) (k:=1) (fun _=>rfl) (fun _=>rfl) l i x R3 hlt (by rw [hR3];omega);simp only [rU] at row;rw [row];clear row;have hR4:(R3.drop ((l.length - i) * 1)).length=(cap2 - i - 1 - (l.length - i)) * 1:=by rw [dF,hR3];omega
  simp only [rU] at hR4;generalize R3.drop _=R4 at hR4 |-;and_intros<;>(try omega);apply Z;refine zk [0,1,2,6,7,8,9] ?_;refine zr q26_1 fun _ _ Z=>?_;simp(disch:=omega)[iE,-bH,bI,aV,aJ,aG];apply Z;refine fF 6 1 (σ.length+1) (l.length+1) cap2 ((fM l i x).map D.int) ((fM l i x).flatMap cI++R4) (by simp <;> rfl) (by simp [bI,aJ]) (by omega) (by have:=jV l i x hi;simp only [bB,dG (f:=cI) (k:=1) (fun _=>rfl),this] at *;omega) (by simp [jV l i x hi]) (mH (d:=D.int) (fun _=>⟨rfl,rfl⟩) _) (by rw [cU (f:=cI) (fun _=>rfl)];exact cZ _ _) ?_;apply aC;simp [aI]
 apply zA;refine zk [0,1,2,6,7,8] ?_;refine zr q26_1 fun _ _ Z=>?_;simp(disch:=omega)[iE,-bH,bI,aV,aJ,aG];and_intros<;>(try omega);apply Z;apply aF;refine zk [0,1,2,6,7,8] ?_;refine zr q26_1 fun _ _ Z=>?_;simp(disch:=omega)[iE,-bH,bI,aV,aJ,aG];and_intros<;>(try omega);apply Z;refine zI ?_ ?_<;>intro c4<;>try simp at c4
 refine zk [0,1,2,6,7,8] ?_;refine zd q26_1 [.op {},.op {},.op {},.op {},.op {},.op {},.op {},.op {},.op {rO:=true,wO:=true}] fun all hall _ Z=>?_;refine lM 8 fun _ Y=>?_;simp(disch:=omega)[iE,-bH,bI,aV,aJ,aG];and_intros<;>(try omega);apply Y;simp(disch:=omega)[iE,-bH,bI,aV,aJ,aG];have hlt:i<l.length:=by omega
 refine⟨(l.drop i).map D.int++ [Bx 1],_,⟨⟨by first | (simp;done) | (simp;omega),by have:=Qz (f:=cI) (d:=D.int) (k:=1) (fun _=>rfl) (fun _=>rfl) l i ((cap - l.length) * 1) hlt (show 1<=((cap - l.length) * 1) by omega);first | exact this | simpa using this⟩,Yk (d:=D.int) (fun _=>⟨rfl,rfl⟩) _,rfl,by simp only [bB,dG (f:=cI) (k:=1) (fun _=>rfl),show ∀a,(cI a).length=1 from fun _=>rfl,cO,bS,dF,bE,cG,dX] at *;omega⟩,?_⟩;rw [show min ((l.drop i).map D.int++ [Bx 1]).length (l.length - i)=l.length - i by first | (simp;done) | (simp;omega)];have row:=Ik (f:=cI) (d:=D.int) (k:=1) (fun _=>rfl) (fun _=>rfl) l i ((cap - l.length) * 1) hlt (show 1<=((cap - l.length) * 1) by omega);simp only [rU] at row;rw [row];clear row;have hR:(List.replicate (((cap - l.length) * 1) - 1) D.any).length=((cap - l.length) * 1) - 1:=cO;simp only [rU] at hR;generalize List.replicate _ D.any=R at hR |-;and_intros<;>(try omega);apply Z;refine zk [0,1,2,6,7,8] ?_;refine zr q26_1 fun _ _ Z=>?_;simp(disch:=omega)[iE,-bH,bI,aV,aJ,aG];refine⟨by omega, [D.int x],_,⟨rfl,(fun y hy=>by simp only [fP] at hy;subst hy;exact⟨rfl,rfl⟩),rfl,by simp only [bB,dG (f:=cI) (k:=1) (fun _=>rfl),show ∀a,(cI a).length=1 from fun _=>rfl,cO,bS,dF,bE,cG,dX] at *;omega⟩,?_⟩;rw [show min [D.int x].length (l.length+1 - i)=1 by first | (simp;done) | (simp;omega),show List.flatMap D.cells (List.take 1 [D.int x])=cI x from rfl];have row:=Ln (f:=cI) (k:=1) (fun _=>rfl) l i x R hlt;simp only [rU] at row;rw [row];clear row;and_intros<;>(try omega);apply Z;refine zr q26_1 fun _ _ Z=>?_;simp(disch:=omega)[iE,-bH,bI,aV,aJ,aG];apply Z;refine fF 6 1 σ.length (l.length+1) cap ((fM l i x).map D.int) ((fM l i x).flatMap cI++R) (by simp <;> rfl) (by simp [bI,aJ]) (by omega) (by have:=jV l i x hi;simp only [bB,dG (f:=cI) (k:=1) (fun _=>rfl),this] at *;omega) (by simp [jV l i x hi]) (mH (d:=D.int) (fun _=>⟨rfl,rfl⟩) _) (by rw [cU (f:=cI) (fun _=>rfl)];exact cZ _ _) ?_;apply aC;simp [aI]
theorem aX0(N:Nat)(l:List Int):Sc N (.xs 1 (l.map D.int)):=Sc.xs fun e he y hy=>by
 obtain⟨a,_,rfl⟩:=aU.1 he;simp only [D.cells,bP,gY,gZ] at hy;subst hy <;> exact Sc.v _
theorem aPh(l:List Int)(x:Int)(i:Nat)(σ:List (List D))(hl:l.length<=1000000)(hi:i<=l.length):Ct prog 205 [.xs 1 (l.map D.int),D.int i,.sl true [D.int x]] σ (fun r σ'=>r= .xs 1 ((fM l i x).map D.int)/\σ'=σ):=
 (aH4 l x i σ hl hi).trim fun r σ' ⟨hr,J,hs⟩=>⟨σ,J,hs,rfl,by rw [hr];exact aX0 _ _,fun n cs h=> .inl h,hr,rfl⟩
theorem iF:Qo prog 249:=by
 obtain⟨ti,zv,h1,h2,_⟩:=jJ aXk;exact⟨_,36,4,191,ti,func249,by kernel_rfl,by kernel_rfl,by kernel_rfl,by kernel_rfl,h1,h2⟩
theorem aMw(l:List AT)(x:AT)(i:Nat)(σ:List (List D))(hl:l.length<=1000000)(hi:i<=l.length):Ct prog 224 [.xs 2 (l.map cW),D.int i,.sl true [cW x]] σ (fun r σ'=>r= .xs 2 ((fM l i x).map cW)/\∃J,σ'=σ++J):=by
 refine zf func224 ?_;refine iL 0 2 rfl (by decide) fun cap rest hcap hcm hrest hk0 hes=>?_;subst hrest;simp only [bS] at hcap |-;rw [cU (f:=cA) (fun _=>rfl)];refine zr q26_1 fun _ _ Z=>?_;simp(disch:=omega)[iF,-bH,bI,aV,aJ,aG];apply Z;refine zr q26_1 fun _ _ Z=>?_;simp(disch:=omega)[iF,-bH,bI,aV,aJ,aG];and_intros<;>(try omega);apply Z;refine zr q26_1 fun _ _ Z=>?_;simp(disch:=omega)[iF,-bH,bI,aV,aJ,aG];and_intros<;>(try omega);apply Z;apply aF;refine zr q26_1 fun _ _ Z=>?_;simp(disch:=omega)[iF,-bH,bI,aV,aJ,aG];apply Z;refine zI ?_ ?_<;>intro c1<;>try simp at c1
 apply zA;refine zr q26_1 fun _ _ Z=>?_;simp(disch:=omega)[iF,-bH,bI,aV,aJ,aG];and_intros<;>(try omega);apply Z;apply aF;refine zk [0,1,2,6,7,8] ?_;refine zr q26_1 fun _ _ Z=>?_;simp(disch:=omega)[iF,-bH,bI,aV,aJ,aG];apply Z;refine zI ?_ ?_<;>intro c2<;>try simp at c2
 .refine zr q26_1 fun _ _ Z=>?_;refine zs 3 fun _ Y=>?_;simp(disch:=omega)[iF,-bH,bI,aV,aJ,aG];refine⟨by first | rfl | exact⟨rfl,rfl⟩ | trivial,_,l.map cW,⟨rfl,by simp only [bB,dG (f:=cA) (k:=2) (fun _=>rfl),cO];omega,by simp,hes,by rw [cU (f:=cA) (fun _=>rfl)];exact cZ _ _,by simp;omega,by simp;omega⟩,?_⟩;and_intros<;>(try omega);apply Y;simp(disch:=omega)[iF,-bH,bI,aV,aJ,aG];apply Z;apply aC;obtain rfl:i=l.length:=by omega
  simp [aI,fM]
 apply zA;apply aF;refine zr q26_1 fun _ _ Z=>?_;simp(disch:=omega)[iF,-bH,bI,aV,aJ,aG];and_intros<;>(try omega);apply Z;refine zI ?_ ?_<;>intro c3<;>try simp at c3
 .refine zk [0,1,2,6,7,8] ?_;refine zr q26_1 fun _ _ Z=>?_;refine zs 8 fun _ Y=>?_;simp(disch:=omega)[iF,-bH,bI,aV,aJ,aG];and_intros<;>(try omega);apply Y;refine zs 1 fun _ Y=>?_;simp(disch:=omega)[iF,-bH,bI,aV,aJ,aG];refine⟨(l.take i).map cW,⟨⟨by simp;omega,by first | exact Fp (f:=cA) (fun _=>rfl) l i | exact Cq (f:=cA) (fun _=>rfl) l i _⟩,(mH (d:=cW) (fun _=>⟨rfl,rfl⟩) _),by omega,by omega,by omega,by omega,by first | rfl | exact⟨rfl,rfl⟩ | trivial⟩,?_⟩;and_intros<;>(try omega);apply Y;simp(disch:=omega)[iF,-bH,bI,aV,aJ,aG];apply Z;refine sB 9 2 rfl (by decide) fun cap2 rest2 hcap2 hcm2 hrest2 hk2 hes2=>?_;simp only [bB,bS,bE,cO,kJ hi] at hcap2 hrest2 |-;rw [gP,show List.flatMap D.cells (List.take i (List.map cW l))=(l.take i).flatMap cA from by rw [<- uG];exact cU (f:=cA) (fun _=>rfl) _];simp only [bU];have hR:((List.replicate (l.length+1 - i) (vE 2 #[.string ⟨#[]⟩,.string ⟨#[]⟩])).flatMap D.cells++rest2).length=(cap2 - i) * 2:=by rw [bB,Sd (k:=2) rfl,hrest2];omega
  generalize (List.replicate (l.length+1 - i) (vE 2 #[.string ⟨#[]⟩,.string ⟨#[]⟩])).flatMap D.cells++rest2=R at hR |-;refine zk [0,1,2,6,7,8,9] ?_;refine zr q26_1 fun _ _ Z=>?_;simp(disch:=omega)[iF,-bH,bI,aV,aJ,aG];have hlt:i<l.length:=by omega
  refine⟨by omega, [cW x],_,⟨rfl,(fun y hy=>by simp only [fP] at hy;subst hy;exact⟨rfl,rfl⟩),rfl,by simp only [bB,dG (f:=cA) (k:=2) (fun _=>rfl),show ∀a,(cA a).length=2 from fun _=>rfl,cO,bS,dF,bE,cG,dX] at *;omega⟩,?_⟩;rw [show min [cW x].length (l.length+1 - i)=1 by first | (simp;done) | (simp;omega),show List.flatMap D.cells (List.take 1 [cW x])=cA x from rfl];have row:=Ii (f:=cA) (k:=2) (fun _=>rfl) l i x R hlt (by rw [hR];omega)
  skip
  rw [row];clear row;have hR3:(R.drop 2).length=(cap2 - i - 1) * 2:=by rw [dF,hR];omega
  generalize R.drop 2=R3 at hR3 |-;and_intros<;>(try omega);apply Z;refine zk [0,1,2,6,7,8,9] ?_;refine zd q26_1 [.op {},.op {},.op {},.op {},.op {},.op {},.op {},.op {},.op {rO:=true,wO:=true}] fun all hall _ Z=>?_;refine lM 8 fun _ Y=>?_;simp(disch:=omega)[iF,-bH,bI,aV,aJ,aG];and_intros<;>(try omega);apply Y;simp(disch:=omega)[iF,-bH,bI,aV,aJ,aG];refine⟨(l.drop i).map cW,_,⟨⟨by simp,by have:=Jr (f:=cA) (d:=cW) (k:=2) (fun _=>rfl) (fun _=>rfl) l i 0 hlt;first | exact this | simpa using this⟩,(mH (d:=cW) (fun _=>⟨rfl,rfl⟩) _),rfl,by simp only [bB,dG (f:=cA) (k:=2) (fun _=>rfl),show ∀a,(cA a).length=2 from fun _=>rfl,cO,bS,dF,bE,cG,dX] at *;omega⟩,?_⟩;rw [show min ((l.drop i).map cW).length (l.length - i)=l.length - i by simp,bX (show((l.drop i).map cW).length<=l.length - i by simp)];have row:=Km (f:=cA) (d:=cW) (k:=2) (fun _=>rfl) (fun _=>rfl) l i x R3 hlt (by rw [hR3];omega)
  skip
  rw [row];clear row;have hR4:(R3.drop ((l.length - i) * 2)).length=(cap2 - i - 1 - (l.length - i)) * 2:=by rw [dF,hR3];omega
  generalize R3.drop _=R4 at hR4 |-;and_intros<;>(try omega);apply Z;refine zk [0,1,2,6,7,8,9] ?_;refine zr q26_1 fun _ _ Z=>?_;simp(disch:=omega)[iF,-bH,bI,aV,aJ,aG];apply Z;refine fF 6 2 (σ.length+1) (l.length+1) cap2 ((fM l i x).map cW) ((fM l i x).flatMap cA++R4) (by simp <;> rfl) (by simp [bI,aJ]) (by omega) (by have:=jV l i x hi;simp only [bB,dG (f:=cA) (k:=2) (fun _=>rfl),this] at *;omega) (by simp [jV l i x hi]) (mH (d:=cW) (fun _=>⟨rfl,rfl⟩) _) (by rw [cU (f:=cA) (fun _=>rfl)];exact cZ _ _) ?_;apply aC;simp [aI]
 apply zA;refine zk [0,1,2,6,7,8] ?_;refine zr q26_1 fun _ _ Z=>?_;simp(disch:=omega)[iF,-bH,bI,aV,aJ,aG];and_intros<;>(try omega);apply Z;apply aF;refine zk [0,1,2,6,7,8] ?_;refine zr q26_1 fun _ _ Z=>?_;simp(disch:=omega)[iF,-bH,bI,aV,aJ,aG];and_intros<;>(try omega);apply Z;refine zI ?_ ?_<;>intro c4<;>try simp at c4
 refine zk [0,1,2,6,7,8] ?_;refine zd q26_1 [.op {},.op {},.op {},.op {},.op {},.op {},.op {},.op {},.op {rO:=true,wO:=true}] fun all hall _ Z=>?_;refine lM 8 fun _ Y=>?_;simp(disch:=omega)[iF,-bH,bI,aV,aJ,aG];and_intros<;>(try omega);apply Y;simp(disch:=omega)[iF,-bH,bI,aV,aJ,aG];have hlt:i<l.length:=by omega
 refine⟨(l.drop i).map cW++ [Bx 2],_,⟨⟨by first | (simp;done) | (simp;omega),by have:=Qz (f:=cA) (d:=cW) (k:=2) (fun _=>rfl) (fun _=>rfl) l i ((cap - l.length) * 2) hlt (show 2<=((cap - l.length) * 2) by omega);first | exact this | simpa using this⟩,Yk (d:=cW) (fun _=>⟨rfl,rfl⟩) _,rfl,by simp only [bB,dG (f:=cA) (k:=2) (fun _=>rfl),show ∀a,(cA a).length=2 from fun _=>rfl,cO,bS,dF,bE,cG,dX] at *;omega⟩,?_⟩;rw [show min ((l.drop i).map cW++ [Bx 2]).length (l.length - i)=l.length - i by first | (simp;done) | (simp;omega)];have row:=Ik (f:=cA) (d:=cW) (k:=2) (fun _=>rfl) (fun _=>rfl) l i ((cap - l.length) * 2) hlt (show 2<=((cap - l.length) * 2) by omega)
 skip
 rw [row];clear row;have hR:(List.replicate (((cap - l.length) * 2) - 2) D.any).length=((cap - l.length) * 2) - 2:=cO;generalize List.replicate _ D.any=R at hR |-;and_intros<;>(try omega);apply Z;refine zk [0,1,2,6,7,8] ?_;refine zr q26_1 fun _ _ Z=>?_;simp(disch:=omega)[iF,-bH,bI,aV,aJ,aG];refine⟨by omega, [cW x],_,⟨rfl,(fun y hy=>by simp only [fP] at hy;subst hy;exact⟨rfl,rfl⟩),rfl,by simp only [bB,dG (f:=cA) (k:=2) (fun _=>rfl),show ∀a,(cA a).length=2 from fun _=>rfl,cO,bS,dF,bE,cG,dX] at *;omega⟩,?_⟩;rw [show min [cW x].length (l.length+1 - i)=1 by first | (simp;done) | (simp;omega),show List.flatMap D.cells (List.take 1 [cW x])=cA x from rfl];have row:=Ln (f:=cA) (k:=2) (fun _=>rfl) l i x R hlt
 skip
 rw [row];clear row;and_intros<;>(try omega);apply Z;refine zr q26_1 fun _ _ Z=>?_;simp(disch:=omega)[iF,-bH,bI,aV,aJ,aG];apply Z;refine fF 6 2 σ.length (l.length+1) cap ((fM l i x).map cW) ((fM l i x).flatMap cA++R) (by simp <;> rfl) (by simp [bI,aJ]) (by omega) (by have:=jV l i x hi;simp only [bB,dG (f:=cA) (k:=2) (fun _=>rfl),this] at *;omega) (by simp [jV l i x hi]) (mH (d:=cW) (fun _=>⟨rfl,rfl⟩) _) (by rw [cU (f:=cA) (fun _=>rfl)];exact cZ _ _) ?_;apply aC;simp [aI]
theorem aTz(N:Nat)(l:List AT):Sc N (.xs 2 (l.map cW)):=Sc.xs fun e he y hy=>by
 obtain⟨a,_,rfl⟩:=aU.1 he;simp only [D.cells,bP,gY,gZ] at hy;rcases hy with rfl | rfl <;> exact Sc.v _
theorem aPf(l:List AT)(x:AT)(i:Nat)(σ:List (List D))(hl:l.length<=1000000)(hi:i<=l.length):Ct prog 224 [.xs 2 (l.map cW),D.int i,.sl true [cW x]] σ (fun r σ'=>r= .xs 2 ((fM l i x).map cW)/\σ'=σ):=
 (aMw l x i σ hl hi).trim fun r σ' ⟨hr,J,hs⟩=>⟨σ,J,hs,rfl,by rw [hr];exact aTz _ _,fun n cs h=> .inl h,hr,rfl⟩
theorem iC:Qo prog 251:=by
 obtain⟨ti,zv,h1,h2,_⟩:=jJ aX7;exact⟨_,38,4,137,ti,func251,by kernel_rfl,by kernel_rfl,by kernel_rfl,by kernel_rfl,h1,h2⟩
theorem aKq(l:List PI)(x:PI)(i:Nat)(σ:List (List D))(hl:l.length<=1000000)(hi:i<=l.length):Ct prog 225 [.xs 2 (l.map cQ),D.int i,.sl true [cQ x]] σ (fun r σ'=>r= .xs 2 ((fM l i x).map cQ)/\∃J,σ'=σ++J):=by
 refine zf func225 ?_;refine iL 0 2 rfl (by decide) fun cap rest hcap hcm hrest hk0 hes=>?_;subst hrest;simp only [bS] at hcap |-;rw [cU (f:=cP) (fun _=>rfl)];refine zr q26_1 fun _ _ Z=>?_;simp(disch:=omega)[iC,-bH,bI,aV,aJ,aG];apply Z;refine zr q26_1 fun _ _ Z=>?_;simp(disch:=omega)[iC,-bH,bI,aV,aJ,aG];and_intros<;>(try omega);apply Z;refine zr q26_1 fun _ _ Z=>?_;simp(disch:=omega)[iC,-bH,bI,aV,aJ,aG];and_intros<;>(try omega);apply Z;apply aF;refine zr q26_1 fun _ _ Z=>?_;simp(disch:=omega)[iC,-bH,bI,aV,aJ,aG];apply Z;refine zI ?_ ?_<;>intro c1<;>try simp at c1
 apply zA;refine zr q26_1 fun _ _ Z=>?_;simp(disch:=omega)[iC,-bH,bI,aV,aJ,aG];and_intros<;>(try omega);apply Z;apply aF;refine zk [0,1,2,6,7,8] ?_;refine zr q26_1 fun _ _ Z=>?_;simp(disch:=omega)[iC,-bH,bI,aV,aJ,aG];apply Z;refine zI ?_ ?_<;>intro c2<;>try simp at c2
 .refine zr q26_1 fun _ _ Z=>?_;refine zs 3 fun _ Y=>?_;simp(disch:=omega)[iC,-bH,bI,aV,aJ,aG];refine⟨by first | rfl | exact⟨rfl,rfl⟩ | trivial,_,l.map cQ,⟨rfl,by simp only [bB,dG (f:=cP) (k:=2) (fun _=>rfl),cO];omega,by simp,hes,by rw [cU (f:=cP) (fun _=>rfl)];exact cZ _ _,by simp;omega,by simp;omega⟩,?_⟩;and_intros<;>(try omega);apply Y;simp(disch:=omega)[iC,-bH,bI,aV,aJ,aG];apply Z;apply aC;obtain rfl:i=l.length:=by omega
  simp [aI,fM]
 apply zA;apply aF;refine zr q26_1 fun _ _ Z=>?_;simp(disch:=omega)[iC,-bH,bI,aV,aJ,aG];and_intros<;>(try omega);apply Z;refine zI ?_ ?_<;>intro c3<;>try simp at c3
 .refine zk [0,1,2,6,7,8] ?_;refine zr q26_1 fun _ _ Z=>?_;refine zs 8 fun _ Y=>?_;simp(disch:=omega)[iC,-bH,bI,aV,aJ,aG];and_intros<;>(try omega);apply Y;refine zs 1 fun _ Y=>?_;simp(disch:=omega)[iC,-bH,bI,aV,aJ,aG];refine⟨(l.take i).map cQ,⟨⟨by simp;omega,by first | exact Fp (f:=cP) (fun _=>rfl) l i | exact Cq (f:=cP) (fun _=>rfl) l i _⟩,(mH (d:=cQ) (fun _=>⟨rfl,rfl⟩) _),by omega,by omega,by omega,by omega,by first | rfl | exact⟨rfl,rfl⟩ | trivial⟩,?_⟩;and_intros<;>(try omega);apply Y;simp(disch:=omega)[iC,-bH,bI,aV,aJ,aG];apply Z;refine sB 9 2 rfl (by decide) fun cap2 rest2 hcap2 hcm2 hrest2 hk2 hes2=>?_;simp only [bB,bS,bE,cO,kJ hi] at hcap2 hrest2 |-;rw [gP,show List.flatMap D.cells (List.take i (List.map cQ l))=(l.take i).flatMap cP from by rw [<- uG];exact cU (f:=cP) (fun _=>rfl) _];simp only [bU];have hR:((List.replicate (l.length+1 - i) (vE 2 #[.string ⟨#[]⟩,.int .i64 0])).flatMap D.cells++rest2).length=(cap2 - i) * 2:=by rw [bB,Sd (k:=2) rfl,hrest2];omega
  generalize (List.replicate (l.length+1 - i) (vE 2 #[.string ⟨#[]⟩,.int .i64 0])).flatMap D.cells++rest2=R at hR |-;refine zk [0,1,2,6,7,8,9] ?_;refine zr q26_1 fun _ _ Z=>?_;simp(disch:=omega)[iC,-bH,bI,aV,aJ,aG];have hlt:i<l.length:=by omega
  refine⟨by omega, [cQ x],_,⟨rfl,(fun y hy=>by simp only [fP] at hy;subst hy;exact⟨rfl,rfl⟩),rfl,by simp only [bB,dG (f:=cP) (k:=2) (fun _=>rfl),show ∀a,(cP a).length=2 from fun _=>rfl,cO,bS,dF,bE,cG,dX] at *;omega⟩,?_⟩;rw [show min [cQ x].length (l.length+1 - i)=1 by first | (simp;done) | (simp;omega),show List.flatMap D.cells (List.take 1 [cQ x])=cP x from rfl];have row:=Ii (f:=cP) (k:=2) (fun _=>rfl) l i x R hlt (by rw [hR];omega)
  skip
  rw [row];clear row;have hR3:(R.drop 2).length=(cap2 - i - 1) * 2:=by rw [dF,hR];omega
  generalize R.drop 2=R3 at hR3 |-;and_intros<;>(try omega);apply Z;refine zk [0,1,2,6,7,8,9] ?_;refine zd q26_1 [.op {},.op {},.op {},.op {},.op {},.op {},.op {},.op {},.op {rO:=true,wO:=true}] fun all hall _ Z=>?_;refine lM 8 fun _ Y=>?_;simp(disch:=omega)[iC,-bH,bI,aV,aJ,aG];and_intros<;>(try omega);apply Y;simp(disch:=omega)[iC,-bH,bI,aV,aJ,aG];refine⟨(l.drop i).map cQ,_,⟨⟨by simp,by have:=Jr (f:=cP) (d:=cQ) (k:=2) (fun _=>rfl) (fun _=>rfl) l i 0 hlt;first | exact this | simpa using this⟩,(mH (d:=cQ) (fun _=>⟨rfl,rfl⟩) _),rfl,by simp only [bB,dG (f:=cP) (k:=2) (fun _=>rfl),show ∀a,(cP a).length=2 from fun _=>rfl,cO,bS,dF,bE,cG,dX] at *;omega⟩,?_⟩;rw [show min ((l.drop i).map cQ).length (l.length - i)=l.length - i by simp,bX (show((l.drop i).map cQ).length<=l.length - i by simp)];have row:=Km (f:=cP) (d:=cQ) (k:=2) (fun _=>rfl) (fun _=>rfl) l i x R3 hlt (by rw [hR3];omega)
  skip
  rw [row];clear row;have hR4:(R3.drop ((l.length - i) * 2)).length=(cap2 - i - 1 - (l.length - i)) * 2:=by rw [dF,hR3];omega
  generalize R3.drop _=R4 at hR4 |-;and_intros<;>(try omega);apply Z;refine zk [0,1,2,6,7,8,9] ?_;refine zr q26_1 fun _ _ Z=>?_;simp(disch:=omega)[iC,-bH,bI,aV,aJ,aG];apply Z;refine fF 6 2 (σ.length+1) (l.length+1) cap2 ((fM l i x).map cQ) ((fM l i x).flatMap cP++R4) (by simp <;> rfl) (by simp [bI,aJ]) (by omega) (by have:=jV l i x hi;simp only [bB,dG (f:=cP) (k:=2) (fun _=>rfl),this] at *;omega) (by simp [jV l i x hi]) (mH (d:=cQ) (fun _=>⟨rfl,rfl⟩) _) (by rw [cU (f:=cP) (fun _=>rfl)];exact cZ _ _) ?_;apply aC;simp [aI]
 apply zA;refine zk [0,1,2,6,7,8] ?_;refine zr q26_1 fun _ _ Z=>?_;simp(disch:=omega)[iC,-bH,bI,aV,aJ,aG];and_intros<;>(try omega);apply Z;apply aF;refine zk [0,1,2,6,7,8] ?_;refine zr q26_1 fun _ _ Z=>?_;simp(disch:=omega)[iC,-bH,bI,aV,aJ,aG];and_intros<;>(try omega);apply Z;refine zI ?_ ?_<;>intro c4<;>try simp at c4
 refine zk [0,1,2,6,7,8] ?_;refine zd q26_1 [.op {},.op {},.op {},.op {},.op {},.op {},.op {},.op {},.op {rO:=true,wO:=true}] fun all hall _ Z=>?_;refine lM 8 fun _ Y=>?_;simp(disch:=omega)[iC,-bH,bI,aV,aJ,aG];and_intros<;>(try omega);apply Y;simp(disch:=omega)[iC,-bH,bI,aV,aJ,aG];have hlt:i<l.length:=by omega
 refine⟨(l.drop i).map cQ++ [Bx 2],_,⟨⟨by first | (simp;done) | (simp;omega),by have:=Qz (f:=cP) (d:=cQ) (k:=2) (fun _=>rfl) (fun _=>rfl) l i ((cap - l.length) * 2) hlt (show 2<=((cap - l.length) * 2) by omega);first | exact this | simpa using this⟩,Yk (d:=cQ) (fun _=>⟨rfl,rfl⟩) _,rfl,by simp only [bB,dG (f:=cP) (k:=2) (fun _=>rfl),show ∀a,(cP a).length=2 from fun _=>rfl,cO,bS,dF,bE,cG,dX] at *;omega⟩,?_⟩;rw [show min ((l.drop i).map cQ++ [Bx 2]).length (l.length - i)=l.length - i by first | (simp;done) | (simp;omega)];have row:=Ik (f:=cP) (d:=cQ) (k:=2) (fun _=>rfl) (fun _=>rfl) l i ((cap - l.length) * 2) hlt (show 2<=((cap - l.length) * 2) by omega)
 skip
 rw [row];clear row;have hR:(List.replicate (((cap - l.length) * 2) - 2) D.any).length=((cap - l.length) * 2) - 2:=cO;generalize List.replicate _ D.any=R at hR |-;and_intros<;>(try omega);apply Z;refine zk [0,1,2,6,7,8] ?_;refine zr q26_1 fun _ _ Z=>?_;simp(disch:=omega)[iC,-bH,bI,aV,aJ,aG];refine⟨by omega, [cQ x],_,⟨rfl,(fun y hy=>by simp only [fP] at hy;subst hy;exact⟨rfl,rfl⟩),rfl,by simp only [bB,dG (f:=cP) (k:=2) (fun _=>rfl),show ∀a,(cP a).length=2 from fun _=>rfl,cO,bS,dF,bE,cG,dX] at *;omega⟩,?_⟩;rw [show min [cQ x].length (l.length+1 - i)=1 by first | (simp;done) | (simp;omega),show List.flatMap D.cells (List.take 1 [cQ x])=cP x from rfl];have row:=Ln (f:=cP) (k:=2) (fun _=>rfl) l i x R hlt
 skip
 rw [row];clear row;and_intros<;>(try omega);apply Z;refine zr q26_1 fun _ _ Z=>?_;simp(disch:=omega)[iC,-bH,bI,aV,aJ,aG];apply Z;refine fF 6 2 σ.length (l.length+1) cap ((fM l i x).map cQ) ((fM l i x).flatMap cP++R) (by simp <;> rfl) (by simp [bI,aJ]) (by omega) (by have:=jV l i x hi;simp only [bB,dG (f:=cP) (k:=2) (fun _=>rfl),this] at *;omega) (by simp [jV l i x hi]) (mH (d:=cQ) (fun _=>⟨rfl,rfl⟩) _) (by rw [cU (f:=cP) (fun _=>rfl)];exact cZ _ _) ?_;apply aC;simp [aI]
theorem aTf(N:Nat)(l:List PI):Sc N (.xs 2 (l.map cQ)):=Sc.xs fun e he y hy=>by
 obtain⟨a,_,rfl⟩:=aU.1 he;simp only [D.cells,bP,gY,gZ] at hy;rcases hy with rfl | rfl <;> exact Sc.v _
theorem aNw(l:List PI)(x:PI)(i:Nat)(σ:List (List D))(hl:l.length<=1000000)(hi:i<=l.length):Ct prog 225 [.xs 2 (l.map cQ),D.int i,.sl true [cQ x]] σ (fun r σ'=>r= .xs 2 ((fM l i x).map cQ)/\σ'=σ):=
 (aKq l x i σ hl hi).trim fun r σ' ⟨hr,J,hs⟩=>⟨σ,J,hs,rfl,by rw [hr];exact aTf _ _,fun n cs h=> .inl h,hr,rfl⟩
attribute [simp] cA
theorem Zm(l:List AT):(l.map cW).flatMap D.cells=l.flatMap cA:=cU (fun _=>rfl) l
theorem aQ3(l:List AT):∀d∈l.map cW,d.ncells=2/\d.arr=true:=by
 intro d hd;obtain⟨a,_,rfl⟩:=aU.1 hd;exact⟨rfl,rfl⟩
@[simp high] theorem aY5(l:List AT):(l.flatMap cA).length=l.length * 2:=dG (f:=cA) (fun _=>rfl) l
@[simp high] theorem aZf(l:List AT)(rest:List D)(i:Nat)(h:i<l.length):zK true 2 ((l.flatMap cA++rest).drop (i * 2))=some (.agg (cA l[i])):=aBb (f:=cA) (fun _=>rfl) l rest i h
@[simp high] theorem aZs(l:List AT)(rest:List D)(i:Nat)(x:AT)(h:i<l.length):dT (l.flatMap cA++rest) (i * 2) [D.str x.name,D.str x.value]=(l.set i x).flatMap cA++rest:=Hd (f:=cA) (fun _=>rfl) l rest i x h
theorem lC(p:AT->Bool)(l:List AT)(j:Nat)(rest:List D):dT ((ar p l j).flatMap cA++rest) ((kp p l j).length * 2) (jK #[.string ⟨#[]⟩,.string ⟨#[]⟩] (l.length - (kp p l j).length))=(kp p l j).flatMap cA++(jK #[.string ⟨#[]⟩,.string ⟨#[]⟩] (l.length - (kp p l j).length)++rest):=by
 have hz:(jK #[.string ⟨#[]⟩,.string ⟨#[]⟩] (l.length - (kp p l j).length)).length=((l.drop (kp p l j).length).flatMap cA).length:=by
  rw [dG (f:=cA) (k:=2) (fun _=>rfl),jT (k:=2) rfl,dF]
 have hk:((kp p l j).flatMap cA).length=(kp p l j).length * 2:=dG (f:=cA) (fun _=>rfl) _;unfold ar;rw [gP,bU,<- hk,oM _ _ _ _ hz]
theorem aAc(l:List AT)(p:AT->Bool)(f:FuncId)(caps:List D)(m cap:Nat)(rest:List D)(σ:List (List D))(hl:l.length<=9223372036854775807)(hσ:σ[m]?=some (l.flatMap cA++rest))(hcp:∀d∈caps,d.plain=true)(hcs:caps.map D.strip=caps)(hp:∀x τ,Ct prog f (cW x::caps) τ (fun r τ'=>r= .bool (p x)/\τ'=τ)):Ct prog 273 [.slo m 0 l.length cap,.clo (.func f) [] caps] σ (fun r σ'=>r= .int (vY p l)/\σ'=σ):=by
 refine zf func273 ?_;refine zr ⟨[],[],[],[7,14],[]⟩ fun _ _ Z=>?_;simp(disch:=omega)[hσ,hcs];apply Z;apply aF;refine zr ⟨[],[],[],[7,14],[]⟩ fun _ _ Z=>?_;simp(disch:=omega)[hσ,hcs];and_intros<;>(try omega);apply Z;apply aR;refine zk [0,1,4,7,8] ?_;refine aY (fun(k:Nat)=> [(8,.d (.v (.int .i64 (k:Int))))]) [4,5,8,9,10,11,12,13,14,15,16,17,18] (fun(k:Nat)=>k<=l.length/\∀x∈l.take k,p x=false) (fun(k:Nat)=>l.length - k) (0) (by simp <;> rfl) ?_ ?_ ?_
 .simp
 .simp
 rintro k ⟨hk,hh⟩;simp only [aQ,aP];refine zr ⟨[],[],[],[7,14],[]⟩ fun _ _ Z=>?_;simp(disch:=omega)[hσ,hcs];apply Z;apply aF;refine zI ?_ ?_<;>intro c1<;>try simp at c1
 .apply jY;refine zr ⟨[],[],[],[7,14],[]⟩ fun _ _ Z=>?_;simp(disch:=omega)[hσ,hcs];apply Z;refine zr ⟨[],[],[],[7,14],[]⟩ fun _ _ Z=>?_;refine zs 5 fun _ Y=>?_;simp(disch:=omega)[hσ,hcs];and_intros<;>(try omega);apply Y;refine aE fun _ Y=>?_;simp(disch:=omega)[hσ,hcs];refine⟨hcp,?_⟩;refine cH (hp l[k] _) ?_;apply Y;simp only [dL];apply Z;refine zI ?_ ?_<;>intro c2<;>try simp at c2
  .refine zk [0,1,5,7,8] ?_;refine zr ⟨[],[],[],[7,14],[]⟩ fun _ _ Z=>?_;simp(disch:=omega)[hσ,hcs];apply Z;apply aC;simp [aI];exact(Hx c1 hh c2).symm
  apply nI;refine zk [0,1,7,8] ?_;refine zt ⟨[],[],[],[7,14],[]⟩ fun _ _ Z=>?_;simp(disch:=omega)[hσ,hcs];and_intros<;>(try omega);apply Z;refine zq (k+1) ?_ ?_ ?_
  .exact⟨by omega,uR (by omega) hh c2⟩
  .try dsimp only
   omega
  simp(disch:=omega)[hσ,hcs]
 apply zE;refine zr ⟨[],[],[],[7,14],[]⟩ fun _ _ Z=>?_;simp(disch:=omega)[hσ,hcs];apply Z;apply aC;simp [aI];rw [bX (by omega)] at hh;exact(xV hh).symm
@[simp] abbrev q26_2:Cfg:=⟨[4,13],[],[],[18,24,33,38,41],[]⟩
theorem Tx(l:List AT)(p:AT->Bool)(f:FuncId)(caps:List D)(σ:List (List D))(hl:l.length<=1000000)(hcp:∀d∈caps,d.plain=true)(hcs:caps.map D.strip=caps)(hp:∀x τ,Ct prog f (cW x::caps) τ (fun r τ'=>r= .bool (p x)/\τ'=τ)):Ct prog 269 [.xs 2 (l.map cW),.clo (.func f) [] caps] σ (fun r σ'=>r= .xs 2 ((l.filter fun x=> !p x).map cW)/\σ'=σ++ [[]]):=by
 refine zf func269 ?_;refine sB 0 2 rfl (by decide) fun cap rest hcap hcm hrest hk0 hes=>?_;simp only [bS] at hcap hrest |-;rw [Zm];refine zr q26_2 fun _ _ Z=>?_;simp(disch:=first|omega|assumption)[hcs,lC];apply Z;refine zr q26_2 fun _ _ Z=>?_;refine zs 2 fun _ Y=>?_;simp(disch:=first|omega|assumption)[hcs,lC];apply Y;refine aE fun _ Y=>?_;simp(disch:=first|omega|assumption)[hcs,lC];refine cH (aAc l p f caps σ.length cap rest _ (by omega) (by simp) hcp hcs hp) ?_;apply Y;simp(disch:=first|omega|assumption)[hcs,lC];apply Z;apply aF;refine zr q26_2 fun _ _ Z=>?_;simp(disch:=first|omega|assumption)[hcs,lC];apply Z;refine zI ?_ ?_<;>intro c1<;>try simp at c1
 .refine zr q26_2 fun _ _ Z=>?_;simp(disch:=first|omega|assumption)[hcs,lC];apply Z;refine fF 4 2 σ.length l.length cap (l.map cW) (l.flatMap cA++rest) (by simp <;> rfl) (by simp) (by omega) (by simp [hrest,jT (z:=#[.string ⟨#[]⟩,.string ⟨#[]⟩]) (k:=2) rfl];omega) (by simp) (aQ3 _) (by rw [Zm];exact cZ _ _) ?_;simp only [sI];apply aC;simp [aI];rcases zW p l with ⟨_,h⟩ | ⟨k,h,_⟩
  .rw [h]
  omega
 obtain⟨k0,e0,e1,e2,e3⟩:=Kq c1;rw [e0];apply zA;apply aF;refine zr q26_2 fun _ _ Z=>?_;simp(disch:=first|omega|assumption)[hcs,lC];and_intros<;>try first|omega|exact rfl
 apply Z;apply aR;refine zk [0,1,4,5,6] ?_;refine kE (fun(j:Nat)=> [(5,.d (.v (.int .i64 ((kp p l j).length:Int)))),(6,.d (.v (.int .i64 (j:Int))))]) (fun(j:Nat)=> []) (fun(j:Nat)=> [(σ.length,(ar p l j).flatMap cA++rest)]) [5,6,7,16,17,18,19,20,21,22,23,24,25,26,27,28,29,30,31,32,33,34,35] (fun(j:Nat)=>j<=l.length) (fun(j:Nat)=>l.length - j) (k0+1) (by simp <;> rfl) ?_ (by simp) (by simp [e1]) ?_ ?_
 .simp [e1,e2]
 .omega
 rintro j hj;simp only [aQ,aP,lJ,jS,gE,fV];have hkl:=Tc p l j hj;have hal:=Ro p l j;apply aF;refine zr q26_2 fun _ _ Z=>?_;simp(disch:=first|omega|assumption)[hcs,lC];and_intros<;>try first|omega|exact rfl
 apply Z;refine zI ?_ ?_<;>intro c2<;>try simp at c2
 .apply jY;refine zr q26_2 fun _ _ Z=>?_;simp(disch:=first|omega|assumption)[hcs,lC];and_intros<;>try first|omega|exact rfl
  apply Z;refine zk [0,1,4,5,6,7] ?_;refine zr q26_2 fun _ _ Z=>?_;refine zs 2 fun _ Y=>?_;simp(disch:=first|omega|assumption)[hcs,lC];apply Y;refine aE fun _ Y=>?_;simp(disch:=first|omega|assumption)[hcs,lC];simp only [aH0 p l j (by omega)];refine⟨hcp,?_⟩;refine cH (hp l[j] _) ?_;apply Y;simp(disch:=first|omega|assumption)[hcs,lC];apply Z;refine zI ?_ ?_<;>intro c3<;>try simp at c3
  .refine zr q26_2 fun _ _ Z=>?_;simp(disch:=first|omega|assumption)[hcs,lC];and_intros<;>try first|omega|exact rfl
   apply Z;refine zk [0,1,4,5,6] ?_;refine zt q26_2 fun _ _ Z=>?_;simp(disch:=first|omega|assumption)[hcs,lC];and_intros<;>try first|omega|exact rfl
   apply Z;apply zB;refine zt q26_2 fun _ _ Z=>?_;simp(disch:=first|omega|assumption)[hcs,lC];and_intros<;>try first|omega|exact rfl
   apply Z;refine fC (j+1) ?_ ?_ (dU rfl ?_ (by simp) (by first | (simp [<- (Gz p l j (by omega) c3).1];done) | (simp [(Gz p l j (by omega) c3).1];done)))
   .omega
   .try dsimp only
    omega
   simp(disch:=first|omega|assumption)[hcs,lC,(Gz p l j (by omega) c3).2]
  apply nI;refine zt q26_2 fun _ _ Z=>?_;simp(disch:=first|omega|assumption)[hcs,lC];and_intros<;>try first|omega|exact rfl
  apply Z;refine fC (j+1) ?_ ?_ (dU rfl ?_ (by simp) (by simp [(Au p l j (by omega) c3).1]))
  .omega
  .try dsimp only
   omega
  simp(disch:=first|omega|assumption)[hcs,lC,(Au p l j (by omega) c3).2]
 apply zE;refine zr q26_2 fun _ _ Z=>?_;simp(disch:=first|omega|assumption)[hcs,lC];and_intros<;>try first|omega|exact rfl
 apply Z;refine zk [0,4,5] ?_;refine zr q26_2 fun _ _ Z=>?_;simp(disch:=first|omega|assumption)[hcs,lC];and_intros<;>try first|omega|exact rfl
 apply Z;refine fF 4 2 σ.length (kp p l j).length cap ((kp p l j).map cW) ((kp p l j).flatMap cA++(jK #[.string ⟨#[]⟩,.string ⟨#[]⟩] (l.length - (kp p l j).length)++rest)) (by simp <;> rfl) (by simp) (by omega) (by simp [hrest,jT (z:=#[.string ⟨#[]⟩,.string ⟨#[]⟩]) (k:=2) rfl];omega) (by simp) (aQ3 _) (by rw [Zm];exact cZ _ _) ?_;simp only [sI];apply aC;simp [aI];unfold kp;rw [bX (by omega)]
theorem Yh(l:List AT)(p:AT->Bool)(f:FuncId)(caps:List D)(σ:List (List D))(hl:l.length<=1000000)(hcp:∀d∈caps,d.plain=true)(hcs:caps.map D.strip=caps)(hp:∀x τ,Ct prog f (cW x::caps) τ (fun r τ'=>r= .bool (p x)/\τ'=τ)):
  Ct prog 269 [.xs 2 (l.map cW),.clo (.func f) [] caps] σ (fun r σ'=>r= .xs 2 ((l.filter fun x=> !p x).map cW)/\σ'=σ):=
 (Tx l p f caps σ hl hcp hcs hp).trim fun r σ' ⟨hr,hs⟩=>⟨σ, [[]],hs,rfl,by rw [hr];exact aTz _ _,fun n cs h=> .inl h,hr,rfl⟩
theorem aF7(l:List AT)(σ:List (List D))(hl:l.length<=1000000):Ct prog 154 [.sl false (l.map cW)] σ (fun r σ'=>r= .sl true (l.map cW)/\σ'=σ):=by
 refine zf func154 ?_;refine zr ⟨[2],[],[],[],[]⟩ fun _ _ Z=>?_;simp;apply Z;apply aF;refine zr ⟨[2],[],[],[],[]⟩ fun _ _ Z=>?_;refine zs 1 fun _ Y=>?_;simp;apply Y;refine aE fun _ Y=>?_;simp;refine⟨Y _ ?_,fun e1=>Y _ ?_⟩
 .simp only [dL];apply Z;refine aX (t:=false) (by simp) (fun h=>by cases h) (fun _=>?_);apply zA;refine zr ⟨[2],[],[],[],[]⟩ fun _ _ Z=>?_;simp;and_intros<;>(try omega);apply Z;apply aC;simp [aI]
 simp only [dL];apply Z;refine aX (t:=true) (by simp) (fun _=>?_) (fun h=>by cases h);refine zr ⟨[2],[],[],[],[]⟩ fun _ _ Z=>?_;simp;apply Z;apply aC;simp [aI,e1]
attribute [simp] cP
theorem Xy(l:List PI):(l.map cQ).flatMap D.cells=l.flatMap cP:=cU (fun _=>rfl) l
theorem aRc(l:List PI):∀d∈l.map cQ,d.ncells=2/\d.arr=true:=by
 intro d hd;obtain⟨a,_,rfl⟩:=aU.1 hd;exact⟨rfl,rfl⟩
@[simp high] theorem aYf(l:List PI):(l.flatMap cP).length=l.length * 2:=dG (f:=cP) (fun _=>rfl) l
@[simp high] theorem aY9(l:List PI)(rest:List D)(i:Nat)(h:i<l.length):zK true 2 ((l.flatMap cP++rest).drop (i * 2))=some (.agg (cP l[i])):=aBb (f:=cP) (fun _=>rfl) l rest i h
@[simp high] theorem aZg(l:List PI)(rest:List D)(i:Nat)(x:PI)(h:i<l.length):dT (l.flatMap cP++rest) (i * 2) [D.str x.name,D.int x.value]=(l.set i x).flatMap cP++rest:=Hd (f:=cP) (fun _=>rfl) l rest i x h
theorem kX(p:PI->Bool)(l:List PI)(j:Nat)(rest:List D):dT ((ar p l j).flatMap cP++rest) ((kp p l j).length * 2) (jK #[.string ⟨#[]⟩,.int .i64 0] (l.length - (kp p l j).length))=(kp p l j).flatMap cP++(jK #[.string ⟨#[]⟩,.int .i64 0] (l.length - (kp p l j).length)++rest):=by
 have hz:(jK #[.string ⟨#[]⟩,.int .i64 0] (l.length - (kp p l j).length)).length=((l.drop (kp p l j).length).flatMap cP).length:=by
  rw [dG (f:=cP) (k:=2) (fun _=>rfl),jT (k:=2) rfl,dF]
 have hk:((kp p l j).flatMap cP).length=(kp p l j).length * 2:=dG (f:=cP) (fun _=>rfl) _;unfold ar;rw [gP,bU,<- hk,oM _ _ _ _ hz]
theorem Ys(l:List PI)(p:PI->Bool)(f:FuncId)(caps:List D)(m cap:Nat)(rest:List D)(σ:List (List D))(hl:l.length<=9223372036854775807)(hσ:σ[m]?=some (l.flatMap cP++rest))(hcp:∀d∈caps,d.plain=true)(hcs:caps.map D.strip=caps)(hp:∀x τ,Ct prog f (cQ x::caps) τ (fun r τ'=>r= .bool (p x)/\τ'=τ)):Ct prog 274 [.slo m 0 l.length cap,.clo (.func f) [] caps] σ (fun r σ'=>r= .int (vY p l)/\σ'=σ):=by
 refine zf func274 ?_;refine zr ⟨[],[],[],[7,14],[]⟩ fun _ _ Z=>?_;simp(disch:=omega)[hσ,hcs];apply Z;apply aF;refine zr ⟨[],[],[],[7,14],[]⟩ fun _ _ Z=>?_;simp(disch:=omega)[hσ,hcs];and_intros<;>(try omega);apply Z;apply aR;refine zk [0,1,4,7,8] ?_;refine aY (fun(k:Nat)=> [(8,.d (.v (.int .i64 (k:Int))))]) [4,5,8,9,10,11,12,13,14,15,16,17,18] (fun(k:Nat)=>k<=l.length/\∀x∈l.take k,p x=false) (fun(k:Nat)=>l.length - k) (0) (by simp <;> rfl) ?_ ?_ ?_
 .simp
 .simp
 rintro k ⟨hk,hh⟩;simp only [aQ,aP];refine zr ⟨[],[],[],[7,14],[]⟩ fun _ _ Z=>?_;simp(disch:=omega)[hσ,hcs];apply Z;apply aF;refine zI ?_ ?_<;>intro c1<;>try simp at c1
 .apply jY;refine zr ⟨[],[],[],[7,14],[]⟩ fun _ _ Z=>?_;simp(disch:=omega)[hσ,hcs];apply Z;refine zr ⟨[],[],[],[7,14],[]⟩ fun _ _ Z=>?_;refine zs 5 fun _ Y=>?_;simp(disch:=omega)[hσ,hcs];and_intros<;>(try omega);apply Y;refine aE fun _ Y=>?_;simp(disch:=omega)[hσ,hcs];refine⟨hcp,?_⟩;refine cH (hp l[k] _) ?_;apply Y;simp only [dL];apply Z;refine zI ?_ ?_<;>intro c2<;>try simp at c2
  .refine zk [0,1,5,7,8] ?_;refine zr ⟨[],[],[],[7,14],[]⟩ fun _ _ Z=>?_;simp(disch:=omega)[hσ,hcs];apply Z;apply aC;simp [aI];exact(Hx c1 hh c2).symm
  apply nI;refine zk [0,1,7,8] ?_;refine zt ⟨[],[],[],[7,14],[]⟩ fun _ _ Z=>?_;simp(disch:=omega)[hσ,hcs];and_intros<;>(try omega);apply Z;refine zq (k+1) ?_ ?_ ?_
  .exact⟨by omega,uR (by omega) hh c2⟩
  .try dsimp only
   omega
  simp(disch:=omega)[hσ,hcs]
 apply zE;refine zr ⟨[],[],[],[7,14],[]⟩ fun _ _ Z=>?_;simp(disch:=omega)[hσ,hcs];apply Z;apply aC;simp [aI];rw [bX (by omega)] at hh;exact(xV hh).symm
theorem Ub(l:List PI)(p:PI->Bool)(f:FuncId)(caps:List D)(σ:List (List D))(hl:l.length<=1000000)(hcp:∀d∈caps,d.plain=true)(hcs:caps.map D.strip=caps)(hp:∀x τ,Ct prog f (cQ x::caps) τ (fun r τ'=>r= .bool (p x)/\τ'=τ)):Ct prog 270 [.xs 2 (l.map cQ),.clo (.func f) [] caps] σ (fun r σ'=>r= .xs 2 ((l.filter fun x=> !p x).map cQ)/\σ'=σ++ [[]]):=by
 refine zf func270 ?_;refine sB 0 2 rfl (by decide) fun cap rest hcap hcm hrest hk0 hes=>?_;simp only [bS] at hcap hrest |-;rw [Xy];refine zr q26_2 fun _ _ Z=>?_;simp(disch:=first|omega|assumption)[hcs,kX];apply Z;refine zr q26_2 fun _ _ Z=>?_;refine zs 2 fun _ Y=>?_;simp(disch:=first|omega|assumption)[hcs,kX];apply Y;refine aE fun _ Y=>?_;simp(disch:=first|omega|assumption)[hcs,kX];refine cH (Ys l p f caps σ.length cap rest _ (by omega) (by simp) hcp hcs hp) ?_;apply Y;simp(disch:=first|omega|assumption)[hcs,kX];apply Z;apply aF;refine zr q26_2 fun _ _ Z=>?_;simp(disch:=first|omega|assumption)[hcs,kX];apply Z;refine zI ?_ ?_<;>intro c1<;>try simp at c1
 .refine zr q26_2 fun _ _ Z=>?_;simp(disch:=first|omega|assumption)[hcs,kX];apply Z;refine fF 4 2 σ.length l.length cap (l.map cQ) (l.flatMap cP++rest) (by simp <;> rfl) (by simp) (by omega) (by simp [hrest,jT (z:=#[.string ⟨#[]⟩,.int .i64 0]) (k:=2) rfl];omega) (by simp) (aRc _) (by rw [Xy];exact cZ _ _) ?_;simp only [sI];apply aC;simp [aI];rcases zW p l with ⟨_,h⟩ | ⟨k,h,_⟩
  .rw [h]
  omega
 obtain⟨k0,e0,e1,e2,e3⟩:=Kq c1;rw [e0];apply zA;apply aF;refine zr q26_2 fun _ _ Z=>?_;simp(disch:=first|omega|assumption)[hcs,kX];and_intros<;>try first|omega|exact rfl
 apply Z;apply aR;refine zk [0,1,4,5,6] ?_;refine kE (fun(j:Nat)=> [(5,.d (.v (.int .i64 ((kp p l j).length:Int)))),(6,.d (.v (.int .i64 (j:Int))))]) (fun(j:Nat)=> []) (fun(j:Nat)=> [(σ.length,(ar p l j).flatMap cP++rest)]) [5,6,7,16,17,18,19,20,21,22,23,24,25,26,27,28,29,30,31,32,33,34,35] (fun(j:Nat)=>j<=l.length) (fun(j:Nat)=>l.length - j) (k0+1) (by simp <;> rfl) ?_ (by simp) (by simp [e1]) ?_ ?_
 .simp [e1,e2]
 .omega
 rintro j hj;simp only [aQ,aP,lJ,jS,gE,fV];have hkl:=Tc p l j hj;have hal:=Ro p l j;apply aF;refine zr q26_2 fun _ _ Z=>?_;simp(disch:=first|omega|assumption)[hcs,kX];and_intros<;>try first|omega|exact rfl
 apply Z;refine zI ?_ ?_<;>intro c2<;>try simp at c2
 .apply jY;refine zr q26_2 fun _ _ Z=>?_;simp(disch:=first|omega|assumption)[hcs,kX];and_intros<;>try first|omega|exact rfl
  apply Z;refine zk [0,1,4,5,6,7] ?_;refine zr q26_2 fun _ _ Z=>?_;refine zs 2 fun _ Y=>?_;simp(disch:=first|omega|assumption)[hcs,kX];apply Y;refine aE fun _ Y=>?_;simp(disch:=first|omega|assumption)[hcs,kX];simp only [aH0 p l j (by omega)];refine⟨hcp,?_⟩;refine cH (hp l[j] _) ?_;apply Y;simp(disch:=first|omega|assumption)[hcs,kX];apply Z;refine zI ?_ ?_<;>intro c3<;>try simp at c3
  .refine zr q26_2 fun _ _ Z=>?_;simp(disch:=first|omega|assumption)[hcs,kX];and_intros<;>try first|omega|exact rfl
   apply Z;refine zk [0,1,4,5,6] ?_;refine zt q26_2 fun _ _ Z=>?_;simp(disch:=first|omega|assumption)[hcs,kX];and_intros<;>try first|omega|exact rfl
   apply Z;apply zB;refine zt q26_2 fun _ _ Z=>?_;simp(disch:=first|omega|assumption)[hcs,kX];and_intros<;>try first|omega|exact rfl
   apply Z;refine fC (j+1) ?_ ?_ (dU rfl ?_ (by simp) (by first | (simp [<- (Gz p l j (by omega) c3).1];done) | (simp [(Gz p l j (by omega) c3).1];done)))
   .omega
   .try dsimp only
    omega
   simp(disch:=first|omega|assumption)[hcs,kX,(Gz p l j (by omega) c3).2]
  apply nI;refine zt q26_2 fun _ _ Z=>?_;simp(disch:=first|omega|assumption)[hcs,kX];and_intros<;>try first|omega|exact rfl
  apply Z;refine fC (j+1) ?_ ?_ (dU rfl ?_ (by simp) (by simp [(Au p l j (by omega) c3).1]))
  .omega
  .try dsimp only
   omega
  simp(disch:=first|omega|assumption)[hcs,kX,(Au p l j (by omega) c3).2]
 apply zE;refine zr q26_2 fun _ _ Z=>?_;simp(disch:=first|omega|assumption)[hcs,kX];and_intros<;>try first|omega|exact rfl
 apply Z;refine zk [0,4,5] ?_;refine zr q26_2 fun _ _ Z=>?_;simp(disch:=first|omega|assumption)[hcs,kX];and_intros<;>try first|omega|exact rfl
 apply Z;refine fF 4 2 σ.length (kp p l j).length cap ((kp p l j).map cQ) ((kp p l j).flatMap cP++(jK #[.string ⟨#[]⟩,.int .i64 0] (l.length - (kp p l j).length)++rest)) (by simp <;> rfl) (by simp) (by omega) (by simp [hrest,jT (z:=#[.string ⟨#[]⟩,.int .i64 0]) (k:=2) rfl];omega) (by simp) (aRc _) (by rw [Xy];exact cZ _ _) ?_;simp only [sI];apply aC;simp [aI];unfold kp;rw [bX (by omega)]
theorem aAk(l:List PI)(p:PI->Bool)(f:FuncId)(caps:List D)(σ:List (List D))(hl:l.length<=1000000)(hcp:∀d∈caps,d.plain=true)(hcs:caps.map D.strip=caps)(hp:∀x τ,Ct prog f (cQ x::caps) τ (fun r τ'=>r= .bool (p x)/\τ'=τ)):
  Ct prog 270 [.xs 2 (l.map cQ),.clo (.func f) [] caps] σ (fun r σ'=>r= .xs 2 ((l.filter fun x=> !p x).map cQ)/\σ'=σ):=
 (Ub l p f caps σ hl hcp hcs hp).trim fun r σ' ⟨hr,hs⟩=>⟨σ, [[]],hs,rfl,by rw [hr];exact aTf _ _,fun n cs h=> .inl h,hr,rfl⟩
theorem aE6(l:List PI)(σ:List (List D))(hl:l.length<=1000000):Ct prog 155 [.sl false (l.map cQ)] σ (fun r σ'=>r= .sl true (l.map cQ)/\σ'=σ):=by
 refine zf func155 ?_;refine zr ⟨[2],[],[],[],[]⟩ fun _ _ Z=>?_;simp;apply Z;apply aF;refine zr ⟨[2],[],[],[],[]⟩ fun _ _ Z=>?_;refine zs 1 fun _ Y=>?_;simp;apply Y;refine aE fun _ Y=>?_;simp;refine⟨Y _ ?_,fun e1=>Y _ ?_⟩
 .simp only [dL];apply Z;refine aX (t:=false) (by simp) (fun h=>by cases h) (fun _=>?_);apply zA;refine zr ⟨[2],[],[],[],[]⟩ fun _ _ Z=>?_;simp;and_intros<;>(try omega);apply Z;apply aC;simp [aI]
 simp only [dL];apply Z;refine aX (t:=true) (by simp) (fun _=>?_) (fun h=>by cases h);refine zr ⟨[2],[],[],[],[]⟩ fun _ _ Z=>?_;simp;apply Z;apply aC;simp [aI,e1]
theorem Yn(N cap:Nat)(l:List Int)(rest:List D)(σ:List (List D))(hl:l.length<=1000000)(hN:σ[N]?=some (l.map D.int++rest)):Ct prog 153 [.slo N 0 l.length cap] σ (fun r σ'=>vS 1 (l.map D.int) r/\σ'=σ):=by
 refine zf func153 ?_;refine zr ⟨[2,7],[],[],[],[7]⟩ fun _ _ Z=>?_;simp[hN];apply Z;apply aF;refine zr ⟨[2,7],[],[],[],[7]⟩ fun _ _ Z=>?_;refine zs 1 fun _ Y=>?_;simp[hN];apply Y;refine aE fun _ Y=>?_;simp[hN];refine⟨Y _ ?_,fun e1=>Y _ ?_⟩
 .simp only [dL];apply Z;refine aX (t:=false) (by simp) (fun h=>by cases h) (fun _=>?_);apply zA;refine zr ⟨[2,7],[],[],[],[7]⟩ fun _ _ Z=>?_;refine zs 3 fun _ Y=>?_;simp[hN];refine⟨l.map D.int,⟨⟨by simp,by rw [tV (f:=D.int) (fun _=>rfl)];exact cZ _ _⟩,mH (d:=D.int) (fun _=>⟨rfl,rfl⟩) _,by first | rfl | trivial⟩,⟨by simp;omega,by simp;omega⟩,?_⟩;and_intros<;>(try omega);apply Y;simp[hN];apply Z;apply aC;simp [aI,vS]
 simp only [dL];apply Z;refine aX (t:=true) (by simp) (fun _=>?_) (fun h=>by cases h);refine zr ⟨[2,7],[],[],[],[7]⟩ fun _ _ Z=>?_;simp[hN];apply Z;apply aC;simp [aI,vS,e1]
theorem aFx(N cap:Nat)(l:List Int)(rest:List D)(σ:List (List D))(hl:l.length<=1000000)(hN:σ[N]?=some (l.map D.int++rest)):Ct prog 153 [.slo N 0 l.length cap] σ (fun r σ'=>r= .sl false (l.map D.int)/\σ'=σ):=((Yn N cap l rest σ hl hN).toX fun _ _ h=>h).freeze fun _ _ h=>h
def aDj(c:Int)(l:List Int):Int:=vY (fun x=>decide (x=c)) l
end Go.Proofs.YtbgfljpnhhdkoaaGreat
