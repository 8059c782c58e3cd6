import Derived.Test.YtbgfljpnhhdkoaaGreatWkAr2
set_option linter.all false
set_option maxRecDepth 20000
set_option maxHeartbeats 8000000
open Go.Proofs.Tryz
namespace Go.Proofs.YtbgfljpnhhdkoaaGreat
open Go Go.Vm
structure AT where
 name:ByteArray
 value:ByteArray
 deriving DecidableEq
@[simp] abbrev cZ(s:AT):D:= .agg [.v (.string s.name),.v (.string s.value)]
structure PI where
 name:ByteArray
 value:Int
 deriving DecidableEq
@[simp] abbrev cL(s:PI):D:= .agg [.v (.string s.name),.v (.int .i64 s.value)]
def cI(n:Int):List D:= [D.int n]
def cA(x:AT):List D:= [D.str x.name,D.str x.value]
def cP(x:PI):List D:= [D.str x.name,D.int x.value]
def fI {α:Type} (l:List α)(i:Nat)(x:α):List α:=l.take i++x::l.drop i
theorem jJ {α:Type} (l:List α)(i:Nat)(x:α)(h:i<=l.length):(fI l i x).length=l.length+1:=by simp [fI];omega
def By(k:Nat):D:=if k=1 then .any else .agg (List.replicate k .any)
theorem Ah {k:Nat} :(By k).cells=List.replicate k .any:=by
 unfold By;split
 .rename_i h;subst h;rfl
 rfl
theorem aOj {k:Nat} :(By k).ncells=k/\(By k).arr=true:=by
 constructor
 .rw [<- eC,Ah,cR]
 unfold D.arr;rw [Ah,gE];intro x hx;rw [pR hx];rfl
section
variable {α:Type} {f:α->List D} {d:α->D} {k:Nat}
theorem Qs(hd:∀a,(d a).cells=f a)(hf:∀a,(f a).length=k)(l:List α)(i r:Nat)(hi:i<l.length)(hr:k<=r):((l.drop i).map d++ [By k]).flatMap D.cells<+:List.drop (i * k) (l.flatMap f++List.replicate r .any):=by
 have e:l.flatMap f=(l.take i).flatMap f++(l.drop i).flatMap f:=by rw [<- gP,fB]
 rw [e,bU,<- oV hf l i hi,xA,gP,cQ hd];refine⟨List.replicate (r - k) .any,?_⟩;simp only [gC,De,gO,Ah,bU,Og];rw [show k+(r - k)=r by omega]
theorem Ku(hd:∀a,(d a).cells=f a)(hf:∀a,(f a).length=k)(l:List α)(i r:Nat)(hi:i<l.length)(hr:k<=r):dU (l.flatMap f++List.replicate r .any) ((i+1) * k) ((((l.drop i).map d++ [By k]).take (l.length - i)).flatMap D.cells)=(l.take (i+1)).flatMap f++((l.drop i).flatMap f++List.replicate (r - k) .any):=by
 have e:l.flatMap f=(l.take (i+1)).flatMap f++(l.drop (i+1)).flatMap f:=by rw [<- gP,fB]
 have e2:((l.drop i).map d++ [By k]).take (l.length - i)=(l.drop i).map d:=by
  rw [Oo (by simp),bV (by simp)]
 have e3:(l.flatMap f++List.replicate r (D.any))=(l.take (i+1)).flatMap f++(((l.drop (i+1)).flatMap f++List.replicate k .any)++List.replicate (r - k) .any):=by
  rw [e,bU,bU,Og,show k+(r - k)=r by omega]
 have e4:((l.take (i+1)).flatMap f).length=(i+1) * k:=by rw [dE hf,bF,jZ (by omega)]
 rw [e2,cQ hd,e3,<- e4];refine nX _ _ _ _ ?_;rw [bA,dE hf,dE hf,cR,dD,dD,<- xQ];congr 1;omega
theorem Je(hf:∀a,(f a).length=k)(l:List α)(i:Nat)(x:α)(R:List D)(hi:i<l.length):dU ((l.take (i+1)).flatMap f++((l.drop i).flatMap f++R)) (i * k) (f x)=(fI l i x).flatMap f++R:=by
 have e:(l.take (i+1)).flatMap f=(l.take i).flatMap f++f l[i]:=by rw [bR l i hi,gP];simp
 rw [e,bU,<- oV hf l i hi,nX _ _ _ _ (by rw [hf,hf])];simp [fI]
theorem Bk(hd:∀a,(d a).cells=f a)(l:List α)(i r:Nat):((l.take i).map d).flatMap D.cells<+:l.flatMap f++List.replicate r .any:=by
 rw [cQ hd];have e:l.flatMap f=(l.take i).flatMap f++(l.drop i).flatMap f:=by rw [<- gP,fB]
 rw [e,bU];exact dL _ _
theorem Dq(hd:∀a,(d a).cells=f a)(l:List α)(i:Nat):((l.take i).map d).flatMap D.cells<+:l.flatMap f:=by
 have:=Bk (f:=f) hd l i 0;simpa using this
theorem lZ(hd:∀a,(d a).ncells=k/\(d a).arr=true)(l:List α):∀y∈l.map d,y.ncells=k/\y.arr=true:=fun y hy=>by
 obtain⟨a,_,rfl⟩:=aW.1 hy;exact hd a
theorem Xn(hd:∀a,(d a).ncells=k/\(d a).arr=true)(l:List α):∀y∈l.map d++ [By k],y.ncells=k/\y.arr=true:=fun y hy=>by
 rcases bN.1 hy with h | h
 .exact lZ hd l y h
 simp at h;subst h;exact aOj
theorem Hw(hd:∀a,(d a).cells=f a)(hf:∀a,(f a).length=k)(l:List α)(i r:Nat)(hi:i<l.length):((l.drop i).map d).flatMap D.cells<+:List.drop (i * k) (l.flatMap f++List.replicate r .any):=by
 have e:l.flatMap f=(l.take i).flatMap f++(l.drop i).flatMap f:=by rw [<- gP,fB]
 rw [e,bU,<- oV hf l i hi,xA,cQ hd];exact dL _ _
theorem Re {Z:D} (hZ:Z.ncells=k):∀n:Nat,((List.replicate n Z).flatMap D.cells).length=n * k
 | 0=>by simp
 | n+1=>by rw [Dw,gC,bA,Re hZ n,eC,hZ,xQ];omega
theorem Kf(hf:∀a,(f a).length=k)(l:List α)(i:Nat)(x:α)(R:List D)(hi:i<l.length)(hR:k<=R.length):dU ((l.take i).flatMap f++R) (i * k) (f x)=(l.take i).flatMap f++(f x++R.drop k):=by
 conv=>lhs;rw [<- fB k R]
 rw [<- oV hf l i hi,nX _ _ _ _ (by rw [hf,bF];omega)]
theorem Jy(hd:∀a,(d a).cells=f a)(hf:∀a,(f a).length=k)(l:List α)(i:Nat)(x:α)(R:List D)(hi:i<l.length)(hR:(l.length - i) * k<=R.length):dU ((l.take i).flatMap f++(f x++R)) ((i+1) * k) (((l.drop i).map d).flatMap D.cells)=(fI l i x).flatMap f++R.drop ((l.length - i) * k):=by
 have e:((l.take i).flatMap f++f x).length=(i+1) * k:=by rw [bA,oV hf l i hi,hf,xQ]
 conv=>lhs;rw [<- fB ((l.length - i) * k) R]
 rw [<- bU,<- e,nX _ _ _ _ (by rw [cQ hd,dE hf,dD,bF];omega),cQ hd];simp [fI]
end
theorem gY:Py prog 241:=by
 obtain⟨ti,zv,h1,h2,_⟩:=iV aWn;exact⟨_,22,4,3,ti,func241,by kernel_rfl,by kernel_rfl,by kernel_rfl,by kernel_rfl,h1,h2⟩
@[simp] abbrev q28_1:Cfg:=⟨[0,6,9,17,23,55,61,83,94],[],[],[12,19,25,34,43,50,53,60,66,73,76,80],[30,40,45,54,67,77,82]⟩
theorem aI3(l:List Int)(x:Int)(i:Nat)(σ:List (List D))(hl:l.length<=1000000)(hi:i<=l.length):Ct prog 205 [.xs 1 (l.map D.int),D.int i,.sl true [D.int x]] σ (fun r σ'=>r= .xs 1 ((fI l i x).map D.int)/\∃J,σ'=σ++J):=by
 refine zf func205 ?_;refine iU 0 1 rfl (by decide) fun cap rest hcap hcm hrest hk0 hes=>?_;subst hrest;simp only [bQ] at hcap |-;rw [cQ (f:=cI) (fun _=>rfl)];refine zr q28_1 fun _ _ Z=>?_;simp(disch:=omega)[gY,-bG,bH,aV,aK,aH];apply Z;refine zr q28_1 fun _ _ Z=>?_;simp(disch:=omega)[gY,-bG,bH,aV,aK,aH];and_intros<;>(try omega);apply Z;refine zr q28_1 fun _ _ Z=>?_;simp(disch:=omega)[gY,-bG,bH,aV,aK,aH];and_intros<;>(try omega);apply Z;apply aE;refine zr q28_1 fun _ _ Z=>?_;simp(disch:=omega)[gY,-bG,bH,aV,aK,aH];apply Z;refine zI ?_ ?_<;>intro c1<;>try simp at c1
 apply zA;refine zr q28_1 fun _ _ Z=>?_;simp(disch:=omega)[gY,-bG,bH,aV,aK,aH];and_intros<;>(try omega);apply Z;apply aE;refine zk [0,1,2,6,7,8] ?_;refine zr q28_1 fun _ _ Z=>?_;simp(disch:=omega)[gY,-bG,bH,aV,aK,aH];apply Z;refine zI ?_ ?_<;>intro c2<;>try simp at c2
 .refine zr q28_1 fun _ _ Z=>?_;refine zs 3 fun _ Y=>?_;simp(disch:=omega)[gY,-bG,bH,aV,aK,aH];refine⟨by first | rfl | exact⟨rfl,rfl⟩ | trivial,_,l.map D.int,⟨rfl,by simp only [bA,dE (f:=cI) (k:=1) (fun _=>rfl),cR];omega,by simp,hes,by rw [cQ (f:=cI) (fun _=>rfl)];exact dL _ _,by simp;omega,by simp;omega⟩,?_⟩;and_intros<;>(try omega);apply Y;simp(disch:=omega)[gY,-bG,bH,aV,aK,aH];apply Z;apply aC;obtain rfl:i=l.length:=by omega
  simp [aG,fI]
 apply zA;apply aE;refine zr q28_1 fun _ _ Z=>?_;simp(disch:=omega)[gY,-bG,bH,aV,aK,aH];and_intros<;>(try omega);apply Z;refine zI ?_ ?_<;>intro c3<;>try simp at c3
 .refine zk [0,1,2,6,7,8] ?_;refine zr q28_1 fun _ _ Z=>?_;refine zs 8 fun _ Y=>?_;simp(disch:=omega)[gY,-bG,bH,aV,aK,aH];and_intros<;>(try omega);apply Y;refine zs 1 fun _ Y=>?_;simp(disch:=omega)[gY,-bG,bH,aV,aK,aH];refine⟨(l.take i).map D.int,⟨⟨by simp;omega,by first | exact Dq (f:=cI) (fun _=>rfl) l i | exact Bk (f:=cI) (fun _=>rfl) l i _⟩,(lZ (d:=D.int) (fun _=>⟨rfl,rfl⟩) _),by omega,by omega,by omega,by omega,by first | rfl | exact⟨rfl,rfl⟩ | trivial⟩,?_⟩;and_intros<;>(try omega);apply Y;simp(disch:=omega)[gY,-bG,bH,aV,aK,aH];apply Z;refine rT 9 1 rfl (by decide) fun cap2 rest2 hcap2 hcm2 hrest2 hk2 hes2=>?_;simp only [bA,bQ,bF,cR,jZ hi] at hcap2 hrest2 |-;rw [gP,show List.flatMap D.cells (List.take i (List.map D.int l))=(l.take i).flatMap cI from by rw [<- uG];exact cQ (f:=cI) (fun _=>rfl) _];simp only [bU];have hR:((List.replicate (l.length+1 - i) (vE 1 #[.int .i64 0])).flatMap D.cells++rest2).length=(cap2 - i) * 1:=by rw [bA,Re (k:=1) rfl,hrest2];omega
  generalize (List.replicate (l.length+1 - i) (vE 1 #[.int .i64 0])).flatMap D.cells++rest2=R at hR |-;refine zk [0,1,2,6,7,8,9] ?_;refine zr q28_1 fun _ _ Z=>?_;simp(disch:=omega)[gY,-bG,bH,aV,aK,aH];have hlt:i<l.length:=by omega
  refine⟨by omega, [D.int x],_,⟨rfl,(fun y hy=>by simp only [fO] at hy;subst hy;exact⟨rfl,rfl⟩),rfl,by simp only [bA,dE (f:=cI) (k:=1) (fun _=>rfl),show ∀a,(cI a).length=1 from fun _=>rfl,cR,bQ,dD,bF,bO,cU] at *;omega⟩,?_⟩;rw [show min [D.int x].length (l.length+1 - i)=1 by first | (simp;done) | (simp;omega),show List.flatMap D.cells (List.take 1 [D.int x])=cI x from rfl];have row:=Kf (f:=cI) (k:=1) (fun _=>rfl) l i x R hlt (by rw [hR];omega);simp only [rQ] at row;rw [row];clear row;have hR3:(R.drop 1).length=(cap2 - i - 1) * 1:=by rw [dD,hR];omega
  generalize R.drop 1=R3 at hR3 |-;and_intros<;>(try omega);apply Z;refine zk [0,1,2,6,7,8,9] ?_;refine zd q28_1 [.op {},.op {},.op {},.op {},.op {},.op {},.op {},.op {},.op {rO:=true,wO:=true}] fun all hall _ Z=>?_;refine nI 8 fun _ Y=>?_;simp(disch:=omega)[gY,-bG,bH,aV,aK,aH];and_intros<;>(try omega);apply Y;simp(disch:=omega)[gY,-bG,bH,aV,aK,aH];refine⟨(l.drop i).map D.int,_,⟨⟨by simp,by have:=Hw (f:=cI) (d:=D.int) (k:=1) (fun _=>rfl) (fun _=>rfl) l i 0 hlt;first | exact this | simpa using this⟩,(lZ (d:=D.int) (fun _=>⟨rfl,rfl⟩) _),rfl,by simp only [bA,dE (f:=cI) (k:=1) (fun _=>rfl),show ∀a,(cI a).length=1 from fun _=>rfl,cR,bQ,dD,bF,bO,cU] at *;omega⟩,?_⟩;rw [show min ((l.drop i).map D.int).length (l.length - i)=l.length - i by simp,bV (show((l.drop i).map D.int).length<=l.length - i by simp)];have row:=Jy (f:=cI) (d:=D.int) (k:=1) (fun _=>rfl) (fun _=>rfl) l i x R3 hlt (by rw [hR3];omega);simp only [rQ] at row;rw [row];clear row;have hR4:(R3.drop ((l.length - i) * 1)).length=(cap2 - i - 1 - (l.length - i)) * 1:=by rw [dD,hR3];omega
  simp only [rQ] at hR4;generalize R3.drop _=R4 at hR4 |-;and_intros<;>(try omega);apply Z;refine zk [0,1,2,6,7,8,9] ?_;refine zr q28_1 fun _ _ Z=>?_;simp(disch:=omega)[gY,-bG,bH,aV,aK,aH];apply Z;refine fL 6 1 (σ.length+1) (l.length+1) cap2 ((fI l i x).map D.int) ((fI l i x).flatMap cI++R4) (by simp <;> rfl) (by simp [bH,aK]) (by omega) (by have:=jJ l i x hi;simp only [bA,dE (f:=cI) (k:=1) (fun _=>rfl),this] at *;omega) (by simp [jJ l i x hi]) (lZ (d:=D.int) (fun _=>⟨rfl,rfl⟩) _) (by rw [cQ (f:=cI) (fun _=>rfl)];exact dL _ _) ?_;apply aC;simp [aG]
 apply zA;refine zk [0,1,2,6,7,8] ?_;refine zr q28_1 fun _ _ Z=>?_;simp(disch:=omega)[gY,-bG,bH,aV,aK,aH];and_intros<;>(try omega);apply Z;apply aE;refine zk [0,1,2,6,7,8] ?_;refine zr q28_1 fun _ _ Z=>?_;simp(disch:=omega)[gY,-bG,bH,aV,aK,aH];and_intros<;>(try omega);apply Z;refine zI ?_ ?_<;>intro c4<;>try simp at c4
 refine zk [0,1,2,6,7,8] ?_;refine zd q28_1 [.op {},.op {},.op {},.op {},.op {},.op {},.op {},.op {},.op {rO:=true,wO:=true}] fun all hall _ Z=>?_;refine nI 8 fun _ Y=>?_;simp(disch:=omega)[gY,-bG,bH,aV,aK,aH];and_intros<;>(try omega);apply Y;simp(disch:=omega)[gY,-bG,bH,aV,aK,aH];have hlt:i<l.length:=by omega
 refine⟨(l.drop i).map D.int++ [By 1],_,⟨⟨by first | (simp;done) | (simp;omega),by have:=Qs (f:=cI) (d:=D.int) (k:=1) (fun _=>rfl) (fun _=>rfl) l i ((cap - l.length) * 1) hlt (show 1<=((cap - l.length) * 1) by omega);first | exact this | simpa using this⟩,Xn (d:=D.int) (fun _=>⟨rfl,rfl⟩) _,rfl,by simp only [bA,dE (f:=cI) (k:=1) (fun _=>rfl),show ∀a,(cI a).length=1 from fun _=>rfl,cR,bQ,dD,bF,bO,cU] at *;omega⟩,?_⟩;rw [show min ((l.drop i).map D.int++ [By 1]).length (l.length - i)=l.length - i by first | (simp;done) | (simp;omega)];have row:=Ku (f:=cI) (d:=D.int) (k:=1) (fun _=>rfl) (fun _=>rfl) l i ((cap - l.length) * 1) hlt (show 1<=((cap - l.length) * 1) by omega);simp only [rQ] at row;rw [row];clear row;have hR:(List.replicate (((cap - l.length) * 1) - 1) D.any).length=((cap - l.length) * 1) - 1:=cR;simp only [rQ] at hR;generalize List.replicate _ D.any=R at hR |-;and_intros<;>(try omega);apply Z;refine zk [0,1,2,6,7,8] ?_;refine zr q28_1 fun _ _ Z=>?_;simp(disch:=omega)[gY,-bG,bH,aV,aK,aH];refine⟨by omega, [D.int x],_,⟨rfl,(fun y hy=>by simp only [fO] at hy;subst hy;exact⟨rfl,rfl⟩),rfl,by simp only [bA,dE (f:=cI) (k:=1) (fun _=>rfl),show ∀a,(cI a).length=1 from fun _=>rfl,cR,bQ,dD,bF,bO,cU] at *;omega⟩,?_⟩;rw [show min [D.int x].length (l.length+1 - i)=1 by first | (simp;done) | (simp;omega),show List.flatMap D.cells (List.take 1 [D.int x])=cI x from rfl];have row:=Je (f:=cI) (k:=1) (fun _=>rfl) l i x R hlt;simp only [rQ] at row;rw [row];clear row;and_intros<;>(try omega);apply Z;refine zr q28_1 fun _ _ Z=>?_;simp(disch:=omega)[gY,-bG,bH,aV,aK,aH];apply Z;refine fL 6 1 σ.length (l.length+1) cap ((fI l i x).map D.int) ((fI l i x).flatMap cI++R) (by simp <;> rfl) (by simp [bH,aK]) (by omega) (by have:=jJ l i x hi;simp only [bA,dE (f:=cI) (k:=1) (fun _=>rfl),this] at *;omega) (by simp [jJ l i x hi]) (lZ (d:=D.int) (fun _=>⟨rfl,rfl⟩) _) (by rw [cQ (f:=cI) (fun _=>rfl)];exact dL _ _) ?_;apply aC;simp [aG]
theorem aWu(N:Nat)(l:List Int):Sc N (.xs 1 (l.map D.int)):=Sc.xs fun e he y hy=>by
 obtain⟨a,_,rfl⟩:=aW.1 he;simp only [D.cells,bM,iD,iK] at hy;subst hy <;> exact Sc.v _
theorem aPy(l:List Int)(x:Int)(i:Nat)(σ:List (List D))(hl:l.length<=1000000)(hi:i<=l.length):Ct prog 205 [.xs 1 (l.map D.int),D.int i,.sl true [D.int x]] σ (fun r σ'=>r= .xs 1 ((fI l i x).map D.int)/\σ'=σ):=
 (aI3 l x i σ hl hi).trim fun r σ' ⟨hr,J,hs⟩=>⟨σ,J,hs,rfl,by rw [hr];exact aWu _ _,fun n cs h=> .inl h,hr,rfl⟩
theorem iA:Py prog 249:=by
 obtain⟨ti,zv,h1,h2,_⟩:=iV aWl;exact⟨_,36,4,191,ti,func249,by kernel_rfl,by kernel_rfl,by kernel_rfl,by kernel_rfl,h1,h2⟩
theorem aMb(l:List AT)(x:AT)(i:Nat)(σ:List (List D))(hl:l.length<=1000000)(hi:i<=l.length):Ct prog 224 [.xs 2 (l.map cZ),D.int i,.sl true [cZ x]] σ (fun r σ'=>r= .xs 2 ((fI l i x).map cZ)/\∃J,σ'=σ++J):=by
 refine zf func224 ?_;refine iU 0 2 rfl (by decide) fun cap rest hcap hcm hrest hk0 hes=>?_;subst hrest;simp only [bQ] at hcap |-;rw [cQ (f:=cA) (fun _=>rfl)];refine zr q28_1 fun _ _ Z=>?_;simp(disch:=omega)[iA,-bG,bH,aV,aK,aH];apply Z;refine zr q28_1 fun _ _ Z=>?_;simp(disch:=omega)[iA,-bG,bH,aV,aK,aH];and_intros<;>(try omega);apply Z;refine zr q28_1 fun _ _ Z=>?_;simp(disch:=omega)[iA,-bG,bH,aV,aK,aH];and_intros<;>(try omega);apply Z;apply aE;refine zr q28_1 fun _ _ Z=>?_;simp(disch:=omega)[iA,-bG,bH,aV,aK,aH];apply Z;refine zI ?_ ?_<;>intro c1<;>try simp at c1
 apply zA;refine zr q28_1 fun _ _ Z=>?_;simp(disch:=omega)[iA,-bG,bH,aV,aK,aH];and_intros<;>(try omega);apply Z;apply aE;refine zk [0,1,2,6,7,8] ?_;refine zr q28_1 fun _ _ Z=>?_;simp(disch:=omega)[iA,-bG,bH,aV,aK,aH];apply Z;refine zI ?_ ?_<;>intro c2<;>try simp at c2
 .refine zr q28_1 fun _ _ Z=>?_;refine zs 3 fun _ Y=>?_;simp(disch:=omega)[iA,-bG,bH,aV,aK,aH];refine⟨by first | rfl | exact⟨rfl,rfl⟩ | trivial,_,l.map cZ,⟨rfl,by simp only [bA,dE (f:=cA) (k:=2) (fun _=>rfl),cR];omega,by simp,hes,by rw [cQ (f:=cA) (fun _=>rfl)];exact dL _ _,by simp;omega,by simp;omega⟩,?_⟩;and_intros<;>(try omega);apply Y;simp(disch:=omega)[iA,-bG,bH,aV,aK,aH];apply Z;apply aC;obtain rfl:i=l.length:=by omega
  simp [aG,fI]
 apply zA;apply aE;refine zr q28_1 fun _ _ Z=>?_;simp(disch:=omega)[iA,-bG,bH,aV,aK,aH];and_intros<;>(try omega);apply Z;refine zI ?_ ?_<;>intro c3<;>try simp at c3
 .refine zk [0,1,2,6,7,8] ?_;refine zr q28_1 fun _ _ Z=>?_;refine zs 8 fun _ Y=>?_;simp(disch:=omega)[iA,-bG,bH,aV,aK,aH];and_intros<;>(try omega);apply Y;refine zs 1 fun _ Y=>?_;simp(disch:=omega)[iA,-bG,bH,aV,aK,aH];refine⟨(l.take i).map cZ,⟨⟨by simp;omega,by first | exact Dq (f:=cA) (fun _=>rfl) l i | exact Bk (f:=cA) (fun _=>rfl) l i _⟩,(lZ (d:=cZ) (fun _=>⟨rfl,rfl⟩) _),by omega,by omega,by omega,by omega,by first | rfl | exact⟨rfl,rfl⟩ | trivial⟩,?_⟩;and_intros<;>(try omega);apply Y;simp(disch:=omega)[iA,-bG,bH,aV,aK,aH];apply Z;refine rT 9 2 rfl (by decide) fun cap2 rest2 hcap2 hcm2 hrest2 hk2 hes2=>?_;simp only [bA,bQ,bF,cR,jZ hi] at hcap2 hrest2 |-;rw [gP,show List.flatMap D.cells (List.take i (List.map cZ l))=(l.take i).flatMap cA from by rw [<- uG];exact cQ (f:=cA) (fun _=>rfl) _];simp only [bU];have hR:((List.replicate (l.length+1 - i) (vE 2 #[.string ⟨#[]⟩,.string ⟨#[]⟩])).flatMap D.cells++rest2).length=(cap2 - i) * 2:=by rw [bA,Re (k:=2) rfl,hrest2];omega
  generalize (List.replicate (l.length+1 - i) (vE 2 #[.string ⟨#[]⟩,.string ⟨#[]⟩])).flatMap D.cells++rest2=R at hR |-;refine zk [0,1,2,6,7,8,9] ?_;refine zr q28_1 fun _ _ Z=>?_;simp(disch:=omega)[iA,-bG,bH,aV,aK,aH];have hlt:i<l.length:=by omega
  refine⟨by omega, [cZ x],_,⟨rfl,(fun y hy=>by simp only [fO] at hy;subst hy;exact⟨rfl,rfl⟩),rfl,by simp only [bA,dE (f:=cA) (k:=2) (fun _=>rfl),show ∀a,(cA a).length=2 from fun _=>rfl,cR,bQ,dD,bF,bO,cU] at *;omega⟩,?_⟩;rw [show min [cZ x].length (l.length+1 - i)=1 by first | (simp;done) | (simp;omega),show List.flatMap D.cells (List.take 1 [cZ x])=cA x from rfl];have row:=Kf (f:=cA) (k:=2) (fun _=>rfl) l i x R hlt (by rw [hR];omega)
  skip
  rw [row];clear row;have hR3:(R.drop 2).length=(cap2 - i - 1) * 2:=by rw [dD,hR];omega
  generalize R.drop 2=R3 at hR3 |-;and_intros<;>(try omega);apply Z;refine zk [0,1,2,6,7,8,9] ?_;refine zd q28_1 [.op {},.op {},.op {},.op {},.op {},.op {},.op {},.op {},.op {rO:=true,wO:=true}] fun all hall _ Z=>?_;refine nI 8 fun _ Y=>?_;simp(disch:=omega)[iA,-bG,bH,aV,aK,aH];and_intros<;>(try omega);apply Y;simp(disch:=omega)[iA,-bG,bH,aV,aK,aH];refine⟨(l.drop i).map cZ,_,⟨⟨by simp,by have:=Hw (f:=cA) (d:=cZ) (k:=2) (fun _=>rfl) (fun _=>rfl) l i 0 hlt;first | exact this | simpa using this⟩,(lZ (d:=cZ) (fun _=>⟨rfl,rfl⟩) _),rfl,by simp only [bA,dE (f:=cA) (k:=2) (fun _=>rfl),show ∀a,(cA a).length=2 from fun _=>rfl,cR,bQ,dD,bF,bO,cU] at *;omega⟩,?_⟩;rw [show min ((l.drop i).map cZ).length (l.length - i)=l.length - i by simp,bV (show((l.drop i).map cZ).length<=l.length - i by simp)];have row:=Jy (f:=cA) (d:=cZ) (k:=2) (fun _=>rfl) (fun _=>rfl) l i x R3 hlt (by rw [hR3];omega)
  skip
  rw [row];clear row;have hR4:(R3.drop ((l.length - i) * 2)).length=(cap2 - i - 1 - (l.length - i)) * 2:=by rw [dD,hR3];omega
  generalize R3.drop _=R4 at hR4 |-;and_intros<;>(try omega);apply Z;refine zk [0,1,2,6,7,8,9] ?_;refine zr q28_1 fun _ _ Z=>?_;simp(disch:=omega)[iA,-bG,bH,aV,aK,aH];apply Z;refine fL 6 2 (σ.length+1) (l.length+1) cap2 ((fI l i x).map cZ) ((fI l i x).flatMap cA++R4) (by simp <;> rfl) (by simp [bH,aK]) (by omega) (by have:=jJ l i x hi;simp only [bA,dE (f:=cA) (k:=2) (fun _=>rfl),this] at *;omega) (by simp [jJ l i x hi]) (lZ (d:=cZ) (fun _=>⟨rfl,rfl⟩) _) (by rw [cQ (f:=cA) (fun _=>rfl)];exact dL _ _) ?_;apply aC;simp [aG]
 apply zA;refine zk [0,1,2,6,7,8] ?_;refine zr q28_1 fun _ _ Z=>?_;simp(disch:=omega)[iA,-bG,bH,aV,aK,aH];and_intros<;>(try omega);apply Z;apply aE;refine zk [0,1,2,6,7,8] ?_;refine zr q28_1 fun _ _ Z=>?_;simp(disch:=omega)[iA,-bG,bH,aV,aK,aH];and_intros<;>(try omega);apply Z;refine zI ?_ ?_<;>intro c4<;>try simp at c4
 refine zk [0,1,2,6,7,8] ?_;refine zd q28_1 [.op {},.op {},.op {},.op {},.op {},.op {},.op {},.op {},.op {rO:=true,wO:=true}] fun all hall _ Z=>?_;refine nI 8 fun _ Y=>?_;simp(disch:=omega)[iA,-bG,bH,aV,aK,aH];and_intros<;>(try omega);apply Y;simp(disch:=omega)[iA,-bG,bH,aV,aK,aH];have hlt:i<l.length:=by omega
 refine⟨(l.drop i).map cZ++ [By 2],_,⟨⟨by first | (simp;done) | (simp;omega),by have:=Qs (f:=cA) (d:=cZ) (k:=2) (fun _=>rfl) (fun _=>rfl) l i ((cap - l.length) * 2) hlt (show 2<=((cap - l.length) * 2) by omega);first | exact this | simpa using this⟩,Xn (d:=cZ) (fun _=>⟨rfl,rfl⟩) _,rfl,by simp only [bA,dE (f:=cA) (k:=2) (fun _=>rfl),show ∀a,(cA a).length=2 from fun _=>rfl,cR,bQ,dD,bF,bO,cU] at *;omega⟩,?_⟩;rw [show min ((l.drop i).map cZ++ [By 2]).length (l.length - i)=l.length - i by first | (simp;done) | (simp;omega)];have row:=Ku (f:=cA) (d:=cZ) (k:=2) (fun _=>rfl) (fun _=>rfl) l i ((cap - l.length) * 2) hlt (show 2<=((cap - l.length) * 2) by omega)
 skip
 rw [row];clear row;have hR:(List.replicate (((cap - l.length) * 2) - 2) D.any).length=((cap - l.length) * 2) - 2:=cR;generalize List.replicate _ D.any=R at hR |-;and_intros<;>(try omega);apply Z;refine zk [0,1,2,6,7,8] ?_;refine zr q28_1 fun _ _ Z=>?_;simp(disch:=omega)[iA,-bG,bH,aV,aK,aH];refine⟨by omega, [cZ x],_,⟨rfl,(fun y hy=>by simp only [fO] at hy;subst hy;exact⟨rfl,rfl⟩),rfl,by simp only [bA,dE (f:=cA) (k:=2) (fun _=>rfl),show ∀a,(cA a).length=2 from fun _=>rfl,cR,bQ,dD,bF,bO,cU] at *;omega⟩,?_⟩;rw [show min [cZ x].length (l.length+1 - i)=1 by first | (simp;done) | (simp;omega),show List.flatMap D.cells (List.take 1 [cZ x])=cA x from rfl];have row:=Je (f:=cA) (k:=2) (fun _=>rfl) l i x R hlt
 skip
 rw [row];clear row;and_intros<;>(try omega);apply Z;refine zr q28_1 fun _ _ Z=>?_;simp(disch:=omega)[iA,-bG,bH,aV,aK,aH];apply Z;refine fL 6 2 σ.length (l.length+1) cap ((fI l i x).map cZ) ((fI l i x).flatMap cA++R) (by simp <;> rfl) (by simp [bH,aK]) (by omega) (by have:=jJ l i x hi;simp only [bA,dE (f:=cA) (k:=2) (fun _=>rfl),this] at *;omega) (by simp [jJ l i x hi]) (lZ (d:=cZ) (fun _=>⟨rfl,rfl⟩) _) (by rw [cQ (f:=cA) (fun _=>rfl)];exact dL _ _) ?_;apply aC;simp [aG]
theorem aRm(N:Nat)(l:List AT):Sc N (.xs 2 (l.map cZ)):=Sc.xs fun e he y hy=>by
 obtain⟨a,_,rfl⟩:=aW.1 he;simp only [D.cells,bM,iD,iK] at hy;rcases hy with rfl | rfl <;> exact Sc.v _
theorem aN3(l:List AT)(x:AT)(i:Nat)(σ:List (List D))(hl:l.length<=1000000)(hi:i<=l.length):Ct prog 224 [.xs 2 (l.map cZ),D.int i,.sl true [cZ x]] σ (fun r σ'=>r= .xs 2 ((fI l i x).map cZ)/\σ'=σ):=
 (aMb l x i σ hl hi).trim fun r σ' ⟨hr,J,hs⟩=>⟨σ,J,hs,rfl,by rw [hr];exact aRm _ _,fun n cs h=> .inl h,hr,rfl⟩
theorem gZ:Py prog 251:=by
 obtain⟨ti,zv,h1,h2,_⟩:=iV aW3;exact⟨_,38,4,137,ti,func251,by kernel_rfl,by kernel_rfl,by kernel_rfl,by kernel_rfl,h1,h2⟩
theorem aLr(l:List PI)(x:PI)(i:Nat)(σ:List (List D))(hl:l.length<=1000000)(hi:i<=l.length):Ct prog 225 [.xs 2 (l.map cL),D.int i,.sl true [cL x]] σ (fun r σ'=>r= .xs 2 ((fI l i x).map cL)/\∃J,σ'=σ++J):=by
 refine zf func225 ?_;refine iU 0 2 rfl (by decide) fun cap rest hcap hcm hrest hk0 hes=>?_;subst hrest;simp only [bQ] at hcap |-;rw [cQ (f:=cP) (fun _=>rfl)];refine zr q28_1 fun _ _ Z=>?_;simp(disch:=omega)[gZ,-bG,bH,aV,aK,aH];apply Z;refine zr q28_1 fun _ _ Z=>?_;simp(disch:=omega)[gZ,-bG,bH,aV,aK,aH];and_intros<;>(try omega);apply Z;refine zr q28_1 fun _ _ Z=>?_;simp(disch:=omega)[gZ,-bG,bH,aV,aK,aH];and_intros<;>(try omega);apply Z;apply aE;refine zr q28_1 fun _ _ Z=>?_;simp(disch:=omega)[gZ,-bG,bH,aV,aK,aH];apply Z;refine zI ?_ ?_<;>intro c1<;>try simp at c1
 apply zA;refine zr q28_1 fun _ _ Z=>?_;simp(disch:=omega)[gZ,-bG,bH,aV,aK,aH];and_intros<;>(try omega);apply Z;apply aE;refine zk [0,1,2,6,7,8] ?_;refine zr q28_1 fun _ _ Z=>?_;simp(disch:=omega)[gZ,-bG,bH,aV,aK,aH];apply Z;refine zI ?_ ?_<;>intro c2<;>try simp at c2
 .refine zr q28_1 fun _ _ Z=>?_;refine zs 3 fun _ Y=>?_;simp(disch:=omega)[gZ,-bG,bH,aV,aK,aH];refine⟨by first | rfl | exact⟨rfl,rfl⟩ | trivial,_,l.map cL,⟨rfl,by simp only [bA,dE (f:=cP) (k:=2) (fun _=>rfl),cR];omega,by simp,hes,by rw [cQ (f:=cP) (fun _=>rfl)];exact dL _ _,by simp;omega,by simp;omega⟩,?_⟩;and_intros<;>(try omega);apply Y;simp(disch:=omega)[gZ,-bG,bH,aV,aK,aH];apply Z;apply aC;obtain rfl:i=l.length:=by omega
  simp [aG,fI]
 apply zA;apply aE;refine zr q28_1 fun _ _ Z=>?_;simp(disch:=omega)[gZ,-bG,bH,aV,aK,aH];and_intros<;>(try omega);apply Z;refine zI ?_ ?_<;>intro c3<;>try simp at c3
 .refine zk [0,1,2,6,7,8] ?_;refine zr q28_1 fun _ _ Z=>?_;refine zs 8 fun _ Y=>?_;simp(disch:=omega)[gZ,-bG,bH,aV,aK,aH];and_intros<;>(try omega);apply Y;refine zs 1 fun _ Y=>?_;simp(disch:=omega)[gZ,-bG,bH,aV,aK,aH];refine⟨(l.take i).map cL,⟨⟨by simp;omega,by first | exact Dq (f:=cP) (fun _=>rfl) l i | exact Bk (f:=cP) (fun _=>rfl) l i _⟩,(lZ (d:=cL) (fun _=>⟨rfl,rfl⟩) _),by omega,by omega,by omega,by omega,by first | rfl | exact⟨rfl,rfl⟩ | trivial⟩,?_⟩;and_intros<;>(try omega);apply Y;simp(disch:=omega)[gZ,-bG,bH,aV,aK,aH];apply Z;refine rT 9 2 rfl (by decide) fun cap2 rest2 hcap2 hcm2 hrest2 hk2 hes2=>?_;simp only [bA,bQ,bF,cR,jZ hi] at hcap2 hrest2 |-;rw [gP,show List.flatMap D.cells (List.take i (List.map cL l))=(l.take i).flatMap cP from by rw [<- uG];exact cQ (f:=cP) (fun _=>rfl) _];simp only [bU];have hR:((List.replicate (l.length+1 - i) (vE 2 #[.string ⟨#[]⟩,.int .i64 0])).flatMap D.cells++rest2).length=(cap2 - i) * 2:=by rw [bA,Re (k:=2) rfl,hrest2];omega
  generalize (List.replicate (l.length+1 - i) (vE 2 #[.string ⟨#[]⟩,.int .i64 0])).flatMap D.cells++rest2=R at hR |-;refine zk [0,1,2,6,7,8,9] ?_;refine zr q28_1 fun _ _ Z=>?_;simp(disch:=omega)[gZ,-bG,bH,aV,aK,aH];have hlt:i<l.length:=by omega
  refine⟨by omega, [cL x],_,⟨rfl,(fun y hy=>by simp only [fO] at hy;subst hy;exact⟨rfl,rfl⟩),rfl,by simp only [bA,dE (f:=cP) (k:=2) (fun _=>rfl),show ∀a,(cP a).length=2 from fun _=>rfl,cR,bQ,dD,bF,bO,cU] at *;omega⟩,?_⟩;rw [show min [cL x].length (l.length+1 - i)=1 by first | (simp;done) | (simp;omega),show List.flatMap D.cells (List.take 1 [cL x])=cP x from rfl];have row:=Kf (f:=cP) (k:=2) (fun _=>rfl) l i x R hlt (by rw [hR];omega)
  skip
  rw [row];clear row;have hR3:(R.drop 2).length=(cap2 - i - 1) * 2:=by rw [dD,hR];omega
  generalize R.drop 2=R3 at hR3 |-;and_intros<;>(try omega);apply Z;refine zk [0,1,2,6,7,8,9] ?_;refine zd q28_1 [.op {},.op {},.op {},.op {},.op {},.op {},.op {},.op {},.op {rO:=true,wO:=true}] fun all hall _ Z=>?_;refine nI 8 fun _ Y=>?_;simp(disch:=omega)[gZ,-bG,bH,aV,aK,aH];and_intros<;>(try omega);apply Y;simp(disch:=omega)[gZ,-bG,bH,aV,aK,aH];refine⟨(l.drop i).map cL,_,⟨⟨by simp,by have:=Hw (f:=cP) (d:=cL) (k:=2) (fun _=>rfl) (fun _=>rfl) l i 0 hlt;first | exact this | simpa using this⟩,(lZ (d:=cL) (fun _=>⟨rfl,rfl⟩) _),rfl,by simp only [bA,dE (f:=cP) (k:=2) (fun _=>rfl),show ∀a,(cP a).length=2 from fun _=>rfl,cR,bQ,dD,bF,bO,cU] at *;omega⟩,?_⟩;rw [show min ((l.drop i).map cL).length (l.length - i)=l.length - i by simp,bV (show((l.drop i).map cL).length<=l.length - i by simp)];have row:=Jy (f:=cP) (d:=cL) (k:=2) (fun _=>rfl) (fun _=>rfl) l i x R3 hlt (by rw [hR3];omega)
  skip
  rw [row];clear row;have hR4:(R3.drop ((l.length - i) * 2)).length=(cap2 - i - 1 - (l.length - i)) * 2:=by rw [dD,hR3];omega
  generalize R3.drop _=R4 at hR4 |-;and_intros<;>(try omega);apply Z;refine zk [0,1,2,6,7,8,9] ?_;refine zr q28_1 fun _ _ Z=>?_;simp(disch:=omega)[gZ,-bG,bH,aV,aK,aH];apply Z;refine fL 6 2 (σ.length+1) (l.length+1) cap2 ((fI l i x).map cL) ((fI l i x).flatMap cP++R4) (by simp <;> rfl) (by simp [bH,aK]) (by omega) (by have:=jJ l i x hi;simp only [bA,dE (f:=cP) (k:=2) (fun _=>rfl),this] at *;omega) (by simp [jJ l i x hi]) (lZ (d:=cL) (fun _=>⟨rfl,rfl⟩) _) (by rw [cQ (f:=cP) (fun _=>rfl)];exact dL _ _) ?_;apply aC;simp [aG]
 apply zA;refine zk [0,1,2,6,7,8] ?_;refine zr q28_1 fun _ _ Z=>?_;simp(disch:=omega)[gZ,-bG,bH,aV,aK,aH];and_intros<;>(try omega);apply Z;apply aE;refine zk [0,1,2,6,7,8] ?_;refine zr q28_1 fun _ _ Z=>?_;simp(disch:=omega)[gZ,-bG,bH,aV,aK,aH];and_intros<;>(try omega);apply Z;refine zI ?_ ?_<;>intro c4<;>try simp at c4
 refine zk [0,1,2,6,7,8] ?_;refine zd q28_1 [.op {},.op {},.op {},.op {},.op {},.op {},.op {},.op {},.op {rO:=true,wO:=true}] fun all hall _ Z=>?_;refine nI 8 fun _ Y=>?_;simp(disch:=omega)[gZ,-bG,bH,aV,aK,aH];and_intros<;>(try omega);apply Y;simp(disch:=omega)[gZ,-bG,bH,aV,aK,aH];have hlt:i<l.length:=by omega
 refine⟨(l.drop i).map cL++ [By 2],_,⟨⟨by first | (simp;done) | (simp;omega),by have:=Qs (f:=cP) (d:=cL) (k:=2) (fun _=>rfl) (fun _=>rfl) l i ((cap - l.length) * 2) hlt (show 2<=((cap - l.length) * 2) by omega);first | exact this | simpa using this⟩,Xn (d:=cL) (fun _=>⟨rfl,rfl⟩) _,rfl,by simp only [bA,dE (f:=cP) (k:=2) (fun _=>rfl),show ∀a,(cP a).length=2 from fun _=>rfl,cR,bQ,dD,bF,bO,cU] at *;omega⟩,?_⟩;rw [show min ((l.drop i).map cL++ [By 2]).length (l.length - i)=l.length - i by first | (simp;done) | (simp;omega)];have row:=Ku (f:=cP) (d:=cL) (k:=2) (fun _=>rfl) (fun _=>rfl) l i ((cap - l.length) * 2) hlt (show 2<=((cap - l.length) * 2) by omega)
 skip
 rw [row];clear row;have hR:(List.replicate (((cap - l.length) * 2) - 2) D.any).length=((cap - l.length) * 2) - 2:=cR;generalize List.replicate _ D.any=R at hR |-;and_intros<;>(try omega);apply Z;refine zk [0,1,2,6,7,8] ?_;refine zr q28_1 fun _ _ Z=>?_;simp(disch:=omega)[gZ,-bG,bH,aV,aK,aH];refine⟨by omega, [cL x],_,⟨rfl,(fun y hy=>by simp only [fO] at hy;subst hy;exact⟨rfl,rfl⟩),rfl,by simp only [bA,dE (f:=cP) (k:=2) (fun _=>rfl),show ∀a,(cP a).length=2 from fun _=>rfl,cR,bQ,dD,bF,bO,cU] at *;omega⟩,?_⟩;rw [show min [cL x].length (l.length+1 - i)=1 by first | (simp;done) | (simp;omega),show List.flatMap D.cells (List.take 1 [cL x])=cP x from rfl];have row:=Je (f:=cP) (k:=2) (fun _=>rfl) l i x R hlt
 skip
 rw [row];clear row;and_intros<;>(try omega);apply Z;refine zr q28_1 fun _ _ Z=>?_;simp(disch:=omega)[gZ,-bG,bH,aV,aK,aH];apply Z;refine fL 6 2 σ.length (l.length+1) cap ((fI l i x).map cL) ((fI l i x).flatMap cP++R) (by simp <;> rfl) (by simp [bH,aK]) (by omega) (by have:=jJ l i x hi;simp only [bA,dE (f:=cP) (k:=2) (fun _=>rfl),this] at *;omega) (by simp [jJ l i x hi]) (lZ (d:=cL) (fun _=>⟨rfl,rfl⟩) _) (by rw [cQ (f:=cP) (fun _=>rfl)];exact dL _ _) ?_;apply aC;simp [aG]
theorem aRj(N:Nat)(l:List PI):Sc N (.xs 2 (l.map cL)):=Sc.xs fun e he y hy=>by
 obtain⟨a,_,rfl⟩:=aW.1 he;simp only [D.cells,bM,iD,iK] at hy;rcases hy with rfl | rfl <;> exact Sc.v _
theorem aMw(l:List PI)(x:PI)(i:Nat)(σ:List (List D))(hl:l.length<=1000000)(hi:i<=l.length):Ct prog 225 [.xs 2 (l.map cL),D.int i,.sl true [cL x]] σ (fun r σ'=>r= .xs 2 ((fI l i x).map cL)/\σ'=σ):=
 (aLr l x i σ hl hi).trim fun r σ' ⟨hr,J,hs⟩=>⟨σ,J,hs,rfl,by rw [hr];exact aRj _ _,fun n cs h=> .inl h,hr,rfl⟩
attribute [simp] cA
theorem Yi(l:List AT):(l.map cZ).flatMap D.cells=l.flatMap cA:=cQ (fun _=>rfl) l
theorem aP9(l:List AT):∀d∈l.map cZ,d.ncells=2/\d.arr=true:=by
 intro d hd;obtain⟨a,_,rfl⟩:=aW.1 hd;exact⟨rfl,rfl⟩
@[simp high] theorem aX1(l:List AT):(l.flatMap cA).length=l.length * 2:=dE (f:=cA) (fun _=>rfl) l
@[simp high] theorem aYx(l:List AT)(rest:List D)(i:Nat)(h:i<l.length):yX true 2 ((l.flatMap cA++rest).drop (i * 2))=some (.agg (cA l[i])):=aAx (f:=cA) (fun _=>rfl) l rest i h
@[simp high] theorem aYy(l:List AT)(rest:List D)(i:Nat)(x:AT)(h:i<l.length):dU (l.flatMap cA++rest) (i * 2) [D.str x.name,D.str x.value]=(l.set i x).flatMap cA++rest:=Gx (f:=cA) (fun _=>rfl) l rest i x h
theorem kU(p:AT->Bool)(l:List AT)(j:Nat)(rest:List D):dU ((ar p l j).flatMap cA++rest) ((kp p l j).length * 2) (iY #[.string ⟨#[]⟩,.string ⟨#[]⟩] (l.length - (kp p l j).length))=(kp p l j).flatMap cA++(iY #[.string ⟨#[]⟩,.string ⟨#[]⟩] (l.length - (kp p l j).length)++rest):=by
 have hz:(iY #[.string ⟨#[]⟩,.string ⟨#[]⟩] (l.length - (kp p l j).length)).length=((l.drop (kp p l j).length).flatMap cA).length:=by
  rw [dE (f:=cA) (k:=2) (fun _=>rfl),jL (k:=2) rfl,dD]
 have hk:((kp p l j).flatMap cA).length=(kp p l j).length * 2:=dE (f:=cA) (fun _=>rfl) _;unfold ar;rw [gP,bU,<- hk,nX _ _ _ _ hz]
theorem Wm(l:List AT)(p:AT->Bool)(f:FuncId)(caps:List D)(m cap:Nat)(rest:List D)(σ:List (List D))(hl:l.length<=9223372036854775807)(hσ:σ[m]?=some (l.flatMap cA++rest))(hcp:∀d∈caps,d.plain=true)(hcs:caps.map D.strip=caps)(hp:∀x τ,Ct prog f (cZ x::caps) τ (fun r τ'=>r= .bool (p x)/\τ'=τ)):Ct prog 273 [.slo m 0 l.length cap,.clo (.func f) [] caps] σ (fun r σ'=>r= .int (vR p l)/\σ'=σ):=by
 refine zf func273 ?_;refine zr ⟨[],[],[],[7,14],[]⟩ fun _ _ Z=>?_;simp(disch:=omega)[hσ,hcs];apply Z;apply aE;refine zr ⟨[],[],[],[7,14],[]⟩ fun _ _ Z=>?_;simp(disch:=omega)[hσ,hcs];and_intros<;>(try omega);apply Z;apply aR;refine zk [0,1,4,7,8] ?_;refine aY (fun(k:Nat)=> [(8,.d (.v (.int .i64 (k:Int))))]) [4,5,8,9,10,11,12,13,14,15,16,17,18] (fun(k:Nat)=>k<=l.length/\∀x∈l.take k,p x=false) (fun(k:Nat)=>l.length - k) (0) (by simp <;> rfl) ?_ ?_ ?_
 .simp
 .simp
 rintro k ⟨hk,hh⟩;simp only [aQ,aP];refine zr ⟨[],[],[],[7,14],[]⟩ fun _ _ Z=>?_;simp(disch:=omega)[hσ,hcs];apply Z;apply aE;refine zI ?_ ?_<;>intro c1<;>try simp at c1
 .apply kO;refine zr ⟨[],[],[],[7,14],[]⟩ fun _ _ Z=>?_;simp(disch:=omega)[hσ,hcs];apply Z;refine zr ⟨[],[],[],[7,14],[]⟩ fun _ _ Z=>?_;refine zs 5 fun _ Y=>?_;simp(disch:=omega)[hσ,hcs];and_intros<;>(try omega);apply Y;refine aF fun _ Y=>?_;simp(disch:=omega)[hσ,hcs];refine⟨hcp,?_⟩;refine cN (hp l[k] _) ?_;apply Y;simp only [dT];apply Z;refine zI ?_ ?_<;>intro c2<;>try simp at c2
  .refine zk [0,1,5,7,8] ?_;refine zr ⟨[],[],[],[7,14],[]⟩ fun _ _ Z=>?_;simp(disch:=omega)[hσ,hcs];apply Z;apply aC;simp [aG];exact(Hj c1 hh c2).symm
  apply nM;refine zk [0,1,7,8] ?_;refine zt ⟨[],[],[],[7,14],[]⟩ fun _ _ Z=>?_;simp(disch:=omega)[hσ,hcs];and_intros<;>(try omega);apply Z;refine zq (k+1) ?_ ?_ ?_
  .exact⟨by omega,tT (by omega) hh c2⟩
  .try dsimp only
   omega
  simp(disch:=omega)[hσ,hcs]
 apply zE;refine zr ⟨[],[],[],[7,14],[]⟩ fun _ _ Z=>?_;simp(disch:=omega)[hσ,hcs];apply Z;apply aC;simp [aG];rw [bV (by omega)] at hh;exact(xV hh).symm
@[simp] abbrev q28_2:Cfg:=⟨[4,13],[],[],[18,24,33,38,41],[]⟩
theorem Sl(l:List AT)(p:AT->Bool)(f:FuncId)(caps:List D)(σ:List (List D))(hl:l.length<=1000000)(hcp:∀d∈caps,d.plain=true)(hcs:caps.map D.strip=caps)(hp:∀x τ,Ct prog f (cZ x::caps) τ (fun r τ'=>r= .bool (p x)/\τ'=τ)):Ct prog 269 [.xs 2 (l.map cZ),.clo (.func f) [] caps] σ (fun r σ'=>r= .xs 2 ((l.filter fun x=> !p x).map cZ)/\σ'=σ++ [[]]):=by
 refine zf func269 ?_;refine rT 0 2 rfl (by decide) fun cap rest hcap hcm hrest hk0 hes=>?_;simp only [bQ] at hcap hrest |-;rw [Yi];refine zr q28_2 fun _ _ Z=>?_;simp(disch:=first|omega|assumption)[hcs,kU];apply Z;refine zr q28_2 fun _ _ Z=>?_;refine zs 2 fun _ Y=>?_;simp(disch:=first|omega|assumption)[hcs,kU];apply Y;refine aF fun _ Y=>?_;simp(disch:=first|omega|assumption)[hcs,kU];refine cN (Wm l p f caps σ.length cap rest _ (by omega) (by simp) hcp hcs hp) ?_;apply Y;simp(disch:=first|omega|assumption)[hcs,kU];apply Z;apply aE;refine zr q28_2 fun _ _ Z=>?_;simp(disch:=first|omega|assumption)[hcs,kU];apply Z;refine zI ?_ ?_<;>intro c1<;>try simp at c1
 .refine zr q28_2 fun _ _ Z=>?_;simp(disch:=first|omega|assumption)[hcs,kU];apply Z;refine fL 4 2 σ.length l.length cap (l.map cZ) (l.flatMap cA++rest) (by simp <;> rfl) (by simp) (by omega) (by simp [hrest,jL (z:=#[.string ⟨#[]⟩,.string ⟨#[]⟩]) (k:=2) rfl];omega) (by simp) (aP9 _) (by rw [Yi];exact dL _ _) ?_;simp only [sF];apply aC;simp [aG];rcases zZ p l with ⟨_,h⟩ | ⟨k,h,_⟩
  .rw [h]
  omega
 obtain⟨k0,e0,e1,e2,e3⟩:=Jf c1;rw [e0];apply zA;apply aE;refine zr q28_2 fun _ _ Z=>?_;simp(disch:=first|omega|assumption)[hcs,kU];and_intros<;>try first|omega|exact rfl
 apply Z;apply aR;refine zk [0,1,4,5,6] ?_;refine oB (fun(j:Nat)=> [(5,.d (.v (.int .i64 ((kp p l j).length:Int)))),(6,.d (.v (.int .i64 (j:Int))))]) (fun(j:Nat)=> []) (fun(j:Nat)=> [(σ.length,(ar p l j).flatMap cA++rest)]) [5,6,7,16,17,18,19,20,21,22,23,24,25,26,27,28,29,30,31,32,33,34,35] (fun(j:Nat)=>j<=l.length) (fun(j:Nat)=>l.length - j) (k0+1) (by simp <;> rfl) ?_ (by simp) (by simp [e1]) ?_ ?_
 .simp [e1,e2]
 .omega
 rintro j hj;simp only [aQ,aP,oU,mT,jE,iR];have hkl:=Uu p l j hj;have hal:=Rj p l j;apply aE;refine zr q28_2 fun _ _ Z=>?_;simp(disch:=first|omega|assumption)[hcs,kU];and_intros<;>try first|omega|exact rfl
 apply Z;refine zI ?_ ?_<;>intro c2<;>try simp at c2
 .apply kO;refine zr q28_2 fun _ _ Z=>?_;simp(disch:=first|omega|assumption)[hcs,kU];and_intros<;>try first|omega|exact rfl
  apply Z;refine zk [0,1,4,5,6,7] ?_;refine zr q28_2 fun _ _ Z=>?_;refine zs 2 fun _ Y=>?_;simp(disch:=first|omega|assumption)[hcs,kU];apply Y;refine aF fun _ Y=>?_;simp(disch:=first|omega|assumption)[hcs,kU];simp only [aHo p l j (by omega)];refine⟨hcp,?_⟩;refine cN (hp l[j] _) ?_;apply Y;simp(disch:=first|omega|assumption)[hcs,kU];apply Z;refine zI ?_ ?_<;>intro c3<;>try simp at c3
  .refine zr q28_2 fun _ _ Z=>?_;simp(disch:=first|omega|assumption)[hcs,kU];and_intros<;>try first|omega|exact rfl
   apply Z;refine zk [0,1,4,5,6] ?_;refine zt q28_2 fun _ _ Z=>?_;simp(disch:=first|omega|assumption)[hcs,kU];and_intros<;>try first|omega|exact rfl
   apply Z;apply zB;refine zt q28_2 fun _ _ Z=>?_;simp(disch:=first|omega|assumption)[hcs,kU];and_intros<;>try first|omega|exact rfl
   apply Z;refine fP (j+1) ?_ ?_ (eG rfl ?_ (by simp) (by first | (simp [<- (Gr p l j (by omega) c3).1];done) | (simp [(Gr p l j (by omega) c3).1];done)))
   .omega
   .try dsimp only
    omega
   simp(disch:=first|omega|assumption)[hcs,kU,(Gr p l j (by omega) c3).2]
  apply nM;refine zt q28_2 fun _ _ Z=>?_;simp(disch:=first|omega|assumption)[hcs,kU];and_intros<;>try first|omega|exact rfl
  apply Z;refine fP (j+1) ?_ ?_ (eG rfl ?_ (by simp) (by simp [(zQ p l j (by omega) c3).1]))
  .omega
  .try dsimp only
   omega
  simp(disch:=first|omega|assumption)[hcs,kU,(zQ p l j (by omega) c3).2]
 apply zE;refine zr q28_2 fun _ _ Z=>?_;simp(disch:=first|omega|assumption)[hcs,kU];and_intros<;>try first|omega|exact rfl
 apply Z;refine zk [0,4,5] ?_;refine zr q28_2 fun _ _ Z=>?_;simp(disch:=first|omega|assumption)[hcs,kU];and_intros<;>try first|omega|exact rfl
 apply Z;refine fL 4 2 σ.length (kp p l j).length cap ((kp p l j).map cZ) ((kp p l j).flatMap cA++(iY #[.string ⟨#[]⟩,.string ⟨#[]⟩] (l.length - (kp p l j).length)++rest)) (by simp <;> rfl) (by simp) (by omega) (by simp [hrest,jL (z:=#[.string ⟨#[]⟩,.string ⟨#[]⟩]) (k:=2) rfl];omega) (by simp) (aP9 _) (by rw [Yi];exact dL _ _) ?_;simp only [sF];apply aC;simp [aG];unfold kp;rw [bV (by omega)]
theorem Xx(l:List AT)(p:AT->Bool)(f:FuncId)(caps:List D)(σ:List (List D))(hl:l.length<=1000000)(hcp:∀d∈caps,d.plain=true)(hcs:caps.map D.strip=caps)(hp:∀x τ,Ct prog f (cZ x::caps) τ (fun r τ'=>r= .bool (p x)/\τ'=τ)):
  Ct prog 269 [.xs 2 (l.map cZ),.clo (.func f) [] caps] σ (fun r σ'=>r= .xs 2 ((l.filter fun x=> !p x).map cZ)/\σ'=σ):=
 (Sl l p f caps σ hl hcp hcs hp).trim fun r σ' ⟨hr,hs⟩=>⟨σ, [[]],hs,rfl,by rw [hr];exact aRm _ _,fun n cs h=> .inl h,hr,rfl⟩
theorem aD8(l:List AT)(σ:List (List D))(hl:l.length<=1000000):Ct prog 154 [.sl false (l.map cZ)] σ (fun r σ'=>r= .sl true (l.map cZ)/\σ'=σ):=by
 refine zf func154 ?_;refine zr ⟨[2],[],[],[],[]⟩ fun _ _ Z=>?_;simp;apply Z;apply aE;refine zr ⟨[2],[],[],[],[]⟩ fun _ _ Z=>?_;refine zs 1 fun _ Y=>?_;simp;apply Y;refine aF fun _ Y=>?_;simp;refine⟨Y _ ?_,fun e1=>Y _ ?_⟩
 .simp only [dT];apply Z;refine aZ (t:=false) (by simp) (fun h=>by cases h) (fun _=>?_);apply zA;refine zr ⟨[2],[],[],[],[]⟩ fun _ _ Z=>?_;simp;and_intros<;>(try omega);apply Z;apply aC;simp [aG]
 simp only [dT];apply Z;refine aZ (t:=true) (by simp) (fun _=>?_) (fun h=>by cases h);refine zr ⟨[2],[],[],[],[]⟩ fun _ _ Z=>?_;simp;apply Z;apply aC;simp [aG,e1]
attribute [simp] cP
theorem Xf(l:List PI):(l.map cL).flatMap D.cells=l.flatMap cP:=cQ (fun _=>rfl) l
theorem aQi(l:List PI):∀d∈l.map cL,d.ncells=2/\d.arr=true:=by
 intro d hd;obtain⟨a,_,rfl⟩:=aW.1 hd;exact⟨rfl,rfl⟩
@[simp high] theorem aXq(l:List PI):(l.flatMap cP).length=l.length * 2:=dE (f:=cP) (fun _=>rfl) l
@[simp high] theorem aX8(l:List PI)(rest:List D)(i:Nat)(h:i<l.length):yX true 2 ((l.flatMap cP++rest).drop (i * 2))=some (.agg (cP l[i])):=aAx (f:=cP) (fun _=>rfl) l rest i h
@[simp high] theorem aYe(l:List PI)(rest:List D)(i:Nat)(x:PI)(h:i<l.length):dU (l.flatMap cP++rest) (i * 2) [D.str x.name,D.int x.value]=(l.set i x).flatMap cP++rest:=Gx (f:=cP) (fun _=>rfl) l rest i x h
theorem lA(p:PI->Bool)(l:List PI)(j:Nat)(rest:List D):dU ((ar p l j).flatMap cP++rest) ((kp p l j).length * 2) (iY #[.string ⟨#[]⟩,.int .i64 0] (l.length - (kp p l j).length))=(kp p l j).flatMap cP++(iY #[.string ⟨#[]⟩,.int .i64 0] (l.length - (kp p l j).length)++rest):=by
 have hz:(iY #[.string ⟨#[]⟩,.int .i64 0] (l.length - (kp p l j).length)).length=((l.drop (kp p l j).length).flatMap cP).length:=by
  rw [dE (f:=cP) (k:=2) (fun _=>rfl),jL (k:=2) rfl,dD]
 have hk:((kp p l j).flatMap cP).length=(kp p l j).length * 2:=dE (f:=cP) (fun _=>rfl) _;unfold ar;rw [gP,bU,<- hk,nX _ _ _ _ hz]
theorem Xv(l:List PI)(p:PI->Bool)(f:FuncId)(caps:List D)(m cap:Nat)(rest:List D)(σ:List (List D))(hl:l.length<=9223372036854775807)(hσ:σ[m]?=some (l.flatMap cP++rest))(hcp:∀d∈caps,d.plain=true)(hcs:caps.map D.strip=caps)(hp:∀x τ,Ct prog f (cL x::caps) τ (fun r τ'=>r= .bool (p x)/\τ'=τ)):Ct prog 274 [.slo m 0 l.length cap,.clo (.func f) [] caps] σ (fun r σ'=>r= .int (vR p l)/\σ'=σ):=by
 refine zf func274 ?_;refine zr ⟨[],[],[],[7,14],[]⟩ fun _ _ Z=>?_;simp(disch:=omega)[hσ,hcs];apply Z;apply aE;refine zr ⟨[],[],[],[7,14],[]⟩ fun _ _ Z=>?_;simp(disch:=omega)[hσ,hcs];and_intros<;>(try omega);apply Z;apply aR;refine zk [0,1,4,7,8] ?_;refine aY (fun(k:Nat)=> [(8,.d (.v (.int .i64 (k:Int))))]) [4,5,8,9,10,11,12,13,14,15,16,17,18] (fun(k:Nat)=>k<=l.length/\∀x∈l.take k,p x=false) (fun(k:Nat)=>l.length - k) (0) (by simp <;> rfl) ?_ ?_ ?_
 .simp
 .simp
 rintro k ⟨hk,hh⟩;simp only [aQ,aP];refine zr ⟨[],[],[],[7,14],[]⟩ fun _ _ Z=>?_;simp(disch:=omega)[hσ,hcs];apply Z;apply aE;refine zI ?_ ?_<;>intro c1<;>try simp at c1
 .apply kO;refine zr ⟨[],[],[],[7,14],[]⟩ fun _ _ Z=>?_;simp(disch:=omega)[hσ,hcs];apply Z;refine zr ⟨[],[],[],[7,14],[]⟩ fun _ _ Z=>?_;refine zs 5 fun _ Y=>?_;simp(disch:=omega)[hσ,hcs];and_intros<;>(try omega);apply Y;refine aF fun _ Y=>?_;simp(disch:=omega)[hσ,hcs];refine⟨hcp,?_⟩;refine cN (hp l[k] _) ?_;apply Y;simp only [dT];apply Z;refine zI ?_ ?_<;>intro c2<;>try simp at c2
  .refine zk [0,1,5,7,8] ?_;refine zr ⟨[],[],[],[7,14],[]⟩ fun _ _ Z=>?_;simp(disch:=omega)[hσ,hcs];apply Z;apply aC;simp [aG];exact(Hj c1 hh c2).symm
  apply nM;refine zk [0,1,7,8] ?_;refine zt ⟨[],[],[],[7,14],[]⟩ fun _ _ Z=>?_;simp(disch:=omega)[hσ,hcs];and_intros<;>(try omega);apply Z;refine zq (k+1) ?_ ?_ ?_
  .exact⟨by omega,tT (by omega) hh c2⟩
  .try dsimp only
   omega
  simp(disch:=omega)[hσ,hcs]
 apply zE;refine zr ⟨[],[],[],[7,14],[]⟩ fun _ _ Z=>?_;simp(disch:=omega)[hσ,hcs];apply Z;apply aC;simp [aG];rw [bV (by omega)] at hh;exact(xV hh).symm
theorem Tg(l:List PI)(p:PI->Bool)(f:FuncId)(caps:List D)(σ:List (List D))(hl:l.length<=1000000)(hcp:∀d∈caps,d.plain=true)(hcs:caps.map D.strip=caps)(hp:∀x τ,Ct prog f (cL x::caps) τ (fun r τ'=>r= .bool (p x)/\τ'=τ)):Ct prog 270 [.xs 2 (l.map cL),.clo (.func f) [] caps] σ (fun r σ'=>r= .xs 2 ((l.filter fun x=> !p x).map cL)/\σ'=σ++ [[]]):=by
 refine zf func270 ?_;refine rT 0 2 rfl (by decide) fun cap rest hcap hcm hrest hk0 hes=>?_;simp only [bQ] at hcap hrest |-;rw [Xf];refine zr q28_2 fun _ _ Z=>?_;simp(disch:=first|omega|assumption)[hcs,lA];apply Z;refine zr q28_2 fun _ _ Z=>?_;refine zs 2 fun _ Y=>?_;simp(disch:=first|omega|assumption)[hcs,lA];apply Y;refine aF fun _ Y=>?_;simp(disch:=first|omega|assumption)[hcs,lA];refine cN (Xv l p f caps σ.length cap rest _ (by omega) (by simp) hcp hcs hp) ?_;apply Y;simp(disch:=first|omega|assumption)[hcs,lA];apply Z;apply aE;refine zr q28_2 fun _ _ Z=>?_;simp(disch:=first|omega|assumption)[hcs,lA];apply Z;refine zI ?_ ?_<;>intro c1<;>try simp at c1
 .refine zr q28_2 fun _ _ Z=>?_;simp(disch:=first|omega|assumption)[hcs,lA];apply Z;refine fL 4 2 σ.length l.length cap (l.map cL) (l.flatMap cP++rest) (by simp <;> rfl) (by simp) (by omega) (by simp [hrest,jL (z:=#[.string ⟨#[]⟩,.int .i64 0]) (k:=2) rfl];omega) (by simp) (aQi _) (by rw [Xf];exact dL _ _) ?_;simp only [sF];apply aC;simp [aG];rcases zZ p l with ⟨_,h⟩ | ⟨k,h,_⟩
  .rw [h]
  omega
 obtain⟨k0,e0,e1,e2,e3⟩:=Jf c1;rw [e0];apply zA;apply aE;refine zr q28_2 fun _ _ Z=>?_;simp(disch:=first|omega|assumption)[hcs,lA];and_intros<;>try first|omega|exact rfl
 apply Z;apply aR;refine zk [0,1,4,5,6] ?_;refine oB (fun(j:Nat)=> [(5,.d (.v (.int .i64 ((kp p l j).length:Int)))),(6,.d (.v (.int .i64 (j:Int))))]) (fun(j:Nat)=> []) (fun(j:Nat)=> [(σ.length,(ar p l j).flatMap cP++rest)]) [5,6,7,16,17,18,19,20,21,22,23,24,25,26,27,28,29,30,31,32,33,34,35] (fun(j:Nat)=>j<=l.length) (fun(j:Nat)=>l.length - j) (k0+1) (by simp <;> rfl) ?_ (by simp) (by simp [e1]) ?_ ?_
 .simp [e1,e2]
 .omega
 rintro j hj;simp only [aQ,aP,oU,mT,jE,iR];have hkl:=Uu p l j hj;have hal:=Rj p l j;apply aE;refine zr q28_2 fun _ _ Z=>?_;simp(disch:=first|omega|assumption)[hcs,lA];and_intros<;>try first|omega|exact rfl
 apply Z;refine zI ?_ ?_<;>intro c2<;>try simp at c2
 .apply kO;refine zr q28_2 fun _ _ Z=>?_;simp(disch:=first|omega|assumption)[hcs,lA];and_intros<;>try first|omega|exact rfl
  apply Z;refine zk [0,1,4,5,6,7] ?_;refine zr q28_2 fun _ _ Z=>?_;refine zs 2 fun _ Y=>?_;simp(disch:=first|omega|assumption)[hcs,lA];apply Y;refine aF fun _ Y=>?_;simp(disch:=first|omega|assumption)[hcs,lA];simp only [aHo p l j (by omega)];refine⟨hcp,?_⟩;refine cN (hp l[j] _) ?_;apply Y;simp(disch:=first|omega|assumption)[hcs,lA];apply Z;refine zI ?_ ?_<;>intro c3<;>try simp at c3
  .refine zr q28_2 fun _ _ Z=>?_;simp(disch:=first|omega|assumption)[hcs,lA];and_intros<;>try first|omega|exact rfl
   apply Z;refine zk [0,1,4,5,6] ?_;refine zt q28_2 fun _ _ Z=>?_;simp(disch:=first|omega|assumption)[hcs,lA];and_intros<;>try first|omega|exact rfl
   apply Z;apply zB;refine zt q28_2 fun _ _ Z=>?_;simp(disch:=first|omega|assumption)[hcs,lA];and_intros<;>try first|omega|exact rfl
   apply Z;refine fP (j+1) ?_ ?_ (eG rfl ?_ (by simp) (by first | (simp [<- (Gr p l j (by omega) c3).1];done) | (simp [(Gr p l j (by omega) c3).1];done)))
   .omega
   .try dsimp only
    omega
   simp(disch:=first|omega|assumption)[hcs,lA,(Gr p l j (by omega) c3).2]
  apply nM;refine zt q28_2 fun _ _ Z=>?_;simp(disch:=first|omega|assumption)[hcs,lA];and_intros<;>try first|omega|exact rfl
  apply Z;refine fP (j+1) ?_ ?_ (eG rfl ?_ (by simp) (by simp [(zQ p l j (by omega) c3).1]))
  .omega
  .try dsimp only
   omega
  simp(disch:=first|omega|assumption)[hcs,lA,(zQ p l j (by omega) c3).2]
 apply zE;refine zr q28_2 fun _ _ Z=>?_;simp(disch:=first|omega|assumption)[hcs,lA];and_intros<;>try first|omega|exact rfl
 apply Z;refine zk [0,4,5] ?_;refine zr q28_2 fun _ _ Z=>?_;simp(disch:=first|omega|assumption)[hcs,lA];and_intros<;>try first|omega|exact rfl
 apply Z;refine fL 4 2 σ.length (kp p l j).length cap ((kp p l j).map cL) ((kp p l j).flatMap cP++(iY #[.string ⟨#[]⟩,.int .i64 0] (l.length - (kp p l j).length)++rest)) (by simp <;> rfl) (by simp) (by omega) (by simp [hrest,jL (z:=#[.string ⟨#[]⟩,.int .i64 0]) (k:=2) rfl];omega) (by simp) (aQi _) (by rw [Xf];exact dL _ _) ?_;simp only [sF];apply aC;simp [aG];unfold kp;rw [bV (by omega)]
theorem Xb(l:List PI)(p:PI->Bool)(f:FuncId)(caps:List D)(σ:List (List D))(hl:l.length<=1000000)(hcp:∀d∈caps,d.plain=true)(hcs:caps.map D.strip=caps)(hp:∀x τ,Ct prog f (cL x::caps) τ (fun r τ'=>r= .bool (p x)/\τ'=τ)):
  Ct prog 270 [.xs 2 (l.map cL),.clo (.func f) [] caps] σ (fun r σ'=>r= .xs 2 ((l.filter fun x=> !p x).map cL)/\σ'=σ):=
 (Tg l p f caps σ hl hcp hcs hp).trim fun r σ' ⟨hr,hs⟩=>⟨σ, [[]],hs,rfl,by rw [hr];exact aRj _ _,fun n cs h=> .inl h,hr,rfl⟩
theorem aDi(l:List PI)(σ:List (List D))(hl:l.length<=1000000):Ct prog 155 [.sl false (l.map cL)] σ (fun r σ'=>r= .sl true (l.map cL)/\σ'=σ):=by
 refine zf func155 ?_;refine zr ⟨[2],[],[],[],[]⟩ fun _ _ Z=>?_;simp;apply Z;apply aE;refine zr ⟨[2],[],[],[],[]⟩ fun _ _ Z=>?_;refine zs 1 fun _ Y=>?_;simp;apply Y;refine aF fun _ Y=>?_;simp;refine⟨Y _ ?_,fun e1=>Y _ ?_⟩
 .simp only [dT];apply Z;refine aZ (t:=false) (by simp) (fun h=>by cases h) (fun _=>?_);apply zA;refine zr ⟨[2],[],[],[],[]⟩ fun _ _ Z=>?_;simp;and_intros<;>(try omega);apply Z;apply aC;simp [aG]
 simp only [dT];apply Z;refine aZ (t:=true) (by simp) (fun _=>?_) (fun h=>by cases h);refine zr ⟨[2],[],[],[],[]⟩ fun _ _ Z=>?_;simp;apply Z;apply aC;simp [aG,e1]
theorem Wu(N cap:Nat)(l:List Int)(rest:List D)(σ:List (List D))(hl:l.length<=1000000)(hN:σ[N]?=some (l.map D.int++rest)):Ct prog 153 [.slo N 0 l.length cap] σ (fun r σ'=>vK 1 (l.map D.int) r/\σ'=σ):=by
 refine zf func153 ?_;refine zr ⟨[2,7],[],[],[],[7]⟩ fun _ _ Z=>?_;simp[hN];apply Z;apply aE;refine zr ⟨[2,7],[],[],[],[7]⟩ fun _ _ Z=>?_;refine zs 1 fun _ Y=>?_;simp[hN];apply Y;refine aF fun _ Y=>?_;simp[hN];refine⟨Y _ ?_,fun e1=>Y _ ?_⟩
 .simp only [dT];apply Z;refine aZ (t:=false) (by simp) (fun h=>by cases h) (fun _=>?_);apply zA;refine zr ⟨[2,7],[],[],[],[7]⟩ fun _ _ Z=>?_;refine zs 3 fun _ Y=>?_;simp[hN];refine⟨l.map D.int,⟨⟨by simp,by rw [tW (f:=D.int) (fun _=>rfl)];exact dL _ _⟩,lZ (d:=D.int) (fun _=>⟨rfl,rfl⟩) _,by first | rfl | trivial⟩,⟨by simp;omega,by simp;omega⟩,?_⟩;and_intros<;>(try omega);apply Y;simp[hN];apply Z;apply aC;simp [aG,vK]
 simp only [dT];apply Z;refine aZ (t:=true) (by simp) (fun _=>?_) (fun h=>by cases h);refine zr ⟨[2,7],[],[],[],[7]⟩ fun _ _ Z=>?_;simp[hN];apply Z;apply aC;simp [aG,vK,e1]
theorem aEr(N cap:Nat)(l:List Int)(rest:List D)(σ:List (List D))(hl:l.length<=1000000)(hN:σ[N]?=some (l.map D.int++rest)):Ct prog 153 [.slo N 0 l.length cap] σ (fun r σ'=>r= .sl false (l.map D.int)/\σ'=σ):=((Wu N cap l rest σ hl hN).toX fun _ _ h=>h).freeze fun _ _ h=>h
def aDu(c:Int)(l:List Int):Int:=vR (fun x=>decide (x=c)) l
end Go.Proofs.YtbgfljpnhhdkoaaGreat
