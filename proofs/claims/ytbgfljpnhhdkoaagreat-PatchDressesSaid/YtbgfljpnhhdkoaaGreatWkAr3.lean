import Derived.Test.YtbgfljpnhhdkoaaGreatWkAr2
set_option maxRecDepth 20000
set_option linter.all false
set_option maxHeartbeats 8000000
open Go.Proofs.Tryz
namespace Go.Proofs.YtbgfljpnhhdkoaaGreat
open Go Go.Vm
structure AT where
 name:ByteArray
 value:ByteArray
 deriving DecidableEq
@[simp] abbrev dU(s:AT):D:= .agg [.v (.string s.name),.v (.string s.value)]
structure PI where
 name:ByteArray
 value:Int
 deriving DecidableEq
@[simp] abbrev cM(s:PI):D:= .agg [.v (.string s.name),.v (.int .i64 s.value)]
def cI(n:Int):List D:= [D.int n]
def cA(x:AT):List D:= [D.str x.name,D.str x.value]
def cP(x:PI):List D:= [D.str x.name,D.int x.value]
def fV {α:Type} (l:List α)(i:Nat)(x:α):List α:=l.take i++x::l.drop i
theorem jW {α:Type} (l:List α)(i:Nat)(x:α)(h:i<=l.length):(fV l i x).length=l.length+1:=by simp [fV];omega
def Dj(k:Nat):D:=if k=1 then .any else .agg (List.replicate k .any)
theorem Bx {k:Nat} :(Dj k).cells=List.replicate k .any:=by
 unfold Dj;split
 .rename_i h;subst h;rfl
 rfl
theorem aQ4 {k:Nat} :(Dj k).ncells=k/\(Dj k).arr=true:=by
 constructor
 .rw [<- fC,Bx,dC]
 unfold D.arr;rw [Bx,gF];intro x hx;rw [qF hx];rfl
section
variable {α:Type} {f:α->List D} {d:α->D} {k:Nat}
theorem Sy(hd:∀a,(d a).cells=f a)(hf:∀a,(f a).length=k)(l:List α)(i r:Nat)(hi:i<l.length)(hr:k<=r):((l.drop i).map d++ [Dj k]).flatMap D.cells<+:List.drop (i * k) (l.flatMap f++List.replicate r .any):=by
 have e:l.flatMap f=(l.take i).flatMap f++(l.drop i).flatMap f:=by rw [<- iB,fP]
 rw [e,bM,<- rJ hf l i hi,zG,iB,cW hd];refine⟨List.replicate (r - k) .any,?_⟩;simp only [gM,Ee,fZ,Bx,bM,Qi];rw [show k+(r - k)=r by omega]
theorem Kt(hd:∀a,(d a).cells=f a)(hf:∀a,(f a).length=k)(l:List α)(i r:Nat)(hi:i<l.length)(hr:k<=r):eV (l.flatMap f++List.replicate r .any) ((i+1) * k) ((((l.drop i).map d++ [Dj k]).take (l.length - i)).flatMap D.cells)=(l.take (i+1)).flatMap f++((l.drop i).flatMap f++List.replicate (r - k) .any):=by
 have e:l.flatMap f=(l.take (i+1)).flatMap f++(l.drop (i+1)).flatMap f:=by rw [<- iB,fP]
 have e2:((l.drop i).map d++ [Dj k]).take (l.length - i)=(l.drop i).map d:=by
  rw [Gg (by simp),bL (by simp)]
 have e3:(l.flatMap f++List.replicate r (D.any))=(l.take (i+1)).flatMap f++(((l.drop (i+1)).flatMap f++List.replicate k .any)++List.replicate (r - k) .any):=by
  rw [e,bM,bM,Qi,show k+(r - k)=r by omega]
 have e4:((l.take (i+1)).flatMap f).length=(i+1) * k:=by rw [dJ hf,bF,jN (by omega)]
 rw [e2,cW hd,e3,<- e4];refine oK _ _ _ _ ?_;rw [bB,dJ hf,dJ hf,dC,dW,dW,<- Nat.succ_mul];congr 1;omega
theorem Mr(hf:∀a,(f a).length=k)(l:List α)(i:Nat)(x:α)(R:List D)(hi:i<l.length):eV ((l.take (i+1)).flatMap f++((l.drop i).flatMap f++R)) (i * k) (f x)=(fV l i x).flatMap f++R:=by
 have e:(l.take (i+1)).flatMap f=(l.take i).flatMap f++f l[i]:=by rw [bK l i hi,iB];simp
 rw [e,bM,<- rJ hf l i hi,oK _ _ _ _ (by rw [hf,hf])];simp [fV]
theorem Cg(hd:∀a,(d a).cells=f a)(l:List α)(i r:Nat):((l.take i).map d).flatMap D.cells<+:l.flatMap f++List.replicate r .any:=by
 rw [cW hd];have e:l.flatMap f=(l.take i).flatMap f++(l.drop i).flatMap f:=by rw [<- iB,fP]
 rw [e,bM];exact cD _ _
theorem Hk(hd:∀a,(d a).cells=f a)(l:List α)(i:Nat):((l.take i).map d).flatMap D.cells<+:l.flatMap f:=by
 have:=Cg (f:=f) hd l i 0;simpa using this
theorem mC(hd:∀a,(d a).ncells=k/\(d a).arr=true)(l:List α):∀y∈l.map d,y.ncells=k/\y.arr=true:=fun y hy=>by
 obtain⟨a,_,rfl⟩:=aX.1 hy;exact hd a
theorem aAx(hd:∀a,(d a).ncells=k/\(d a).arr=true)(l:List α):∀y∈l.map d++ [Dj k],y.ncells=k/\y.arr=true:=fun y hy=>by
 rcases cK.1 hy with h | h
 .exact mC hd l y h
 simp at h;subst h;exact aQ4
theorem Lq(hd:∀a,(d a).cells=f a)(hf:∀a,(f a).length=k)(l:List α)(i r:Nat)(hi:i<l.length):((l.drop i).map d).flatMap D.cells<+:List.drop (i * k) (l.flatMap f++List.replicate r .any):=by
 have e:l.flatMap f=(l.take i).flatMap f++(l.drop i).flatMap f:=by rw [<- iB,fP]
 rw [e,bM,<- rJ hf l i hi,zG,cW hd];exact cD _ _
theorem Sa {Z:D} (hZ:Z.ncells=k):∀n:Nat,((List.replicate n Z).flatMap D.cells).length=n * k
 | 0=>by simp
 | n+1=>by rw [sK,gM,bB,Sa hZ n,fC,hZ,Nat.succ_mul];omega
theorem Nh(hf:∀a,(f a).length=k)(l:List α)(i:Nat)(x:α)(R:List D)(hi:i<l.length)(hR:k<=R.length):eV ((l.take i).flatMap f++R) (i * k) (f x)=(l.take i).flatMap f++(f x++R.drop k):=by
 conv=>lhs;rw [<- fP k R]
 rw [<- rJ hf l i hi,oK _ _ _ _ (by rw [hf,bF];omega)]
theorem Kz(hd:∀a,(d a).cells=f a)(hf:∀a,(f a).length=k)(l:List α)(i:Nat)(x:α)(R:List D)(hi:i<l.length)(hR:(l.length - i) * k<=R.length):eV ((l.take i).flatMap f++(f x++R)) ((i+1) * k) (((l.drop i).map d).flatMap D.cells)=(fV l i x).flatMap f++R.drop ((l.length - i) * k):=by
 have e:((l.take i).flatMap f++f x).length=(i+1) * k:=by rw [bB,rJ hf l i hi,hf,Nat.succ_mul]
 conv=>lhs;rw [<- fP ((l.length - i) * k) R]
 rw [<- bM,<- e,oK _ _ _ _ (by rw [cW hd,dJ hf,dW,bF];omega),cW hd];simp [fV]
end
theorem iW:So prog 241:=by
 obtain⟨ti,zv,h1,h2,_⟩:=jV aYm;exact⟨_,22,4,3,ti,func241,by kernel_rfl,by kernel_rfl,by kernel_rfl,by kernel_rfl,h1,h2⟩
@[simp] abbrev q33_1:Cfg:=⟨[0,6,9,17,23,55,61,83,94],[],[],[12,19,25,34,43,50,53,60,66,73,76,80],[30,40,45,54,67,77,82]⟩
theorem aJo(l:List Int)(x:Int)(i:Nat)(σ:List (List D))(hl:l.length<=1000000)(hi:i<=l.length):Ct prog 205 [.xs 1 (l.map D.int),D.int i,.sl true [D.int x]] σ (fun r σ'=>r= .xs 1 ((fV l i x).map D.int)/\∃J,σ'=σ++J):=by
 refine zf func205 ?_;refine gW 0 1 rfl (by decide) fun cap rest hcap hcm hrest hk0 hes=>?_;subst hrest;simp only [bI] at hcap |-;rw [cW (f:=cI) (fun _=>rfl)];refine zr q33_1 fun _ _ Z=>?_;simp(disch:=omega)[iW,-bH,aY,aR,aL,aJ];apply Z;refine zr q33_1 fun _ _ Z=>?_;simp(disch:=omega)[iW,-bH,aY,aR,aL,aJ];and_intros<;>(try omega);apply Z;refine zr q33_1 fun _ _ Z=>?_;simp(disch:=omega)[iW,-bH,aY,aR,aL,aJ];and_intros<;>(try omega);apply Z;apply aF;refine zr q33_1 fun _ _ Z=>?_;simp(disch:=omega)[iW,-bH,aY,aR,aL,aJ];apply Z;refine zI ?_ ?_<;>intro c1<;>try simp at c1
 apply zA;refine zr q33_1 fun _ _ Z=>?_;simp(disch:=omega)[iW,-bH,aY,aR,aL,aJ];and_intros<;>(try omega);apply Z;apply aF;refine zk [0,1,2,6,7,8] ?_;refine zr q33_1 fun _ _ Z=>?_;simp(disch:=omega)[iW,-bH,aY,aR,aL,aJ];apply Z;refine zI ?_ ?_<;>intro c2<;>try simp at c2
 .refine zr q33_1 fun _ _ Z=>?_;refine zs 3 fun _ Y=>?_;simp(disch:=omega)[iW,-bH,aY,aR,aL,aJ];refine⟨by first | rfl | exact⟨rfl,rfl⟩ | trivial,_,l.map D.int,⟨rfl,by simp only [bB,dJ (f:=cI) (k:=1) (fun _=>rfl),dC];omega,by simp,hes,by rw [cW (f:=cI) (fun _=>rfl)];exact cD _ _,by simp;omega,by simp;omega⟩,?_⟩;and_intros<;>(try omega);apply Y;simp(disch:=omega)[iW,-bH,aY,aR,aL,aJ];apply Z;apply aD;obtain rfl:i=l.length:=by omega
  simp [aK,fV]
 apply zA;apply aF;refine zr q33_1 fun _ _ Z=>?_;simp(disch:=omega)[iW,-bH,aY,aR,aL,aJ];and_intros<;>(try omega);apply Z;refine zI ?_ ?_<;>intro c3<;>try simp at c3
 .refine zk [0,1,2,6,7,8] ?_;refine zr q33_1 fun _ _ Z=>?_;refine zs 8 fun _ Y=>?_;simp(disch:=omega)[iW,-bH,aY,aR,aL,aJ];and_intros<;>(try omega);apply Y;refine zs 1 fun _ Y=>?_;simp(disch:=omega)[iW,-bH,aY,aR,aL,aJ];refine⟨(l.take i).map D.int,⟨⟨by simp;omega,by first | exact Hk (f:=cI) (fun _=>rfl) l i | exact Cg (f:=cI) (fun _=>rfl) l i _⟩,(mC (d:=D.int) (fun _=>⟨rfl,rfl⟩) _),by omega,by omega,by omega,by omega,by first | rfl | exact⟨rfl,rfl⟩ | trivial⟩,?_⟩;and_intros<;>(try omega);apply Y;simp(disch:=omega)[iW,-bH,aY,aR,aL,aJ];apply Z;refine qO 9 1 rfl (by decide) fun cap2 rest2 hcap2 hcm2 hrest2 hk2 hes2=>?_;simp only [bB,bI,bF,dC,jN hi] at hcap2 hrest2 |-;rw [iB,show List.flatMap D.cells (List.take i (List.map D.int l))=(l.take i).flatMap cI from by rw [<- vQ];exact cW (f:=cI) (fun _=>rfl) _];simp only [bM];have hR:((List.replicate (l.length+1 - i) (wD 1 #[.int .i64 0])).flatMap D.cells++rest2).length=(cap2 - i) * 1:=by rw [bB,Sa (k:=1) rfl,hrest2];omega
  generalize (List.replicate (l.length+1 - i) (wD 1 #[.int .i64 0])).flatMap D.cells++rest2=R at hR |-;refine zk [0,1,2,6,7,8,9] ?_;refine zr q33_1 fun _ _ Z=>?_;simp(disch:=omega)[iW,-bH,aY,aR,aL,aJ];have hlt:i<l.length:=by omega
  refine⟨by omega, [D.int x],_,⟨rfl,(fun y hy=>by simp only [gO] at hy;subst hy;exact⟨rfl,rfl⟩),rfl,by simp only [bB,dJ (f:=cI) (k:=1) (fun _=>rfl),show ∀a,(cI a).length=1 from fun _=>rfl,dC,bI,dW,bF,bT,dF] at *;omega⟩,?_⟩;rw [show min [D.int x].length (l.length+1 - i)=1 by first | (simp;done) | (simp;omega),show List.flatMap D.cells (List.take 1 [D.int x])=cI x from rfl];have row:=Nh (f:=cI) (k:=1) (fun _=>rfl) l i x R hlt (by rw [hR];omega);simp only [pW] at row;rw [row];clear row;have hR3:(R.drop 1).length=(cap2 - i - 1) * 1:=by rw [dW,hR];omega
  generalize R.drop 1=R3 at hR3 |-;and_intros<;>(try omega);apply Z;refine zk [0,1,2,6,7,8,9] ?_;refine zd q33_1 [.op {},.op {},.op {},.op {},.op {},.op {},.op {},.op {},.op {rO:=true,wO:=true}] fun all hall _ Z=>?_;refine iU 8 fun _ Y=>?_;simp(disch:=omega)[iW,-bH,aY,aR,aL,aJ];and_intros<;>(try omega);apply Y;simp(disch:=omega)[iW,-bH,aY,aR,aL,aJ];refine⟨(l.drop i).map D.int,_,⟨⟨by simp,by have:=Lq (f:=cI) (d:=D.int) (k:=1) (fun _=>rfl) (fun _=>rfl) l i 0 hlt;first | exact this | simpa using this⟩,(mC (d:=D.int) (fun _=>⟨rfl,rfl⟩) _),rfl,by simp only [bB,dJ (f:=cI) (k:=1) (fun _=>rfl),show ∀a,(cI a).length=1 from fun _=>rfl,dC,bI,dW,bF,bT,dF] at *;omega⟩,?_⟩;rw [show min ((l.drop i).map D.int).length (l.length - i)=l.length - i by simp,bL (show((l.drop i).map D.int).length<=l.length - i by simp)];have row:=Kz (f:=cI) (d:=D.int) (k:=1) (fun _=>rfl) (fun _=>rfl) l i x R3 hlt (by rw [hR3];omega);simp only [pW] at row;rw [row];clear row;have hR4:(R3.drop ((l.length - i) * 1)).length=(cap2 - i - 1 - (l.length - i)) * 1:=by rw [dW,hR3];omega
  simp only [pW] at hR4;generalize R3.drop _=R4 at hR4 |-;and_intros<;>(try omega);apply Z;refine zk [0,1,2,6,7,8,9] ?_;refine zr q33_1 fun _ _ Z=>?_;simp(disch:=omega)[iW,-bH,aY,aR,aL,aJ];apply Z;refine eW 6 1 (σ.length+1) (l.length+1) cap2 ((fV l i x).map D.int) ((fV l i x).flatMap cI++R4) (by simp <;> rfl) (by simp [aY,aL]) (by omega) (by have:=jW l i x hi;simp only [bB,dJ (f:=cI) (k:=1) (fun _=>rfl),this] at *;omega) (by simp [jW l i x hi]) (mC (d:=D.int) (fun _=>⟨rfl,rfl⟩) _) (by rw [cW (f:=cI) (fun _=>rfl)];exact cD _ _) ?_;apply aD;simp [aK]
 apply zA;refine zk [0,1,2,6,7,8] ?_;refine zr q33_1 fun _ _ Z=>?_;simp(disch:=omega)[iW,-bH,aY,aR,aL,aJ];and_intros<;>(try omega);apply Z;apply aF;refine zk [0,1,2,6,7,8] ?_;refine zr q33_1 fun _ _ Z=>?_;simp(disch:=omega)[iW,-bH,aY,aR,aL,aJ];and_intros<;>(try omega);apply Z;refine zI ?_ ?_<;>intro c4<;>try simp at c4
 refine zk [0,1,2,6,7,8] ?_;refine zd q33_1 [.op {},.op {},.op {},.op {},.op {},.op {},.op {},.op {},.op {rO:=true,wO:=true}] fun all hall _ Z=>?_;refine iU 8 fun _ Y=>?_;simp(disch:=omega)[iW,-bH,aY,aR,aL,aJ];and_intros<;>(try omega);apply Y;simp(disch:=omega)[iW,-bH,aY,aR,aL,aJ];have hlt:i<l.length:=by omega
 refine⟨(l.drop i).map D.int++ [Dj 1],_,⟨⟨by first | (simp;done) | (simp;omega),by have:=Sy (f:=cI) (d:=D.int) (k:=1) (fun _=>rfl) (fun _=>rfl) l i ((cap - l.length) * 1) hlt (show 1<=((cap - l.length) * 1) by omega);first | exact this | simpa using this⟩,aAx (d:=D.int) (fun _=>⟨rfl,rfl⟩) _,rfl,by simp only [bB,dJ (f:=cI) (k:=1) (fun _=>rfl),show ∀a,(cI a).length=1 from fun _=>rfl,dC,bI,dW,bF,bT,dF] at *;omega⟩,?_⟩;rw [show min ((l.drop i).map D.int++ [Dj 1]).length (l.length - i)=l.length - i by first | (simp;done) | (simp;omega)];have row:=Kt (f:=cI) (d:=D.int) (k:=1) (fun _=>rfl) (fun _=>rfl) l i ((cap - l.length) * 1) hlt (show 1<=((cap - l.length) * 1) by omega);simp only [pW] at row;rw [row];clear row;have hR:(List.replicate (((cap - l.length) * 1) - 1) D.any).length=((cap - l.length) * 1) - 1:=dC;simp only [pW] at hR;generalize List.replicate _ D.any=R at hR |-;and_intros<;>(try omega);apply Z;refine zk [0,1,2,6,7,8] ?_;refine zr q33_1 fun _ _ Z=>?_;simp(disch:=omega)[iW,-bH,aY,aR,aL,aJ];refine⟨by omega, [D.int x],_,⟨rfl,(fun y hy=>by simp only [gO] at hy;subst hy;exact⟨rfl,rfl⟩),rfl,by simp only [bB,dJ (f:=cI) (k:=1) (fun _=>rfl),show ∀a,(cI a).length=1 from fun _=>rfl,dC,bI,dW,bF,bT,dF] at *;omega⟩,?_⟩;rw [show min [D.int x].length (l.length+1 - i)=1 by first | (simp;done) | (simp;omega),show List.flatMap D.cells (List.take 1 [D.int x])=cI x from rfl];have row:=Mr (f:=cI) (k:=1) (fun _=>rfl) l i x R hlt;simp only [pW] at row;rw [row];clear row;and_intros<;>(try omega);apply Z;refine zr q33_1 fun _ _ Z=>?_;simp(disch:=omega)[iW,-bH,aY,aR,aL,aJ];apply Z;refine eW 6 1 σ.length (l.length+1) cap ((fV l i x).map D.int) ((fV l i x).flatMap cI++R) (by simp <;> rfl) (by simp [aY,aL]) (by omega) (by have:=jW l i x hi;simp only [bB,dJ (f:=cI) (k:=1) (fun _=>rfl),this] at *;omega) (by simp [jW l i x hi]) (mC (d:=D.int) (fun _=>⟨rfl,rfl⟩) _) (by rw [cW (f:=cI) (fun _=>rfl)];exact cD _ _) ?_;apply aD;simp [aK]
theorem aEa(N:Nat)(l:List Int):Sc N (.xs 1 (l.map D.int)):=Sc.xs fun e he y hy=>by
 obtain⟨a,_,rfl⟩:=aX.1 he;simp only [D.cells,bU,fJ,fU] at hy;subst hy <;> exact Sc.v _
theorem Rw(l:List Int)(x:Int)(i:Nat)(σ:List (List D))(hl:l.length<=1000000)(hi:i<=l.length):Ct prog 205 [.xs 1 (l.map D.int),D.int i,.sl true [D.int x]] σ (fun r σ'=>r= .xs 1 ((fV l i x).map D.int)/\σ'=σ):=
 (aJo l x i σ hl hi).trim fun r σ' ⟨hr,J,hs⟩=>⟨σ,J,hs,rfl,by rw [hr];exact aEa _ _,fun n cs h=> .inl h,hr,rfl⟩
theorem iX:So prog 249:=by
 obtain⟨ti,zv,h1,h2,_⟩:=jV aYw;exact⟨_,36,4,191,ti,func249,by kernel_rfl,by kernel_rfl,by kernel_rfl,by kernel_rfl,h1,h2⟩
theorem aIu(l:List AT)(x:AT)(i:Nat)(σ:List (List D))(hl:l.length<=1000000)(hi:i<=l.length):Ct prog 224 [.xs 2 (l.map dU),D.int i,.sl true [dU x]] σ (fun r σ'=>r= .xs 2 ((fV l i x).map dU)/\∃J,σ'=σ++J):=by
 refine zf func224 ?_;refine gW 0 2 rfl (by decide) fun cap rest hcap hcm hrest hk0 hes=>?_;subst hrest;simp only [bI] at hcap |-;rw [cW (f:=cA) (fun _=>rfl)];refine zr q33_1 fun _ _ Z=>?_;simp(disch:=omega)[iX,-bH,aY,aR,aL,aJ];apply Z;refine zr q33_1 fun _ _ Z=>?_;simp(disch:=omega)[iX,-bH,aY,aR,aL,aJ];and_intros<;>(try omega);apply Z;refine zr q33_1 fun _ _ Z=>?_;simp(disch:=omega)[iX,-bH,aY,aR,aL,aJ];and_intros<;>(try omega);apply Z;apply aF;refine zr q33_1 fun _ _ Z=>?_;simp(disch:=omega)[iX,-bH,aY,aR,aL,aJ];apply Z;refine zI ?_ ?_<;>intro c1<;>try simp at c1
 apply zA;refine zr q33_1 fun _ _ Z=>?_;simp(disch:=omega)[iX,-bH,aY,aR,aL,aJ];and_intros<;>(try omega);apply Z;apply aF;refine zk [0,1,2,6,7,8] ?_;refine zr q33_1 fun _ _ Z=>?_;simp(disch:=omega)[iX,-bH,aY,aR,aL,aJ];apply Z;refine zI ?_ ?_<;>intro c2<;>try simp at c2
 .refine zr q33_1 fun _ _ Z=>?_;refine zs 3 fun _ Y=>?_;simp(disch:=omega)[iX,-bH,aY,aR,aL,aJ];refine⟨by first | rfl | exact⟨rfl,rfl⟩ | trivial,_,l.map dU,⟨rfl,by simp only [bB,dJ (f:=cA) (k:=2) (fun _=>rfl),dC];omega,by simp,hes,by rw [cW (f:=cA) (fun _=>rfl)];exact cD _ _,by simp;omega,by simp;omega⟩,?_⟩;and_intros<;>(try omega);apply Y;simp(disch:=omega)[iX,-bH,aY,aR,aL,aJ];apply Z;apply aD;obtain rfl:i=l.length:=by omega
  simp [aK,fV]
 apply zA;apply aF;refine zr q33_1 fun _ _ Z=>?_;simp(disch:=omega)[iX,-bH,aY,aR,aL,aJ];and_intros<;>(try omega);apply Z;refine zI ?_ ?_<;>intro c3<;>try simp at c3
 .refine zk [0,1,2,6,7,8] ?_;refine zr q33_1 fun _ _ Z=>?_;refine zs 8 fun _ Y=>?_;simp(disch:=omega)[iX,-bH,aY,aR,aL,aJ];and_intros<;>(try omega);apply Y;refine zs 1 fun _ Y=>?_;simp(disch:=omega)[iX,-bH,aY,aR,aL,aJ];refine⟨(l.take i).map dU,⟨⟨by simp;omega,by first | exact Hk (f:=cA) (fun _=>rfl) l i | exact Cg (f:=cA) (fun _=>rfl) l i _⟩,(mC (d:=dU) (fun _=>⟨rfl,rfl⟩) _),by omega,by omega,by omega,by omega,by first | rfl | exact⟨rfl,rfl⟩ | trivial⟩,?_⟩;and_intros<;>(try omega);apply Y;simp(disch:=omega)[iX,-bH,aY,aR,aL,aJ];apply Z;refine qO 9 2 rfl (by decide) fun cap2 rest2 hcap2 hcm2 hrest2 hk2 hes2=>?_;simp only [bB,bI,bF,dC,jN hi] at hcap2 hrest2 |-;rw [iB,show List.flatMap D.cells (List.take i (List.map dU l))=(l.take i).flatMap cA from by rw [<- vQ];exact cW (f:=cA) (fun _=>rfl) _];simp only [bM];have hR:((List.replicate (l.length+1 - i) (wD 2 #[.string ⟨#[]⟩,.string ⟨#[]⟩])).flatMap D.cells++rest2).length=(cap2 - i) * 2:=by rw [bB,Sa (k:=2) rfl,hrest2];omega
  generalize (List.replicate (l.length+1 - i) (wD 2 #[.string ⟨#[]⟩,.string ⟨#[]⟩])).flatMap D.cells++rest2=R at hR |-;refine zk [0,1,2,6,7,8,9] ?_;refine zr q33_1 fun _ _ Z=>?_;simp(disch:=omega)[iX,-bH,aY,aR,aL,aJ];have hlt:i<l.length:=by omega
  refine⟨by omega, [dU x],_,⟨rfl,(fun y hy=>by simp only [gO] at hy;subst hy;exact⟨rfl,rfl⟩),rfl,by simp only [bB,dJ (f:=cA) (k:=2) (fun _=>rfl),show ∀a,(cA a).length=2 from fun _=>rfl,dC,bI,dW,bF,bT,dF] at *;omega⟩,?_⟩;rw [show min [dU x].length (l.length+1 - i)=1 by first | (simp;done) | (simp;omega),show List.flatMap D.cells (List.take 1 [dU x])=cA x from rfl];have row:=Nh (f:=cA) (k:=2) (fun _=>rfl) l i x R hlt (by rw [hR];omega)
  skip
  rw [row];clear row;have hR3:(R.drop 2).length=(cap2 - i - 1) * 2:=by rw [dW,hR];omega
  generalize R.drop 2=R3 at hR3 |-;and_intros<;>(try omega);apply Z;refine zk [0,1,2,6,7,8,9] ?_;refine zd q33_1 [.op {},.op {},.op {},.op {},.op {},.op {},.op {},.op {},.op {rO:=true,wO:=true}] fun all hall _ Z=>?_;refine iU 8 fun _ Y=>?_;simp(disch:=omega)[iX,-bH,aY,aR,aL,aJ];and_intros<;>(try omega);apply Y;simp(disch:=omega)[iX,-bH,aY,aR,aL,aJ];refine⟨(l.drop i).map dU,_,⟨⟨by simp,by have:=Lq (f:=cA) (d:=dU) (k:=2) (fun _=>rfl) (fun _=>rfl) l i 0 hlt;first | exact this | simpa using this⟩,(mC (d:=dU) (fun _=>⟨rfl,rfl⟩) _),rfl,by simp only [bB,dJ (f:=cA) (k:=2) (fun _=>rfl),show ∀a,(cA a).length=2 from fun _=>rfl,dC,bI,dW,bF,bT,dF] at *;omega⟩,?_⟩;rw [show min ((l.drop i).map dU).length (l.length - i)=l.length - i by simp,bL (show((l.drop i).map dU).length<=l.length - i by simp)];have row:=Kz (f:=cA) (d:=dU) (k:=2) (fun _=>rfl) (fun _=>rfl) l i x R3 hlt (by rw [hR3];omega)
  skip
  rw [row];clear row;have hR4:(R3.drop ((l.length - i) * 2)).length=(cap2 - i - 1 - (l.length - i)) * 2:=by rw [dW,hR3];omega
  generalize R3.drop _=R4 at hR4 |-;and_intros<;>(try omega);apply Z;refine zk [0,1,2,6,7,8,9] ?_;refine zr q33_1 fun _ _ Z=>?_;simp(disch:=omega)[iX,-bH,aY,aR,aL,aJ];apply Z;refine eW 6 2 (σ.length+1) (l.length+1) cap2 ((fV l i x).map dU) ((fV l i x).flatMap cA++R4) (by simp <;> rfl) (by simp [aY,aL]) (by omega) (by have:=jW l i x hi;simp only [bB,dJ (f:=cA) (k:=2) (fun _=>rfl),this] at *;omega) (by simp [jW l i x hi]) (mC (d:=dU) (fun _=>⟨rfl,rfl⟩) _) (by rw [cW (f:=cA) (fun _=>rfl)];exact cD _ _) ?_;apply aD;simp [aK]
 apply zA;refine zk [0,1,2,6,7,8] ?_;refine zr q33_1 fun _ _ Z=>?_;simp(disch:=omega)[iX,-bH,aY,aR,aL,aJ];and_intros<;>(try omega);apply Z;apply aF;refine zk [0,1,2,6,7,8] ?_;refine zr q33_1 fun _ _ Z=>?_;simp(disch:=omega)[iX,-bH,aY,aR,aL,aJ];and_intros<;>(try omega);apply Z;refine zI ?_ ?_<;>intro c4<;>try simp at c4
 refine zk [0,1,2,6,7,8] ?_;refine zd q33_1 [.op {},.op {},.op {},.op {},.op {},.op {},.op {},.op {},.op {rO:=true,wO:=true}] fun all hall _ Z=>?_;refine iU 8 fun _ Y=>?_;simp(disch:=omega)[iX,-bH,aY,aR,aL,aJ];and_intros<;>(try omega);apply Y;simp(disch:=omega)[iX,-bH,aY,aR,aL,aJ];have hlt:i<l.length:=by omega
 refine⟨(l.drop i).map dU++ [Dj 2],_,⟨⟨by first | (simp;done) | (simp;omega),by have:=Sy (f:=cA) (d:=dU) (k:=2) (fun _=>rfl) (fun _=>rfl) l i ((cap - l.length) * 2) hlt (show 2<=((cap - l.length) * 2) by omega);first | exact this | simpa using this⟩,aAx (d:=dU) (fun _=>⟨rfl,rfl⟩) _,rfl,by simp only [bB,dJ (f:=cA) (k:=2) (fun _=>rfl),show ∀a,(cA a).length=2 from fun _=>rfl,dC,bI,dW,bF,bT,dF] at *;omega⟩,?_⟩;rw [show min ((l.drop i).map dU++ [Dj 2]).length (l.length - i)=l.length - i by first | (simp;done) | (simp;omega)];have row:=Kt (f:=cA) (d:=dU) (k:=2) (fun _=>rfl) (fun _=>rfl) l i ((cap - l.length) * 2) hlt (show 2<=((cap - l.length) * 2) by omega)
 skip
 rw [row];clear row;have hR:(List.replicate (((cap - l.length) * 2) - 2) D.any).length=((cap - l.length) * 2) - 2:=dC;generalize List.replicate _ D.any=R at hR |-;and_intros<;>(try omega);apply Z;refine zk [0,1,2,6,7,8] ?_;refine zr q33_1 fun _ _ Z=>?_;simp(disch:=omega)[iX,-bH,aY,aR,aL,aJ];refine⟨by omega, [dU x],_,⟨rfl,(fun y hy=>by simp only [gO] at hy;subst hy;exact⟨rfl,rfl⟩),rfl,by simp only [bB,dJ (f:=cA) (k:=2) (fun _=>rfl),show ∀a,(cA a).length=2 from fun _=>rfl,dC,bI,dW,bF,bT,dF] at *;omega⟩,?_⟩;rw [show min [dU x].length (l.length+1 - i)=1 by first | (simp;done) | (simp;omega),show List.flatMap D.cells (List.take 1 [dU x])=cA x from rfl];have row:=Mr (f:=cA) (k:=2) (fun _=>rfl) l i x R hlt
 skip
 rw [row];clear row;and_intros<;>(try omega);apply Z;refine zr q33_1 fun _ _ Z=>?_;simp(disch:=omega)[iX,-bH,aY,aR,aL,aJ];apply Z;refine eW 6 2 σ.length (l.length+1) cap ((fV l i x).map dU) ((fV l i x).flatMap cA++R) (by simp <;> rfl) (by simp [aY,aL]) (by omega) (by have:=jW l i x hi;simp only [bB,dJ (f:=cA) (k:=2) (fun _=>rfl),this] at *;omega) (by simp [jW l i x hi]) (mC (d:=dU) (fun _=>⟨rfl,rfl⟩) _) (by rw [cW (f:=cA) (fun _=>rfl)];exact cD _ _) ?_;apply aD;simp [aK]
theorem aU3(N:Nat)(l:List AT):Sc N (.xs 2 (l.map dU)):=Sc.xs fun e he y hy=>by
 obtain⟨a,_,rfl⟩:=aX.1 he;simp only [D.cells,bU,fJ,fU] at hy;rcases hy with rfl | rfl <;> exact Sc.v _
theorem aR4(l:List AT)(x:AT)(i:Nat)(σ:List (List D))(hl:l.length<=1000000)(hi:i<=l.length):Ct prog 224 [.xs 2 (l.map dU),D.int i,.sl true [dU x]] σ (fun r σ'=>r= .xs 2 ((fV l i x).map dU)/\σ'=σ):=
 (aIu l x i σ hl hi).trim fun r σ' ⟨hr,J,hs⟩=>⟨σ,J,hs,rfl,by rw [hr];exact aU3 _ _,fun n cs h=> .inl h,hr,rfl⟩
theorem iV:So prog 251:=by
 obtain⟨ti,zv,h1,h2,_⟩:=jV aYd;exact⟨_,38,4,137,ti,func251,by kernel_rfl,by kernel_rfl,by kernel_rfl,by kernel_rfl,h1,h2⟩
theorem aKc(l:List PI)(x:PI)(i:Nat)(σ:List (List D))(hl:l.length<=1000000)(hi:i<=l.length):Ct prog 225 [.xs 2 (l.map cM),D.int i,.sl true [cM x]] σ (fun r σ'=>r= .xs 2 ((fV l i x).map cM)/\∃J,σ'=σ++J):=by
 refine zf func225 ?_;refine gW 0 2 rfl (by decide) fun cap rest hcap hcm hrest hk0 hes=>?_;subst hrest;simp only [bI] at hcap |-;rw [cW (f:=cP) (fun _=>rfl)];refine zr q33_1 fun _ _ Z=>?_;simp(disch:=omega)[iV,-bH,aY,aR,aL,aJ];apply Z;refine zr q33_1 fun _ _ Z=>?_;simp(disch:=omega)[iV,-bH,aY,aR,aL,aJ];and_intros<;>(try omega);apply Z;refine zr q33_1 fun _ _ Z=>?_;simp(disch:=omega)[iV,-bH,aY,aR,aL,aJ];and_intros<;>(try omega);apply Z;apply aF;refine zr q33_1 fun _ _ Z=>?_;simp(disch:=omega)[iV,-bH,aY,aR,aL,aJ];apply Z;refine zI ?_ ?_<;>intro c1<;>try simp at c1
 apply zA;refine zr q33_1 fun _ _ Z=>?_;simp(disch:=omega)[iV,-bH,aY,aR,aL,aJ];and_intros<;>(try omega);apply Z;apply aF;refine zk [0,1,2,6,7,8] ?_;refine zr q33_1 fun _ _ Z=>?_;simp(disch:=omega)[iV,-bH,aY,aR,aL,aJ];apply Z;refine zI ?_ ?_<;>intro c2<;>try simp at c2
 .refine zr q33_1 fun _ _ Z=>?_;refine zs 3 fun _ Y=>?_;simp(disch:=omega)[iV,-bH,aY,aR,aL,aJ];refine⟨by first | rfl | exact⟨rfl,rfl⟩ | trivial,_,l.map cM,⟨rfl,by simp only [bB,dJ (f:=cP) (k:=2) (fun _=>rfl),dC];omega,by simp,hes,by rw [cW (f:=cP) (fun _=>rfl)];exact cD _ _,by simp;omega,by simp;omega⟩,?_⟩;and_intros<;>(try omega);apply Y;simp(disch:=omega)[iV,-bH,aY,aR,aL,aJ];apply Z;apply aD;obtain rfl:i=l.length:=by omega
  simp [aK,fV]
 apply zA;apply aF;refine zr q33_1 fun _ _ Z=>?_;simp(disch:=omega)[iV,-bH,aY,aR,aL,aJ];and_intros<;>(try omega);apply Z;refine zI ?_ ?_<;>intro c3<;>try simp at c3
 .refine zk [0,1,2,6,7,8] ?_;refine zr q33_1 fun _ _ Z=>?_;refine zs 8 fun _ Y=>?_;simp(disch:=omega)[iV,-bH,aY,aR,aL,aJ];and_intros<;>(try omega);apply Y;refine zs 1 fun _ Y=>?_;simp(disch:=omega)[iV,-bH,aY,aR,aL,aJ];refine⟨(l.take i).map cM,⟨⟨by simp;omega,by first | exact Hk (f:=cP) (fun _=>rfl) l i | exact Cg (f:=cP) (fun _=>rfl) l i _⟩,(mC (d:=cM) (fun _=>⟨rfl,rfl⟩) _),by omega,by omega,by omega,by omega,by first | rfl | exact⟨rfl,rfl⟩ | trivial⟩,?_⟩;and_intros<;>(try omega);apply Y;simp(disch:=omega)[iV,-bH,aY,aR,aL,aJ];apply Z;refine qO 9 2 rfl (by decide) fun cap2 rest2 hcap2 hcm2 hrest2 hk2 hes2=>?_;simp only [bB,bI,bF,dC,jN hi] at hcap2 hrest2 |-;rw [iB,show List.flatMap D.cells (List.take i (List.map cM l))=(l.take i).flatMap cP from by rw [<- vQ];exact cW (f:=cP) (fun _=>rfl) _];simp only [bM];have hR:((List.replicate (l.length+1 - i) (wD 2 #[.string ⟨#[]⟩,.int .i64 0])).flatMap D.cells++rest2).length=(cap2 - i) * 2:=by rw [bB,Sa (k:=2) rfl,hrest2];omega
  generalize (List.replicate (l.length+1 - i) (wD 2 #[.string ⟨#[]⟩,.int .i64 0])).flatMap D.cells++rest2=R at hR |-;refine zk [0,1,2,6,7,8,9] ?_;refine zr q33_1 fun _ _ Z=>?_;simp(disch:=omega)[iV,-bH,aY,aR,aL,aJ];have hlt:i<l.length:=by omega
  refine⟨by omega, [cM x],_,⟨rfl,(fun y hy=>by simp only [gO] at hy;subst hy;exact⟨rfl,rfl⟩),rfl,by simp only [bB,dJ (f:=cP) (k:=2) (fun _=>rfl),show ∀a,(cP a).length=2 from fun _=>rfl,dC,bI,dW,bF,bT,dF] at *;omega⟩,?_⟩;rw [show min [cM x].length (l.length+1 - i)=1 by first | (simp;done) | (simp;omega),show List.flatMap D.cells (List.take 1 [cM x])=cP x from rfl];have row:=Nh (f:=cP) (k:=2) (fun _=>rfl) l i x R hlt (by rw [hR];omega)
  skip
  rw [row];clear row;have hR3:(R.drop 2).length=(cap2 - i - 1) * 2:=by rw [dW,hR];omega
  generalize R.drop 2=R3 at hR3 |-;and_intros<;>(try omega);apply Z;refine zk [0,1,2,6,7,8,9] ?_;refine zd q33_1 [.op {},.op {},.op {},.op {},.op {},.op {},.op {},.op {},.op {rO:=true,wO:=true}] fun all hall _ Z=>?_;refine iU 8 fun _ Y=>?_;simp(disch:=omega)[iV,-bH,aY,aR,aL,aJ];and_intros<;>(try omega);apply Y;simp(disch:=omega)[iV,-bH,aY,aR,aL,aJ];refine⟨(l.drop i).map cM,_,⟨⟨by simp,by have:=Lq (f:=cP) (d:=cM) (k:=2) (fun _=>rfl) (fun _=>rfl) l i 0 hlt;first | exact this | simpa using this⟩,(mC (d:=cM) (fun _=>⟨rfl,rfl⟩) _),rfl,by simp only [bB,dJ (f:=cP) (k:=2) (fun _=>rfl),show ∀a,(cP a).length=2 from fun _=>rfl,dC,bI,dW,bF,bT,dF] at *;omega⟩,?_⟩;rw [show min ((l.drop i).map cM).length (l.length - i)=l.length - i by simp,bL (show((l.drop i).map cM).length<=l.length - i by simp)];have row:=Kz (f:=cP) (d:=cM) (k:=2) (fun _=>rfl) (fun _=>rfl) l i x R3 hlt (by rw [hR3];omega)
  skip
  rw [row];clear row;have hR4:(R3.drop ((l.length - i) * 2)).length=(cap2 - i - 1 - (l.length - i)) * 2:=by rw [dW,hR3];omega
  generalize R3.drop _=R4 at hR4 |-;and_intros<;>(try omega);apply Z;refine zk [0,1,2,6,7,8,9] ?_;refine zr q33_1 fun _ _ Z=>?_;simp(disch:=omega)[iV,-bH,aY,aR,aL,aJ];apply Z;refine eW 6 2 (σ.length+1) (l.length+1) cap2 ((fV l i x).map cM) ((fV l i x).flatMap cP++R4) (by simp <;> rfl) (by simp [aY,aL]) (by omega) (by have:=jW l i x hi;simp only [bB,dJ (f:=cP) (k:=2) (fun _=>rfl),this] at *;omega) (by simp [jW l i x hi]) (mC (d:=cM) (fun _=>⟨rfl,rfl⟩) _) (by rw [cW (f:=cP) (fun _=>rfl)];exact cD _ _) ?_;apply aD;simp [aK]
 apply zA;refine zk [0,1,2,6,7,8] ?_;refine zr q33_1 fun _ _ Z=>?_;simp(disch:=omega)[iV,-bH,aY,aR,aL,aJ];and_intros<;>(try omega);apply Z;apply aF;refine zk [0,1,2,6,7,8] ?_;refine zr q33_1 fun _ _ Z=>?_;simp(disch:=omega)[iV,-bH,aY,aR,aL,aJ];and_intros<;>(try omega);apply Z;refine zI ?_ ?_<;>intro c4<;>try simp at c4
 refine zk [0,1,2,6,7,8] ?_;refine zd q33_1 [.op {},.op {},.op {},.op {},.op {},.op {},.op {},.op {},.op {rO:=true,wO:=true}] fun all hall _ Z=>?_;refine iU 8 fun _ Y=>?_;simp(disch:=omega)[iV,-bH,aY,aR,aL,aJ];and_intros<;>(try omega);apply Y;simp(disch:=omega)[iV,-bH,aY,aR,aL,aJ];have hlt:i<l.length:=by omega
 refine⟨(l.drop i).map cM++ [Dj 2],_,⟨⟨by first | (simp;done) | (simp;omega),by have:=Sy (f:=cP) (d:=cM) (k:=2) (fun _=>rfl) (fun _=>rfl) l i ((cap - l.length) * 2) hlt (show 2<=((cap - l.length) * 2) by omega);first | exact this | simpa using this⟩,aAx (d:=cM) (fun _=>⟨rfl,rfl⟩) _,rfl,by simp only [bB,dJ (f:=cP) (k:=2) (fun _=>rfl),show ∀a,(cP a).length=2 from fun _=>rfl,dC,bI,dW,bF,bT,dF] at *;omega⟩,?_⟩;rw [show min ((l.drop i).map cM++ [Dj 2]).length (l.length - i)=l.length - i by first | (simp;done) | (simp;omega)];have row:=Kt (f:=cP) (d:=cM) (k:=2) (fun _=>rfl) (fun _=>rfl) l i ((cap - l.length) * 2) hlt (show 2<=((cap - l.length) * 2) by omega)
 skip
 rw [row];clear row;have hR:(List.replicate (((cap - l.length) * 2) - 2) D.any).length=((cap - l.length) * 2) - 2:=dC;generalize List.replicate _ D.any=R at hR |-;and_intros<;>(try omega);apply Z;refine zk [0,1,2,6,7,8] ?_;refine zr q33_1 fun _ _ Z=>?_;simp(disch:=omega)[iV,-bH,aY,aR,aL,aJ];refine⟨by omega, [cM x],_,⟨rfl,(fun y hy=>by simp only [gO] at hy;subst hy;exact⟨rfl,rfl⟩),rfl,by simp only [bB,dJ (f:=cP) (k:=2) (fun _=>rfl),show ∀a,(cP a).length=2 from fun _=>rfl,dC,bI,dW,bF,bT,dF] at *;omega⟩,?_⟩;rw [show min [cM x].length (l.length+1 - i)=1 by first | (simp;done) | (simp;omega),show List.flatMap D.cells (List.take 1 [cM x])=cP x from rfl];have row:=Mr (f:=cP) (k:=2) (fun _=>rfl) l i x R hlt
 skip
 rw [row];clear row;and_intros<;>(try omega);apply Z;refine zr q33_1 fun _ _ Z=>?_;simp(disch:=omega)[iV,-bH,aY,aR,aL,aJ];apply Z;refine eW 6 2 σ.length (l.length+1) cap ((fV l i x).map cM) ((fV l i x).flatMap cP++R) (by simp <;> rfl) (by simp [aY,aL]) (by omega) (by have:=jW l i x hi;simp only [bB,dJ (f:=cP) (k:=2) (fun _=>rfl),this] at *;omega) (by simp [jW l i x hi]) (mC (d:=cM) (fun _=>⟨rfl,rfl⟩) _) (by rw [cW (f:=cP) (fun _=>rfl)];exact cD _ _) ?_;apply aD;simp [aK]
theorem aS2(N:Nat)(l:List PI):Sc N (.xs 2 (l.map cM)):=Sc.xs fun e he y hy=>by
 obtain⟨a,_,rfl⟩:=aX.1 he;simp only [D.cells,bU,fJ,fU] at hy;rcases hy with rfl | rfl <;> exact Sc.v _
theorem aQs(l:List PI)(x:PI)(i:Nat)(σ:List (List D))(hl:l.length<=1000000)(hi:i<=l.length):Ct prog 225 [.xs 2 (l.map cM),D.int i,.sl true [cM x]] σ (fun r σ'=>r= .xs 2 ((fV l i x).map cM)/\σ'=σ):=
 (aKc l x i σ hl hi).trim fun r σ' ⟨hr,J,hs⟩=>⟨σ,J,hs,rfl,by rw [hr];exact aS2 _ _,fun n cs h=> .inl h,hr,rfl⟩
end Go.Proofs.YtbgfljpnhhdkoaaGreat
