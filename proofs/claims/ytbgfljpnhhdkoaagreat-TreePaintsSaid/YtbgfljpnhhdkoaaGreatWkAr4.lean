import Derived.Test.YtbgfljpnhhdkoaaGreatWkAr2
set_option linter.all false
set_option maxRecDepth 20000
set_option maxHeartbeats 8000000
open Go.Proofs.Tryz
namespace Go.Proofs.YtbgfljpnhhdkoaaGreat
open Go Go.Vm
structure AT where
 name:ByteArray
 value:ByteArray
 deriving DecidableEq
@[simp] abbrev cY(s:AT):D:= .agg [.v (.string s.name),.v (.string s.value)]
structure PI where
 name:ByteArray
 value:Int
 deriving DecidableEq
@[simp] abbrev cR(s:PI):D:= .agg [.v (.string s.name),.v (.int .i64 s.value)]
def cI(n:Int):List D:= [D.int n]
def cA(x:AT):List D:= [D.str x.name,D.str x.value]
def cP(x:PI):List D:= [D.str x.name,D.int x.value]
def fP {α:Type} (l:List α)(i:Nat)(x:α):List α:=l.take i++x::l.drop i
theorem jW {α:Type} (l:List α)(i:Nat)(x:α)(h:i<=l.length):(fP l i x).length=l.length+1:=by simp [fP];omega
def Dy(k:Nat):D:=if k=1 then .any else .agg (List.replicate k .any)
theorem Bs {k:Nat} :(Dy k).cells=List.replicate k .any:=by
 unfold Dy;split
 .rename_i h;subst h;rfl
 rfl
theorem aP2 {k:Nat} :(Dy k).ncells=k/\(Dy k).arr=true:=by
 constructor
 .rw [<- eH,Bs,cS]
 unfold D.arr;rw [Bs,gK];intro x hx;rw [qH hx];rfl
section
variable {α:Type} {f:α->List D} {d:α->D} {k:Nat}
theorem Tf(hd:∀a,(d a).cells=f a)(hf:∀a,(f a).length=k)(l:List α)(i r:Nat)(hi:i<l.length)(hr:k<=r):((l.drop i).map d++ [Dy k]).flatMap D.cells<+:List.drop (i * k) (l.flatMap f++List.replicate r .any):=by
 have e:l.flatMap f=(l.take i).flatMap f++(l.drop i).flatMap f:=by rw [<- gV,fH]
 rw [e,bV,<- pR hf l i hi,Ak,gV,cW hd];refine⟨List.replicate (r - k) .any,?_⟩;simp only [gI,Hg,gN,Bs,bV,Px];rw [show k+(r - k)=r by omega]
theorem Kv(hd:∀a,(d a).cells=f a)(hf:∀a,(f a).length=k)(l:List α)(i r:Nat)(hi:i<l.length)(hr:k<=r):dZ (l.flatMap f++List.replicate r .any) ((i+1) * k) ((((l.drop i).map d++ [Dy k]).take (l.length - i)).flatMap D.cells)=(l.take (i+1)).flatMap f++((l.drop i).flatMap f++List.replicate (r - k) .any):=by
 have e:l.flatMap f=(l.take (i+1)).flatMap f++(l.drop (i+1)).flatMap f:=by rw [<- gV,fH]
 have e2:((l.drop i).map d++ [Dy k]).take (l.length - i)=(l.drop i).map d:=by
  rw [Qq (by simp),bZ (by simp)]
 have e3:(l.flatMap f++List.replicate r (D.any))=(l.take (i+1)).flatMap f++(((l.drop (i+1)).flatMap f++List.replicate k .any)++List.replicate (r - k) .any):=by
  rw [e,bV,bV,Px,show k+(r - k)=r by omega]
 have e4:((l.take (i+1)).flatMap f).length=(i+1) * k:=by rw [dK hf,bG,kL (by omega)]
 rw [e2,cW hd,e3,<- e4];refine oR _ _ _ _ ?_;rw [bB,dK hf,dK hf,cS,dG,dG,<- uQ];congr 1;omega
theorem Lj(hf:∀a,(f a).length=k)(l:List α)(i:Nat)(x:α)(R:List D)(hi:i<l.length):dZ ((l.take (i+1)).flatMap f++((l.drop i).flatMap f++R)) (i * k) (f x)=(fP l i x).flatMap f++R:=by
 have e:(l.take (i+1)).flatMap f=(l.take i).flatMap f++f l[i]:=by rw [bJ l i hi,gV];simp
 rw [e,bV,<- pR hf l i hi,oR _ _ _ _ (by rw [hf,hf])];simp [fP]
theorem Ds(hd:∀a,(d a).cells=f a)(l:List α)(i r:Nat):((l.take i).map d).flatMap D.cells<+:l.flatMap f++List.replicate r .any:=by
 rw [cW hd];have e:l.flatMap f=(l.take i).flatMap f++(l.drop i).flatMap f:=by rw [<- gV,fH]
 rw [e,bV];exact dB _ _
theorem Fk(hd:∀a,(d a).cells=f a)(l:List α)(i:Nat):((l.take i).map d).flatMap D.cells<+:l.flatMap f:=by
 have:=Ds (f:=f) hd l i 0;simpa using this
theorem mS(hd:∀a,(d a).ncells=k/\(d a).arr=true)(l:List α):∀y∈l.map d,y.ncells=k/\y.arr=true:=fun y hy=>by
 obtain⟨a,_,rfl⟩:=aX.1 hy;exact hd a
theorem aAp(hd:∀a,(d a).ncells=k/\(d a).arr=true)(l:List α):∀y∈l.map d++ [Dy k],y.ncells=k/\y.arr=true:=fun y hy=>by
 rcases bN.1 hy with h | h
 .exact mS hd l y h
 simp at h;subst h;exact aP2
theorem Lu(hd:∀a,(d a).cells=f a)(hf:∀a,(f a).length=k)(l:List α)(i r:Nat)(hi:i<l.length):((l.drop i).map d).flatMap D.cells<+:List.drop (i * k) (l.flatMap f++List.replicate r .any):=by
 have e:l.flatMap f=(l.take i).flatMap f++(l.drop i).flatMap f:=by rw [<- gV,fH]
 rw [e,bV,<- pR hf l i hi,Ak,cW hd];exact dB _ _
theorem Su {Z:D} (hZ:Z.ncells=k):∀n:Nat,((List.replicate n Z).flatMap D.cells).length=n * k
 | 0=>by simp
 | n+1=>by rw [Fq,gI,bB,Su hZ n,eH,hZ,uQ];omega
theorem Jo(hf:∀a,(f a).length=k)(l:List α)(i:Nat)(x:α)(R:List D)(hi:i<l.length)(hR:k<=R.length):dZ ((l.take i).flatMap f++R) (i * k) (f x)=(l.take i).flatMap f++(f x++R.drop k):=by
 conv=>lhs;rw [<- fH k R]
 rw [<- pR hf l i hi,oR _ _ _ _ (by rw [hf,bG];omega)]
theorem Jz(hd:∀a,(d a).cells=f a)(hf:∀a,(f a).length=k)(l:List α)(i:Nat)(x:α)(R:List D)(hi:i<l.length)(hR:(l.length - i) * k<=R.length):dZ ((l.take i).flatMap f++(f x++R)) ((i+1) * k) (((l.drop i).map d).flatMap D.cells)=(fP l i x).flatMap f++R.drop ((l.length - i) * k):=by
 have e:((l.take i).flatMap f++f x).length=(i+1) * k:=by rw [bB,pR hf l i hi,hf,uQ]
 conv=>lhs;rw [<- fH ((l.length - i) * k) R]
 rw [<- bV,<- e,oR _ _ _ _ (by rw [cW hd,dK hf,dG,bG];omega),cW hd];simp [fP]
end
theorem iK:Sa prog 241:=by
 obtain⟨ti,zv,h1,h2,_⟩:=jI aYh;exact⟨_,22,4,3,ti,func241,by kernel_rfl,by kernel_rfl,by kernel_rfl,by kernel_rfl,h1,h2⟩
@[simp] abbrev q28_1:Cfg:=⟨[0,6,9,17,23,55,61,83,94],[],[],[12,19,25,34,43,50,53,60,66,73,76,80],[30,40,45,54,67,77,82]⟩
theorem aJb(l:List Int)(x:Int)(i:Nat)(σ:List (List D))(hl:l.length<=1000000)(hi:i<=l.length):Ct prog 205 [.xs 1 (l.map D.int),D.int i,.sl true [D.int x]] σ (fun r σ'=>r= .xs 1 ((fP l i x).map D.int)/\∃J,σ'=σ++J):=by
 refine zf func205 ?_;refine iQ 0 1 rfl (by decide) fun cap rest hcap hcm hrest hk0 hes=>?_;subst hrest;simp only [bU] at hcap |-;rw [cW (f:=cI) (fun _=>rfl)];refine zr q28_1 fun _ _ Z=>?_;simp(disch:=omega)[iK,-bH,bI,aW,aH,aG];apply Z;refine zr q28_1 fun _ _ Z=>?_;simp(disch:=omega)[iK,-bH,bI,aW,aH,aG];and_intros<;>(try omega);apply Z;refine zr q28_1 fun _ _ Z=>?_;simp(disch:=omega)[iK,-bH,bI,aW,aH,aG];and_intros<;>(try omega);apply Z;apply aF;refine zr q28_1 fun _ _ Z=>?_;simp(disch:=omega)[iK,-bH,bI,aW,aH,aG];apply Z;refine zI ?_ ?_<;>intro c1<;>try simp at c1
 apply zA;refine zr q28_1 fun _ _ Z=>?_;simp(disch:=omega)[iK,-bH,bI,aW,aH,aG];and_intros<;>(try omega);apply Z;apply aF;refine zk [0,1,2,6,7,8] ?_;refine zr q28_1 fun _ _ Z=>?_;simp(disch:=omega)[iK,-bH,bI,aW,aH,aG];apply Z;refine zI ?_ ?_<;>intro c2<;>try simp at c2
 .refine zr q28_1 fun _ _ Z=>?_;refine zs 3 fun _ Y=>?_;simp(disch:=omega)[iK,-bH,bI,aW,aH,aG];refine⟨by first | rfl | exact⟨rfl,rfl⟩ | trivial,_,l.map D.int,⟨rfl,by simp only [bB,dK (f:=cI) (k:=1) (fun _=>rfl),cS];omega,by simp,hes,by rw [cW (f:=cI) (fun _=>rfl)];exact dB _ _,by simp;omega,by simp;omega⟩,?_⟩;and_intros<;>(try omega);apply Y;simp(disch:=omega)[iK,-bH,bI,aW,aH,aG];apply Z;apply aD;obtain rfl:i=l.length:=by omega
  simp [aJ,fP]
 apply zA;apply aF;refine zr q28_1 fun _ _ Z=>?_;simp(disch:=omega)[iK,-bH,bI,aW,aH,aG];and_intros<;>(try omega);apply Z;refine zI ?_ ?_<;>intro c3<;>try simp at c3
 .refine zk [0,1,2,6,7,8] ?_;refine zr q28_1 fun _ _ Z=>?_;refine zs 8 fun _ Y=>?_;simp(disch:=omega)[iK,-bH,bI,aW,aH,aG];and_intros<;>(try omega);apply Y;refine zs 1 fun _ Y=>?_;simp(disch:=omega)[iK,-bH,bI,aW,aH,aG];refine⟨(l.take i).map D.int,⟨⟨by simp;omega,by first | exact Fk (f:=cI) (fun _=>rfl) l i | exact Ds (f:=cI) (fun _=>rfl) l i _⟩,(mS (d:=D.int) (fun _=>⟨rfl,rfl⟩) _),by omega,by omega,by omega,by omega,by first | rfl | exact⟨rfl,rfl⟩ | trivial⟩,?_⟩;and_intros<;>(try omega);apply Y;simp(disch:=omega)[iK,-bH,bI,aW,aH,aG];apply Z;refine sE 9 1 rfl (by decide) fun cap2 rest2 hcap2 hcm2 hrest2 hk2 hes2=>?_;simp only [bB,bU,bG,cS,kL hi] at hcap2 hrest2 |-;rw [gV,show List.flatMap D.cells (List.take i (List.map D.int l))=(l.take i).flatMap cI from by rw [<- yL];exact cW (f:=cI) (fun _=>rfl) _];simp only [bV];have hR:((List.replicate (l.length+1 - i) (vQ 1 #[.int .i64 0])).flatMap D.cells++rest2).length=(cap2 - i) * 1:=by rw [bB,Su (k:=1) rfl,hrest2];omega
  generalize (List.replicate (l.length+1 - i) (vQ 1 #[.int .i64 0])).flatMap D.cells++rest2=R at hR |-;refine zk [0,1,2,6,7,8,9] ?_;refine zr q28_1 fun _ _ Z=>?_;simp(disch:=omega)[iK,-bH,bI,aW,aH,aG];have hlt:i<l.length:=by omega
  refine⟨by omega, [D.int x],_,⟨rfl,(fun y hy=>by simp only [fG] at hy;subst hy;exact⟨rfl,rfl⟩),rfl,by simp only [bB,dK (f:=cI) (k:=1) (fun _=>rfl),show ∀a,(cI a).length=1 from fun _=>rfl,cS,bU,dG,bG,bR,dC] at *;omega⟩,?_⟩;rw [show min [D.int x].length (l.length+1 - i)=1 by first | (simp;done) | (simp;omega),show List.flatMap D.cells (List.take 1 [D.int x])=cI x from rfl];have row:=Jo (f:=cI) (k:=1) (fun _=>rfl) l i x R hlt (by rw [hR];omega);simp only [sD] at row;rw [row];clear row;have hR3:(R.drop 1).length=(cap2 - i - 1) * 1:=by rw [dG,hR];omega
  generalize R.drop 1=R3 at hR3 |-;and_intros<;>(try omega);apply Z;refine zk [0,1,2,6,7,8,9] ?_;refine zd q28_1 [.op {},.op {},.op {},.op {},.op {},.op {},.op {},.op {},.op {rO:=true,wO:=true}] fun all hall _ Z=>?_;refine lY 8 fun _ Y=>?_;simp(disch:=omega)[iK,-bH,bI,aW,aH,aG];and_intros<;>(try omega);apply Y;simp(disch:=omega)[iK,-bH,bI,aW,aH,aG];refine⟨(l.drop i).map D.int,_,⟨⟨by simp,by have:=Lu (f:=cI) (d:=D.int) (k:=1) (fun _=>rfl) (fun _=>rfl) l i 0 hlt;first | exact this | simpa using this⟩,(mS (d:=D.int) (fun _=>⟨rfl,rfl⟩) _),rfl,by simp only [bB,dK (f:=cI) (k:=1) (fun _=>rfl),show ∀a,(cI a).length=1 from fun _=>rfl,cS,bU,dG,bG,bR,dC] at *;omega⟩,?_⟩;rw [show min ((l.drop i).map D.int).length (l.length - i)=l.length - i by simp,bZ (show((l.drop i).map D.int).length<=l.length - i by simp)];have row:=Jz (f:=cI) (d:=D.int) (k:=1) (fun _=>rfl) (fun _=>rfl) l i x R3 hlt (by rw [hR3];omega);simp only [sD] at row;rw [row];clear row;have hR4:(R3.drop ((l.length - i) * 1)).length=(cap2 - i - 1 - (l.length - i)) * 1:=by rw [dG,hR3];omega
  simp only [sD] at hR4;generalize R3.drop _=R4 at hR4 |-;and_intros<;>(try omega);apply Z;refine zk [0,1,2,6,7,8,9] ?_;refine zr q28_1 fun _ _ Z=>?_;simp(disch:=omega)[iK,-bH,bI,aW,aH,aG];apply Z;refine fK 6 1 (σ.length+1) (l.length+1) cap2 ((fP l i x).map D.int) ((fP l i x).flatMap cI++R4) (by simp <;> rfl) (by simp [bI,aH]) (by omega) (by have:=jW l i x hi;simp only [bB,dK (f:=cI) (k:=1) (fun _=>rfl),this] at *;omega) (by simp [jW l i x hi]) (mS (d:=D.int) (fun _=>⟨rfl,rfl⟩) _) (by rw [cW (f:=cI) (fun _=>rfl)];exact dB _ _) ?_;apply aD;simp [aJ]
 apply zA;refine zk [0,1,2,6,7,8] ?_;refine zr q28_1 fun _ _ Z=>?_;simp(disch:=omega)[iK,-bH,bI,aW,aH,aG];and_intros<;>(try omega);apply Z;apply aF;refine zk [0,1,2,6,7,8] ?_;refine zr q28_1 fun _ _ Z=>?_;simp(disch:=omega)[iK,-bH,bI,aW,aH,aG];and_intros<;>(try omega);apply Z;refine zI ?_ ?_<;>intro c4<;>try simp at c4
 refine zk [0,1,2,6,7,8] ?_;refine zd q28_1 [.op {},.op {},.op {},.op {},.op {},.op {},.op {},.op {},.op {rO:=true,wO:=true}] fun all hall _ Z=>?_;refine lY 8 fun _ Y=>?_;simp(disch:=omega)[iK,-bH,bI,aW,aH,aG];and_intros<;>(try omega);apply Y;simp(disch:=omega)[iK,-bH,bI,aW,aH,aG];have hlt:i<l.length:=by omega
 refine⟨(l.drop i).map D.int++ [Dy 1],_,⟨⟨by first | (simp;done) | (simp;omega),by have:=Tf (f:=cI) (d:=D.int) (k:=1) (fun _=>rfl) (fun _=>rfl) l i ((cap - l.length) * 1) hlt (show 1<=((cap - l.length) * 1) by omega);first | exact this | simpa using this⟩,aAp (d:=D.int) (fun _=>⟨rfl,rfl⟩) _,rfl,by simp only [bB,dK (f:=cI) (k:=1) (fun _=>rfl),show ∀a,(cI a).length=1 from fun _=>rfl,cS,bU,dG,bG,bR,dC] at *;omega⟩,?_⟩;rw [show min ((l.drop i).map D.int++ [Dy 1]).length (l.length - i)=l.length - i by first | (simp;done) | (simp;omega)];have row:=Kv (f:=cI) (d:=D.int) (k:=1) (fun _=>rfl) (fun _=>rfl) l i ((cap - l.length) * 1) hlt (show 1<=((cap - l.length) * 1) by omega);simp only [sD] at row;rw [row];clear row;have hR:(List.replicate (((cap - l.length) * 1) - 1) D.any).length=((cap - l.length) * 1) - 1:=cS;simp only [sD] at hR;generalize List.replicate _ D.any=R at hR |-;and_intros<;>(try omega);apply Z;refine zk [0,1,2,6,7,8] ?_;refine zr q28_1 fun _ _ Z=>?_;simp(disch:=omega)[iK,-bH,bI,aW,aH,aG];refine⟨by omega, [D.int x],_,⟨rfl,(fun y hy=>by simp only [fG] at hy;subst hy;exact⟨rfl,rfl⟩),rfl,by simp only [bB,dK (f:=cI) (k:=1) (fun _=>rfl),show ∀a,(cI a).length=1 from fun _=>rfl,cS,bU,dG,bG,bR,dC] at *;omega⟩,?_⟩;rw [show min [D.int x].length (l.length+1 - i)=1 by first | (simp;done) | (simp;omega),show List.flatMap D.cells (List.take 1 [D.int x])=cI x from rfl];have row:=Lj (f:=cI) (k:=1) (fun _=>rfl) l i x R hlt;simp only [sD] at row;rw [row];clear row;and_intros<;>(try omega);apply Z;refine zr q28_1 fun _ _ Z=>?_;simp(disch:=omega)[iK,-bH,bI,aW,aH,aG];apply Z;refine fK 6 1 σ.length (l.length+1) cap ((fP l i x).map D.int) ((fP l i x).flatMap cI++R) (by simp <;> rfl) (by simp [bI,aH]) (by omega) (by have:=jW l i x hi;simp only [bB,dK (f:=cI) (k:=1) (fun _=>rfl),this] at *;omega) (by simp [jW l i x hi]) (mS (d:=D.int) (fun _=>⟨rfl,rfl⟩) _) (by rw [cW (f:=cI) (fun _=>rfl)];exact dB _ _) ?_;apply aD;simp [aJ]
theorem aY8(N:Nat)(l:List Int):Sc N (.xs 1 (l.map D.int)):=Sc.xs fun e he y hy=>by
 obtain⟨a,_,rfl⟩:=aX.1 he;simp only [D.cells,bQ,gS,gW] at hy;subst hy <;> exact Sc.v _
theorem aPy(l:List Int)(x:Int)(i:Nat)(σ:List (List D))(hl:l.length<=1000000)(hi:i<=l.length):Ct prog 205 [.xs 1 (l.map D.int),D.int i,.sl true [D.int x]] σ (fun r σ'=>r= .xs 1 ((fP l i x).map D.int)/\σ'=σ):=
 (aJb l x i σ hl hi).trim fun r σ' ⟨hr,J,hs⟩=>⟨σ,J,hs,rfl,by rw [hr];exact aY8 _ _,fun n cs h=> .inl h,hr,rfl⟩
theorem iL:Sa prog 249:=by
 obtain⟨ti,zv,h1,h2,_⟩:=jI aYx;exact⟨_,36,4,191,ti,func249,by kernel_rfl,by kernel_rfl,by kernel_rfl,by kernel_rfl,h1,h2⟩
theorem aIa(l:List AT)(x:AT)(i:Nat)(σ:List (List D))(hl:l.length<=1000000)(hi:i<=l.length):Ct prog 224 [.xs 2 (l.map cY),D.int i,.sl true [cY x]] σ (fun r σ'=>r= .xs 2 ((fP l i x).map cY)/\∃J,σ'=σ++J):=by
 refine zf func224 ?_;refine iQ 0 2 rfl (by decide) fun cap rest hcap hcm hrest hk0 hes=>?_;subst hrest;simp only [bU] at hcap |-;rw [cW (f:=cA) (fun _=>rfl)];refine zr q28_1 fun _ _ Z=>?_;simp(disch:=omega)[iL,-bH,bI,aW,aH,aG];apply Z;refine zr q28_1 fun _ _ Z=>?_;simp(disch:=omega)[iL,-bH,bI,aW,aH,aG];and_intros<;>(try omega);apply Z;refine zr q28_1 fun _ _ Z=>?_;simp(disch:=omega)[iL,-bH,bI,aW,aH,aG];and_intros<;>(try omega);apply Z;apply aF;refine zr q28_1 fun _ _ Z=>?_;simp(disch:=omega)[iL,-bH,bI,aW,aH,aG];apply Z;refine zI ?_ ?_<;>intro c1<;>try simp at c1
 apply zA;refine zr q28_1 fun _ _ Z=>?_;simp(disch:=omega)[iL,-bH,bI,aW,aH,aG];and_intros<;>(try omega);apply Z;apply aF;refine zk [0,1,2,6,7,8] ?_;refine zr q28_1 fun _ _ Z=>?_;simp(disch:=omega)[iL,-bH,bI,aW,aH,aG];apply Z;refine zI ?_ ?_<;>intro c2<;>try simp at c2
 .refine zr q28_1 fun _ _ Z=>?_;refine zs 3 fun _ Y=>?_;simp(disch:=omega)[iL,-bH,bI,aW,aH,aG];refine⟨by first | rfl | exact⟨rfl,rfl⟩ | trivial,_,l.map cY,⟨rfl,by simp only [bB,dK (f:=cA) (k:=2) (fun _=>rfl),cS];omega,by simp,hes,by rw [cW (f:=cA) (fun _=>rfl)];exact dB _ _,by simp;omega,by simp;omega⟩,?_⟩;and_intros<;>(try omega);apply Y;simp(disch:=omega)[iL,-bH,bI,aW,aH,aG];apply Z;apply aD;obtain rfl:i=l.length:=by omega
  simp [aJ,fP]
 apply zA;apply aF;refine zr q28_1 fun _ _ Z=>?_;simp(disch:=omega)[iL,-bH,bI,aW,aH,aG];and_intros<;>(try omega);apply Z;refine zI ?_ ?_<;>intro c3<;>try simp at c3
 .refine zk [0,1,2,6,7,8] ?_;refine zr q28_1 fun _ _ Z=>?_;refine zs 8 fun _ Y=>?_;simp(disch:=omega)[iL,-bH,bI,aW,aH,aG];and_intros<;>(try omega);apply Y;refine zs 1 fun _ Y=>?_;simp(disch:=omega)[iL,-bH,bI,aW,aH,aG];refine⟨(l.take i).map cY,⟨⟨by simp;omega,by first | exact Fk (f:=cA) (fun _=>rfl) l i | exact Ds (f:=cA) (fun _=>rfl) l i _⟩,(mS (d:=cY) (fun _=>⟨rfl,rfl⟩) _),by omega,by omega,by omega,by omega,by first | rfl | exact⟨rfl,rfl⟩ | trivial⟩,?_⟩;and_intros<;>(try omega);apply Y;simp(disch:=omega)[iL,-bH,bI,aW,aH,aG];apply Z;refine sE 9 2 rfl (by decide) fun cap2 rest2 hcap2 hcm2 hrest2 hk2 hes2=>?_;simp only [bB,bU,bG,cS,kL hi] at hcap2 hrest2 |-;rw [gV,show List.flatMap D.cells (List.take i (List.map cY l))=(l.take i).flatMap cA from by rw [<- yL];exact cW (f:=cA) (fun _=>rfl) _];simp only [bV];have hR:((List.replicate (l.length+1 - i) (vQ 2 #[.string ⟨#[]⟩,.string ⟨#[]⟩])).flatMap D.cells++rest2).length=(cap2 - i) * 2:=by rw [bB,Su (k:=2) rfl,hrest2];omega
  generalize (List.replicate (l.length+1 - i) (vQ 2 #[.string ⟨#[]⟩,.string ⟨#[]⟩])).flatMap D.cells++rest2=R at hR |-;refine zk [0,1,2,6,7,8,9] ?_;refine zr q28_1 fun _ _ Z=>?_;simp(disch:=omega)[iL,-bH,bI,aW,aH,aG];have hlt:i<l.length:=by omega
  refine⟨by omega, [cY x],_,⟨rfl,(fun y hy=>by simp only [fG] at hy;subst hy;exact⟨rfl,rfl⟩),rfl,by simp only [bB,dK (f:=cA) (k:=2) (fun _=>rfl),show ∀a,(cA a).length=2 from fun _=>rfl,cS,bU,dG,bG,bR,dC] at *;omega⟩,?_⟩;rw [show min [cY x].length (l.length+1 - i)=1 by first | (simp;done) | (simp;omega),show List.flatMap D.cells (List.take 1 [cY x])=cA x from rfl];have row:=Jo (f:=cA) (k:=2) (fun _=>rfl) l i x R hlt (by rw [hR];omega)
  skip
  rw [row];clear row;have hR3:(R.drop 2).length=(cap2 - i - 1) * 2:=by rw [dG,hR];omega
  generalize R.drop 2=R3 at hR3 |-;and_intros<;>(try omega);apply Z;refine zk [0,1,2,6,7,8,9] ?_;refine zd q28_1 [.op {},.op {},.op {},.op {},.op {},.op {},.op {},.op {},.op {rO:=true,wO:=true}] fun all hall _ Z=>?_;refine lY 8 fun _ Y=>?_;simp(disch:=omega)[iL,-bH,bI,aW,aH,aG];and_intros<;>(try omega);apply Y;simp(disch:=omega)[iL,-bH,bI,aW,aH,aG];refine⟨(l.drop i).map cY,_,⟨⟨by simp,by have:=Lu (f:=cA) (d:=cY) (k:=2) (fun _=>rfl) (fun _=>rfl) l i 0 hlt;first | exact this | simpa using this⟩,(mS (d:=cY) (fun _=>⟨rfl,rfl⟩) _),rfl,by simp only [bB,dK (f:=cA) (k:=2) (fun _=>rfl),show ∀a,(cA a).length=2 from fun _=>rfl,cS,bU,dG,bG,bR,dC] at *;omega⟩,?_⟩;rw [show min ((l.drop i).map cY).length (l.length - i)=l.length - i by simp,bZ (show((l.drop i).map cY).length<=l.length - i by simp)];have row:=Jz (f:=cA) (d:=cY) (k:=2) (fun _=>rfl) (fun _=>rfl) l i x R3 hlt (by rw [hR3];omega)
  skip
  rw [row];clear row;have hR4:(R3.drop ((l.length - i) * 2)).length=(cap2 - i - 1 - (l.length - i)) * 2:=by rw [dG,hR3];omega
  generalize R3.drop _=R4 at hR4 |-;and_intros<;>(try omega);apply Z;refine zk [0,1,2,6,7,8,9] ?_;refine zr q28_1 fun _ _ Z=>?_;simp(disch:=omega)[iL,-bH,bI,aW,aH,aG];apply Z;refine fK 6 2 (σ.length+1) (l.length+1) cap2 ((fP l i x).map cY) ((fP l i x).flatMap cA++R4) (by simp <;> rfl) (by simp [bI,aH]) (by omega) (by have:=jW l i x hi;simp only [bB,dK (f:=cA) (k:=2) (fun _=>rfl),this] at *;omega) (by simp [jW l i x hi]) (mS (d:=cY) (fun _=>⟨rfl,rfl⟩) _) (by rw [cW (f:=cA) (fun _=>rfl)];exact dB _ _) ?_;apply aD;simp [aJ]
 apply zA;refine zk [0,1,2,6,7,8] ?_;refine zr q28_1 fun _ _ Z=>?_;simp(disch:=omega)[iL,-bH,bI,aW,aH,aG];and_intros<;>(try omega);apply Z;apply aF;refine zk [0,1,2,6,7,8] ?_;refine zr q28_1 fun _ _ Z=>?_;simp(disch:=omega)[iL,-bH,bI,aW,aH,aG];and_intros<;>(try omega);apply Z;refine zI ?_ ?_<;>intro c4<;>try simp at c4
 refine zk [0,1,2,6,7,8] ?_;refine zd q28_1 [.op {},.op {},.op {},.op {},.op {},.op {},.op {},.op {},.op {rO:=true,wO:=true}] fun all hall _ Z=>?_;refine lY 8 fun _ Y=>?_;simp(disch:=omega)[iL,-bH,bI,aW,aH,aG];and_intros<;>(try omega);apply Y;simp(disch:=omega)[iL,-bH,bI,aW,aH,aG];have hlt:i<l.length:=by omega
 refine⟨(l.drop i).map cY++ [Dy 2],_,⟨⟨by first | (simp;done) | (simp;omega),by have:=Tf (f:=cA) (d:=cY) (k:=2) (fun _=>rfl) (fun _=>rfl) l i ((cap - l.length) * 2) hlt (show 2<=((cap - l.length) * 2) by omega);first | exact this | simpa using this⟩,aAp (d:=cY) (fun _=>⟨rfl,rfl⟩) _,rfl,by simp only [bB,dK (f:=cA) (k:=2) (fun _=>rfl),show ∀a,(cA a).length=2 from fun _=>rfl,cS,bU,dG,bG,bR,dC] at *;omega⟩,?_⟩;rw [show min ((l.drop i).map cY++ [Dy 2]).length (l.length - i)=l.length - i by first | (simp;done) | (simp;omega)];have row:=Kv (f:=cA) (d:=cY) (k:=2) (fun _=>rfl) (fun _=>rfl) l i ((cap - l.length) * 2) hlt (show 2<=((cap - l.length) * 2) by omega)
 skip
 rw [row];clear row;have hR:(List.replicate (((cap - l.length) * 2) - 2) D.any).length=((cap - l.length) * 2) - 2:=cS;generalize List.replicate _ D.any=R at hR |-;and_intros<;>(try omega);apply Z;refine zk [0,1,2,6,7,8] ?_;refine zr q28_1 fun _ _ Z=>?_;simp(disch:=omega)[iL,-bH,bI,aW,aH,aG];refine⟨by omega, [cY x],_,⟨rfl,(fun y hy=>by simp only [fG] at hy;subst hy;exact⟨rfl,rfl⟩),rfl,by simp only [bB,dK (f:=cA) (k:=2) (fun _=>rfl),show ∀a,(cA a).length=2 from fun _=>rfl,cS,bU,dG,bG,bR,dC] at *;omega⟩,?_⟩;rw [show min [cY x].length (l.length+1 - i)=1 by first | (simp;done) | (simp;omega),show List.flatMap D.cells (List.take 1 [cY x])=cA x from rfl];have row:=Lj (f:=cA) (k:=2) (fun _=>rfl) l i x R hlt
 skip
 rw [row];clear row;and_intros<;>(try omega);apply Z;refine zr q28_1 fun _ _ Z=>?_;simp(disch:=omega)[iL,-bH,bI,aW,aH,aG];apply Z;refine fK 6 2 σ.length (l.length+1) cap ((fP l i x).map cY) ((fP l i x).flatMap cA++R) (by simp <;> rfl) (by simp [bI,aH]) (by omega) (by have:=jW l i x hi;simp only [bB,dK (f:=cA) (k:=2) (fun _=>rfl),this] at *;omega) (by simp [jW l i x hi]) (mS (d:=cY) (fun _=>⟨rfl,rfl⟩) _) (by rw [cW (f:=cA) (fun _=>rfl)];exact dB _ _) ?_;apply aD;simp [aJ]
theorem aS7(N:Nat)(l:List AT):Sc N (.xs 2 (l.map cY)):=Sc.xs fun e he y hy=>by
 obtain⟨a,_,rfl⟩:=aX.1 he;simp only [D.cells,bQ,gS,gW] at hy;rcases hy with rfl | rfl <;> exact Sc.v _
theorem aOe(l:List AT)(x:AT)(i:Nat)(σ:List (List D))(hl:l.length<=1000000)(hi:i<=l.length):Ct prog 224 [.xs 2 (l.map cY),D.int i,.sl true [cY x]] σ (fun r σ'=>r= .xs 2 ((fP l i x).map cY)/\σ'=σ):=
 (aIa l x i σ hl hi).trim fun r σ' ⟨hr,J,hs⟩=>⟨σ,J,hs,rfl,by rw [hr];exact aS7 _ _,fun n cs h=> .inl h,hr,rfl⟩
theorem iJ:Sa prog 251:=by
 obtain⟨ti,zv,h1,h2,_⟩:=jI aYz;exact⟨_,38,4,137,ti,func251,by kernel_rfl,by kernel_rfl,by kernel_rfl,by kernel_rfl,h1,h2⟩
theorem aN2(l:List PI)(x:PI)(i:Nat)(σ:List (List D))(hl:l.length<=1000000)(hi:i<=l.length):Ct prog 225 [.xs 2 (l.map cR),D.int i,.sl true [cR x]] σ (fun r σ'=>r= .xs 2 ((fP l i x).map cR)/\∃J,σ'=σ++J):=by
 refine zf func225 ?_;refine iQ 0 2 rfl (by decide) fun cap rest hcap hcm hrest hk0 hes=>?_;subst hrest;simp only [bU] at hcap |-;rw [cW (f:=cP) (fun _=>rfl)];refine zr q28_1 fun _ _ Z=>?_;simp(disch:=omega)[iJ,-bH,bI,aW,aH,aG];apply Z;refine zr q28_1 fun _ _ Z=>?_;simp(disch:=omega)[iJ,-bH,bI,aW,aH,aG];and_intros<;>(try omega);apply Z;refine zr q28_1 fun _ _ Z=>?_;simp(disch:=omega)[iJ,-bH,bI,aW,aH,aG];and_intros<;>(try omega);apply Z;apply aF;refine zr q28_1 fun _ _ Z=>?_;simp(disch:=omega)[iJ,-bH,bI,aW,aH,aG];apply Z;refine zI ?_ ?_<;>intro c1<;>try simp at c1
 apply zA;refine zr q28_1 fun _ _ Z=>?_;simp(disch:=omega)[iJ,-bH,bI,aW,aH,aG];and_intros<;>(try omega);apply Z;apply aF;refine zk [0,1,2,6,7,8] ?_;refine zr q28_1 fun _ _ Z=>?_;simp(disch:=omega)[iJ,-bH,bI,aW,aH,aG];apply Z;refine zI ?_ ?_<;>intro c2<;>try simp at c2
 .refine zr q28_1 fun _ _ Z=>?_;refine zs 3 fun _ Y=>?_;simp(disch:=omega)[iJ,-bH,bI,aW,aH,aG];refine⟨by first | rfl | exact⟨rfl,rfl⟩ | trivial,_,l.map cR,⟨rfl,by simp only [bB,dK (f:=cP) (k:=2) (fun _=>rfl),cS];omega,by simp,hes,by rw [cW (f:=cP) (fun _=>rfl)];exact dB _ _,by simp;omega,by simp;omega⟩,?_⟩;and_intros<;>(try omega);apply Y;simp(disch:=omega)[iJ,-bH,bI,aW,aH,aG];apply Z;apply aD;obtain rfl:i=l.length:=by omega
  simp [aJ,fP]
 apply zA;apply aF;refine zr q28_1 fun _ _ Z=>?_;simp(disch:=omega)[iJ,-bH,bI,aW,aH,aG];and_intros<;>(try omega);apply Z;refine zI ?_ ?_<;>intro c3<;>try simp at c3
 .refine zk [0,1,2,6,7,8] ?_;refine zr q28_1 fun _ _ Z=>?_;refine zs 8 fun _ Y=>?_;simp(disch:=omega)[iJ,-bH,bI,aW,aH,aG];and_intros<;>(try omega);apply Y;refine zs 1 fun _ Y=>?_;simp(disch:=omega)[iJ,-bH,bI,aW,aH,aG];refine⟨(l.take i).map cR,⟨⟨by simp;omega,by first | exact Fk (f:=cP) (fun _=>rfl) l i | exact Ds (f:=cP) (fun _=>rfl) l i _⟩,(mS (d:=cR) (fun _=>⟨rfl,rfl⟩) _),by omega,by omega,by omega,by omega,by first | rfl | exact⟨rfl,rfl⟩ | trivial⟩,?_⟩;and_intros<;>(try omega);apply Y;simp(disch:=omega)[iJ,-bH,bI,aW,aH,aG];apply Z;refine sE 9 2 rfl (by decide) fun cap2 rest2 hcap2 hcm2 hrest2 hk2 hes2=>?_;simp only [bB,bU,bG,cS,kL hi] at hcap2 hrest2 |-;rw [gV,show List.flatMap D.cells (List.take i (List.map cR l))=(l.take i).flatMap cP from by rw [<- yL];exact cW (f:=cP) (fun _=>rfl) _];simp only [bV];have hR:((List.replicate (l.length+1 - i) (vQ 2 #[.string ⟨#[]⟩,.int .i64 0])).flatMap D.cells++rest2).length=(cap2 - i) * 2:=by rw [bB,Su (k:=2) rfl,hrest2];omega
  generalize (List.replicate (l.length+1 - i) (vQ 2 #[.string ⟨#[]⟩,.int .i64 0])).flatMap D.cells++rest2=R at hR |-;refine zk [0,1,2,6,7,8,9] ?_;refine zr q28_1 fun _ _ Z=>?_;simp(disch:=omega)[iJ,-bH,bI,aW,aH,aG];have hlt:i<l.length:=by omega
  refine⟨by omega, [cR x],_,⟨rfl,(fun y hy=>by simp only [fG] at hy;subst hy;exact⟨rfl,rfl⟩),rfl,by simp only [bB,dK (f:=cP) (k:=2) (fun _=>rfl),show ∀a,(cP a).length=2 from fun _=>rfl,cS,bU,dG,bG,bR,dC] at *;omega⟩,?_⟩;rw [show min [cR x].length (l.length+1 - i)=1 by first | (simp;done) | (simp;omega),show List.flatMap D.cells (List.take 1 [cR x])=cP x from rfl];have row:=Jo (f:=cP) (k:=2) (fun _=>rfl) l i x R hlt (by rw [hR];omega)
  skip
  rw [row];clear row;have hR3:(R.drop 2).length=(cap2 - i - 1) * 2:=by rw [dG,hR];omega
  generalize R.drop 2=R3 at hR3 |-;and_intros<;>(try omega);apply Z;refine zk [0,1,2,6,7,8,9] ?_;refine zd q28_1 [.op {},.op {},.op {},.op {},.op {},.op {},.op {},.op {},.op {rO:=true,wO:=true}] fun all hall _ Z=>?_;refine lY 8 fun _ Y=>?_;simp(disch:=omega)[iJ,-bH,bI,aW,aH,aG];and_intros<;>(try omega);apply Y;simp(disch:=omega)[iJ,-bH,bI,aW,aH,aG];refine⟨(l.drop i).map cR,_,⟨⟨by simp,by have:=Lu (f:=cP) (d:=cR) (k:=2) (fun _=>rfl) (fun _=>rfl) l i 0 hlt;first | exact this | simpa using this⟩,(mS (d:=cR) (fun _=>⟨rfl,rfl⟩) _),rfl,by simp only [bB,dK (f:=cP) (k:=2) (fun _=>rfl),show ∀a,(cP a).length=2 from fun _=>rfl,cS,bU,dG,bG,bR,dC] at *;omega⟩,?_⟩;rw [show min ((l.drop i).map cR).length (l.length - i)=l.length - i by simp,bZ (show((l.drop i).map cR).length<=l.length - i by simp)];have row:=Jz (f:=cP) (d:=cR) (k:=2) (fun _=>rfl) (fun _=>rfl) l i x R3 hlt (by rw [hR3];omega)
  skip
  rw [row];clear row;have hR4:(R3.drop ((l.length - i) * 2)).length=(cap2 - i - 1 - (l.length - i)) * 2:=by rw [dG,hR3];omega
  generalize R3.drop _=R4 at hR4 |-;and_intros<;>(try omega);apply Z;refine zk [0,1,2,6,7,8,9] ?_;refine zr q28_1 fun _ _ Z=>?_;simp(disch:=omega)[iJ,-bH,bI,aW,aH,aG];apply Z;refine fK 6 2 (σ.length+1) (l.length+1) cap2 ((fP l i x).map cR) ((fP l i x).flatMap cP++R4) (by simp <;> rfl) (by simp [bI,aH]) (by omega) (by have:=jW l i x hi;simp only [bB,dK (f:=cP) (k:=2) (fun _=>rfl),this] at *;omega) (by simp [jW l i x hi]) (mS (d:=cR) (fun _=>⟨rfl,rfl⟩) _) (by rw [cW (f:=cP) (fun _=>rfl)];exact dB _ _) ?_;apply aD;simp [aJ]
 apply zA;refine zk [0,1,2,6,7,8] ?_;refine zr q28_1 fun _ _ Z=>?_;simp(disch:=omega)[iJ,-bH,bI,aW,aH,aG];and_intros<;>(try omega);apply Z;apply aF;refine zk [0,1,2,6,7,8] ?_;refine zr q28_1 fun _ _ Z=>?_;simp(disch:=omega)[iJ,-bH,bI,aW,aH,aG];and_intros<;>(try omega);apply Z;refine zI ?_ ?_<;>intro c4<;>try simp at c4
 refine zk [0,1,2,6,7,8] ?_;refine zd q28_1 [.op {},.op {},.op {},.op {},.op {},.op {},.op {},.op {},.op {rO:=true,wO:=true}] fun all hall _ Z=>?_;refine lY 8 fun _ Y=>?_;simp(disch:=omega)[iJ,-bH,bI,aW,aH,aG];and_intros<;>(try omega);apply Y;simp(disch:=omega)[iJ,-bH,bI,aW,aH,aG];have hlt:i<l.length:=by omega
 refine⟨(l.drop i).map cR++ [Dy 2],_,⟨⟨by first | (simp;done) | (simp;omega),by have:=Tf (f:=cP) (d:=cR) (k:=2) (fun _=>rfl) (fun _=>rfl) l i ((cap - l.length) * 2) hlt (show 2<=((cap - l.length) * 2) by omega);first | exact this | simpa using this⟩,aAp (d:=cR) (fun _=>⟨rfl,rfl⟩) _,rfl,by simp only [bB,dK (f:=cP) (k:=2) (fun _=>rfl),show ∀a,(cP a).length=2 from fun _=>rfl,cS,bU,dG,bG,bR,dC] at *;omega⟩,?_⟩;rw [show min ((l.drop i).map cR++ [Dy 2]).length (l.length - i)=l.length - i by first | (simp;done) | (simp;omega)];have row:=Kv (f:=cP) (d:=cR) (k:=2) (fun _=>rfl) (fun _=>rfl) l i ((cap - l.length) * 2) hlt (show 2<=((cap - l.length) * 2) by omega)
 skip
 rw [row];clear row;have hR:(List.replicate (((cap - l.length) * 2) - 2) D.any).length=((cap - l.length) * 2) - 2:=cS;generalize List.replicate _ D.any=R at hR |-;and_intros<;>(try omega);apply Z;refine zk [0,1,2,6,7,8] ?_;refine zr q28_1 fun _ _ Z=>?_;simp(disch:=omega)[iJ,-bH,bI,aW,aH,aG];refine⟨by omega, [cR x],_,⟨rfl,(fun y hy=>by simp only [fG] at hy;subst hy;exact⟨rfl,rfl⟩),rfl,by simp only [bB,dK (f:=cP) (k:=2) (fun _=>rfl),show ∀a,(cP a).length=2 from fun _=>rfl,cS,bU,dG,bG,bR,dC] at *;omega⟩,?_⟩;rw [show min [cR x].length (l.length+1 - i)=1 by first | (simp;done) | (simp;omega),show List.flatMap D.cells (List.take 1 [cR x])=cP x from rfl];have row:=Lj (f:=cP) (k:=2) (fun _=>rfl) l i x R hlt
 skip
 rw [row];clear row;and_intros<;>(try omega);apply Z;refine zr q28_1 fun _ _ Z=>?_;simp(disch:=omega)[iJ,-bH,bI,aW,aH,aG];apply Z;refine fK 6 2 σ.length (l.length+1) cap ((fP l i x).map cR) ((fP l i x).flatMap cP++R) (by simp <;> rfl) (by simp [bI,aH]) (by omega) (by have:=jW l i x hi;simp only [bB,dK (f:=cP) (k:=2) (fun _=>rfl),this] at *;omega) (by simp [jW l i x hi]) (mS (d:=cR) (fun _=>⟨rfl,rfl⟩) _) (by rw [cW (f:=cP) (fun _=>rfl)];exact dB _ _) ?_;apply aD;simp [aJ]
theorem aUc(N:Nat)(l:List PI):Sc N (.xs 2 (l.map cR)):=Sc.xs fun e he y hy=>by
 obtain⟨a,_,rfl⟩:=aX.1 he;simp only [D.cells,bQ,gS,gW] at hy;rcases hy with rfl | rfl <;> exact Sc.v _
theorem aQn(l:List PI)(x:PI)(i:Nat)(σ:List (List D))(hl:l.length<=1000000)(hi:i<=l.length):Ct prog 225 [.xs 2 (l.map cR),D.int i,.sl true [cR x]] σ (fun r σ'=>r= .xs 2 ((fP l i x).map cR)/\σ'=σ):=
 (aN2 l x i σ hl hi).trim fun r σ' ⟨hr,J,hs⟩=>⟨σ,J,hs,rfl,by rw [hr];exact aUc _ _,fun n cs h=> .inl h,hr,rfl⟩
attribute [simp] cA
theorem aAy(l:List AT):(l.map cY).flatMap D.cells=l.flatMap cA:=cW (fun _=>rfl) l
theorem aRw(l:List AT):∀d∈l.map cY,d.ncells=2/\d.arr=true:=by
 intro d hd;obtain⟨a,_,rfl⟩:=aX.1 hd;exact⟨rfl,rfl⟩
@[simp high] theorem aZo(l:List AT):(l.flatMap cA).length=l.length * 2:=dK (f:=cA) (fun _=>rfl) l
@[simp high] theorem bAg(l:List AT)(rest:List D)(i:Nat)(h:i<l.length):At true 2 ((l.flatMap cA++rest).drop (i * 2))=some (.agg (cA l[i])):=aB3 (f:=cA) (fun _=>rfl) l rest i h
@[simp high] theorem bA0(l:List AT)(rest:List D)(i:Nat)(x:AT)(h:i<l.length):dZ (l.flatMap cA++rest) (i * 2) [D.str x.name,D.str x.value]=(l.set i x).flatMap cA++rest:=Ik (f:=cA) (fun _=>rfl) l rest i x h
theorem lK(p:AT->Bool)(l:List AT)(j:Nat)(rest:List D):dZ ((ar p l j).flatMap cA++rest) ((kp p l j).length * 2) (jJ #[.string ⟨#[]⟩,.string ⟨#[]⟩] (l.length - (kp p l j).length))=(kp p l j).flatMap cA++(jJ #[.string ⟨#[]⟩,.string ⟨#[]⟩] (l.length - (kp p l j).length)++rest):=by
 have hz:(jJ #[.string ⟨#[]⟩,.string ⟨#[]⟩] (l.length - (kp p l j).length)).length=((l.drop (kp p l j).length).flatMap cA).length:=by
  rw [dK (f:=cA) (k:=2) (fun _=>rfl),jY (k:=2) rfl,dG]
 have hk:((kp p l j).flatMap cA).length=(kp p l j).length * 2:=dK (f:=cA) (fun _=>rfl) _;unfold ar;rw [gV,bV,<- hk,oR _ _ _ _ hz]
theorem Zm(l:List AT)(p:AT->Bool)(f:FuncId)(caps:List D)(m cap:Nat)(rest:List D)(σ:List (List D))(hl:l.length<=9223372036854775807)(hσ:σ[m]?=some (l.flatMap cA++rest))(hcp:∀d∈caps,d.plain=true)(hcs:caps.map D.strip=caps)(hp:∀x τ,Ct prog f (cY x::caps) τ (fun r τ'=>r= .bool (p x)/\τ'=τ)):Ct prog 273 [.slo m 0 l.length cap,.clo (.func f) [] caps] σ (fun r σ'=>r= .int (wR p l)/\σ'=σ):=by
 refine zf func273 ?_;refine zr ⟨[],[],[],[7,14],[]⟩ fun _ _ Z=>?_;simp(disch:=omega)[hσ,hcs];apply Z;apply aF;refine zr ⟨[],[],[],[7,14],[]⟩ fun _ _ Z=>?_;simp(disch:=omega)[hσ,hcs];and_intros<;>(try omega);apply Z;apply aR;refine zk [0,1,4,7,8] ?_;refine bA (fun(k:Nat)=> [(8,.d (.v (.int .i64 (k:Int))))]) [4,5,8,9,10,11,12,13,14,15,16,17,18] (fun(k:Nat)=>k<=l.length/\∀x∈l.take k,p x=false) (fun(k:Nat)=>l.length - k) (0) (by simp <;> rfl) ?_ ?_ ?_
 .simp
 .simp
 rintro k ⟨hk,hh⟩;simp only [aQ,aP];refine zr ⟨[],[],[],[7,14],[]⟩ fun _ _ Z=>?_;simp(disch:=omega)[hσ,hcs];apply Z;apply aF;refine zI ?_ ?_<;>intro c1<;>try simp at c1
 .apply kB;refine zr ⟨[],[],[],[7,14],[]⟩ fun _ _ Z=>?_;simp(disch:=omega)[hσ,hcs];apply Z;refine zr ⟨[],[],[],[7,14],[]⟩ fun _ _ Z=>?_;refine zs 5 fun _ Y=>?_;simp(disch:=omega)[hσ,hcs];and_intros<;>(try omega);apply Y;refine aE fun _ Y=>?_;simp(disch:=omega)[hσ,hcs];refine⟨hcp,?_⟩;refine bS (hp l[k] _) ?_;apply Y;simp only [cX];apply Z;refine zI ?_ ?_<;>intro c2<;>try simp at c2
  .refine zk [0,1,5,7,8] ?_;refine zr ⟨[],[],[],[7,14],[]⟩ fun _ _ Z=>?_;simp(disch:=omega)[hσ,hcs];apply Z;apply aD;simp [aJ];exact(Je c1 hh c2).symm
  apply nD;refine zk [0,1,7,8] ?_;refine zt ⟨[],[],[],[7,14],[]⟩ fun _ _ Z=>?_;simp(disch:=omega)[hσ,hcs];and_intros<;>(try omega);apply Z;refine zq (k+1) ?_ ?_ ?_
  .exact⟨by omega,uH (by omega) hh c2⟩
  .try dsimp only
   omega
  simp(disch:=omega)[hσ,hcs]
 apply zE;refine zr ⟨[],[],[],[7,14],[]⟩ fun _ _ Z=>?_;simp(disch:=omega)[hσ,hcs];apply Z;apply aD;simp [aJ];rw [bZ (by omega)] at hh;exact(yZ hh).symm
@[simp] abbrev q28_2:Cfg:=⟨[4,13],[],[],[18,24,33,38,41],[]⟩
theorem Vn(l:List AT)(p:AT->Bool)(f:FuncId)(caps:List D)(σ:List (List D))(hl:l.length<=1000000)(hcp:∀d∈caps,d.plain=true)(hcs:caps.map D.strip=caps)(hp:∀x τ,Ct prog f (cY x::caps) τ (fun r τ'=>r= .bool (p x)/\τ'=τ)):Ct prog 269 [.xs 2 (l.map cY),.clo (.func f) [] caps] σ (fun r σ'=>r= .xs 2 ((l.filter fun x=> !p x).map cY)/\σ'=σ++ [[]]):=by
 refine zf func269 ?_;refine sE 0 2 rfl (by decide) fun cap rest hcap hcm hrest hk0 hes=>?_;simp only [bU] at hcap hrest |-;rw [aAy];refine zr q28_2 fun _ _ Z=>?_;simp(disch:=first|omega|assumption)[hcs,lK];apply Z;refine zr q28_2 fun _ _ Z=>?_;refine zs 2 fun _ Y=>?_;simp(disch:=first|omega|assumption)[hcs,lK];apply Y;refine aE fun _ Y=>?_;simp(disch:=first|omega|assumption)[hcs,lK];refine bS (Zm l p f caps σ.length cap rest _ (by omega) (by simp) hcp hcs hp) ?_;apply Y;simp(disch:=first|omega|assumption)[hcs,lK];apply Z;apply aF;refine zr q28_2 fun _ _ Z=>?_;simp(disch:=first|omega|assumption)[hcs,lK];apply Z;refine zI ?_ ?_<;>intro c1<;>try simp at c1
 .refine zr q28_2 fun _ _ Z=>?_;simp(disch:=first|omega|assumption)[hcs,lK];apply Z;refine fK 4 2 σ.length l.length cap (l.map cY) (l.flatMap cA++rest) (by simp <;> rfl) (by simp) (by omega) (by simp [hrest,jY (z:=#[.string ⟨#[]⟩,.string ⟨#[]⟩]) (k:=2) rfl];omega) (by simp) (aRw _) (by rw [aAy];exact dB _ _) ?_;simp only [tA];apply aD;simp [aJ];rcases Bv p l with ⟨_,h⟩ | ⟨k,h,_⟩
  .rw [h]
  omega
 obtain⟨k0,e0,e1,e2,e3⟩:=Ks c1;rw [e0];apply zA;apply aF;refine zr q28_2 fun _ _ Z=>?_;simp(disch:=first|omega|assumption)[hcs,lK];and_intros<;>try first|omega|exact rfl
 apply Z;apply aR;refine zk [0,1,4,5,6] ?_;refine kS (fun(j:Nat)=> [(5,.d (.v (.int .i64 ((kp p l j).length:Int)))),(6,.d (.v (.int .i64 (j:Int))))]) (fun(j:Nat)=> []) (fun(j:Nat)=> [(σ.length,(ar p l j).flatMap cA++rest)]) [5,6,7,16,17,18,19,20,21,22,23,24,25,26,27,28,29,30,31,32,33,34,35] (fun(j:Nat)=>j<=l.length) (fun(j:Nat)=>l.length - j) (k0+1) (by simp <;> rfl) ?_ (by simp) (by simp [e1]) ?_ ?_
 .simp [e1,e2]
 .omega
 rintro j hj;simp only [aQ,aP,lL,jP,gO,gA];have hkl:=Vt p l j hj;have hal:=Rg p l j;apply aF;refine zr q28_2 fun _ _ Z=>?_;simp(disch:=first|omega|assumption)[hcs,lK];and_intros<;>try first|omega|exact rfl
 apply Z;refine zI ?_ ?_<;>intro c2<;>try simp at c2
 .apply kB;refine zr q28_2 fun _ _ Z=>?_;simp(disch:=first|omega|assumption)[hcs,lK];and_intros<;>try first|omega|exact rfl
  apply Z;refine zk [0,1,4,5,6,7] ?_;refine zr q28_2 fun _ _ Z=>?_;refine zs 2 fun _ Y=>?_;simp(disch:=first|omega|assumption)[hcs,lK];apply Y;refine aE fun _ Y=>?_;simp(disch:=first|omega|assumption)[hcs,lK];simp only [aNp p l j (by omega)];refine⟨hcp,?_⟩;refine bS (hp l[j] _) ?_;apply Y;simp(disch:=first|omega|assumption)[hcs,lK];apply Z;refine zI ?_ ?_<;>intro c3<;>try simp at c3
  .refine zr q28_2 fun _ _ Z=>?_;simp(disch:=first|omega|assumption)[hcs,lK];and_intros<;>try first|omega|exact rfl
   apply Z;refine zk [0,1,4,5,6] ?_;refine zt q28_2 fun _ _ Z=>?_;simp(disch:=first|omega|assumption)[hcs,lK];and_intros<;>try first|omega|exact rfl
   apply Z;apply zB;refine zt q28_2 fun _ _ Z=>?_;simp(disch:=first|omega|assumption)[hcs,lK];and_intros<;>try first|omega|exact rfl
   apply Z;refine eG (j+1) ?_ ?_ (dT rfl ?_ (by simp) (by first | (simp [<- (Hv p l j (by omega) c3).1];done) | (simp [(Hv p l j (by omega) c3).1];done)))
   .omega
   .try dsimp only
    omega
   simp(disch:=first|omega|assumption)[hcs,lK,(Hv p l j (by omega) c3).2]
  apply nD;refine zt q28_2 fun _ _ Z=>?_;simp(disch:=first|omega|assumption)[hcs,lK];and_intros<;>try first|omega|exact rfl
  apply Z;refine eG (j+1) ?_ ?_ (dT rfl ?_ (by simp) (by simp [(Ch p l j (by omega) c3).1]))
  .omega
  .try dsimp only
   omega
  simp(disch:=first|omega|assumption)[hcs,lK,(Ch p l j (by omega) c3).2]
 apply zE;refine zr q28_2 fun _ _ Z=>?_;simp(disch:=first|omega|assumption)[hcs,lK];and_intros<;>try first|omega|exact rfl
 apply Z;refine zk [0,4,5] ?_;refine zr q28_2 fun _ _ Z=>?_;simp(disch:=first|omega|assumption)[hcs,lK];and_intros<;>try first|omega|exact rfl
 apply Z;refine fK 4 2 σ.length (kp p l j).length cap ((kp p l j).map cY) ((kp p l j).flatMap cA++(jJ #[.string ⟨#[]⟩,.string ⟨#[]⟩] (l.length - (kp p l j).length)++rest)) (by simp <;> rfl) (by simp) (by omega) (by simp [hrest,jY (z:=#[.string ⟨#[]⟩,.string ⟨#[]⟩]) (k:=2) rfl];omega) (by simp) (aRw _) (by rw [aAy];exact dB _ _) ?_;simp only [tA];apply aD;simp [aJ];unfold kp;rw [bZ (by omega)]
theorem Zi(l:List AT)(p:AT->Bool)(f:FuncId)(caps:List D)(σ:List (List D))(hl:l.length<=1000000)(hcp:∀d∈caps,d.plain=true)(hcs:caps.map D.strip=caps)(hp:∀x τ,Ct prog f (cY x::caps) τ (fun r τ'=>r= .bool (p x)/\τ'=τ)):
  Ct prog 269 [.xs 2 (l.map cY),.clo (.func f) [] caps] σ (fun r σ'=>r= .xs 2 ((l.filter fun x=> !p x).map cY)/\σ'=σ):=
 (Vn l p f caps σ hl hcp hcs hp).trim fun r σ' ⟨hr,hs⟩=>⟨σ, [[]],hs,rfl,by rw [hr];exact aS7 _ _,fun n cs h=> .inl h,hr,rfl⟩
theorem aFn(l:List AT)(σ:List (List D))(hl:l.length<=1000000):Ct prog 154 [.sl false (l.map cY)] σ (fun r σ'=>r= .sl true (l.map cY)/\σ'=σ):=by
 refine zf func154 ?_;refine zr ⟨[2],[],[],[],[]⟩ fun _ _ Z=>?_;simp;apply Z;apply aF;refine zr ⟨[2],[],[],[],[]⟩ fun _ _ Z=>?_;refine zs 1 fun _ Y=>?_;simp;apply Y;refine aE fun _ Y=>?_;simp;refine⟨Y _ ?_,fun e1=>Y _ ?_⟩
 .simp only [cX];apply Z;refine aV (t:=false) (by simp) (fun h=>by cases h) (fun _=>?_);apply zA;refine zr ⟨[2],[],[],[],[]⟩ fun _ _ Z=>?_;simp;and_intros<;>(try omega);apply Z;apply aD;simp [aJ]
 simp only [cX];apply Z;refine aV (t:=true) (by simp) (fun _=>?_) (fun h=>by cases h);refine zr ⟨[2],[],[],[],[]⟩ fun _ _ Z=>?_;simp;apply Z;apply aD;simp [aJ,e1]
attribute [simp] cP
theorem aAs(l:List PI):(l.map cR).flatMap D.cells=l.flatMap cP:=cW (fun _=>rfl) l
theorem aSf(l:List PI):∀d∈l.map cR,d.ncells=2/\d.arr=true:=by
 intro d hd;obtain⟨a,_,rfl⟩:=aX.1 hd;exact⟨rfl,rfl⟩
@[simp high] theorem aZ0(l:List PI):(l.flatMap cP).length=l.length * 2:=dK (f:=cP) (fun _=>rfl) l
@[simp high] theorem bAz(l:List PI)(rest:List D)(i:Nat)(h:i<l.length):At true 2 ((l.flatMap cP++rest).drop (i * 2))=some (.agg (cP l[i])):=aB3 (f:=cP) (fun _=>rfl) l rest i h
@[simp high] theorem aZ9(l:List PI)(rest:List D)(i:Nat)(x:PI)(h:i<l.length):dZ (l.flatMap cP++rest) (i * 2) [D.str x.name,D.int x.value]=(l.set i x).flatMap cP++rest:=Ik (f:=cP) (fun _=>rfl) l rest i x h
theorem lQ(p:PI->Bool)(l:List PI)(j:Nat)(rest:List D):dZ ((ar p l j).flatMap cP++rest) ((kp p l j).length * 2) (jJ #[.string ⟨#[]⟩,.int .i64 0] (l.length - (kp p l j).length))=(kp p l j).flatMap cP++(jJ #[.string ⟨#[]⟩,.int .i64 0] (l.length - (kp p l j).length)++rest):=by
 have hz:(jJ #[.string ⟨#[]⟩,.int .i64 0] (l.length - (kp p l j).length)).length=((l.drop (kp p l j).length).flatMap cP).length:=by
  rw [dK (f:=cP) (k:=2) (fun _=>rfl),jY (k:=2) rfl,dG]
 have hk:((kp p l j).flatMap cP).length=(kp p l j).length * 2:=dK (f:=cP) (fun _=>rfl) _;unfold ar;rw [gV,bV,<- hk,oR _ _ _ _ hz]
theorem Yn(l:List PI)(p:PI->Bool)(f:FuncId)(caps:List D)(m cap:Nat)(rest:List D)(σ:List (List D))(hl:l.length<=9223372036854775807)(hσ:σ[m]?=some (l.flatMap cP++rest))(hcp:∀d∈caps,d.plain=true)(hcs:caps.map D.strip=caps)(hp:∀x τ,Ct prog f (cR x::caps) τ (fun r τ'=>r= .bool (p x)/\τ'=τ)):Ct prog 274 [.slo m 0 l.length cap,.clo (.func f) [] caps] σ (fun r σ'=>r= .int (wR p l)/\σ'=σ):=by
 refine zf func274 ?_;refine zr ⟨[],[],[],[7,14],[]⟩ fun _ _ Z=>?_;simp(disch:=omega)[hσ,hcs];apply Z;apply aF;refine zr ⟨[],[],[],[7,14],[]⟩ fun _ _ Z=>?_;simp(disch:=omega)[hσ,hcs];and_intros<;>(try omega);apply Z;apply aR;refine zk [0,1,4,7,8] ?_;refine bA (fun(k:Nat)=> [(8,.d (.v (.int .i64 (k:Int))))]) [4,5,8,9,10,11,12,13,14,15,16,17,18] (fun(k:Nat)=>k<=l.length/\∀x∈l.take k,p x=false) (fun(k:Nat)=>l.length - k) (0) (by simp <;> rfl) ?_ ?_ ?_
 .simp
 .simp
 rintro k ⟨hk,hh⟩;simp only [aQ,aP];refine zr ⟨[],[],[],[7,14],[]⟩ fun _ _ Z=>?_;simp(disch:=omega)[hσ,hcs];apply Z;apply aF;refine zI ?_ ?_<;>intro c1<;>try simp at c1
 .apply kB;refine zr ⟨[],[],[],[7,14],[]⟩ fun _ _ Z=>?_;simp(disch:=omega)[hσ,hcs];apply Z;refine zr ⟨[],[],[],[7,14],[]⟩ fun _ _ Z=>?_;refine zs 5 fun _ Y=>?_;simp(disch:=omega)[hσ,hcs];and_intros<;>(try omega);apply Y;refine aE fun _ Y=>?_;simp(disch:=omega)[hσ,hcs];refine⟨hcp,?_⟩;refine bS (hp l[k] _) ?_;apply Y;simp only [cX];apply Z;refine zI ?_ ?_<;>intro c2<;>try simp at c2
  .refine zk [0,1,5,7,8] ?_;refine zr ⟨[],[],[],[7,14],[]⟩ fun _ _ Z=>?_;simp(disch:=omega)[hσ,hcs];apply Z;apply aD;simp [aJ];exact(Je c1 hh c2).symm
  apply nD;refine zk [0,1,7,8] ?_;refine zt ⟨[],[],[],[7,14],[]⟩ fun _ _ Z=>?_;simp(disch:=omega)[hσ,hcs];and_intros<;>(try omega);apply Z;refine zq (k+1) ?_ ?_ ?_
  .exact⟨by omega,uH (by omega) hh c2⟩
  .try dsimp only
   omega
  simp(disch:=omega)[hσ,hcs]
 apply zE;refine zr ⟨[],[],[],[7,14],[]⟩ fun _ _ Z=>?_;simp(disch:=omega)[hσ,hcs];apply Z;apply aD;simp [aJ];rw [bZ (by omega)] at hh;exact(yZ hh).symm
theorem Ud(l:List PI)(p:PI->Bool)(f:FuncId)(caps:List D)(σ:List (List D))(hl:l.length<=1000000)(hcp:∀d∈caps,d.plain=true)(hcs:caps.map D.strip=caps)(hp:∀x τ,Ct prog f (cR x::caps) τ (fun r τ'=>r= .bool (p x)/\τ'=τ)):Ct prog 270 [.xs 2 (l.map cR),.clo (.func f) [] caps] σ (fun r σ'=>r= .xs 2 ((l.filter fun x=> !p x).map cR)/\σ'=σ++ [[]]):=by
 refine zf func270 ?_;refine sE 0 2 rfl (by decide) fun cap rest hcap hcm hrest hk0 hes=>?_;simp only [bU] at hcap hrest |-;rw [aAs];refine zr q28_2 fun _ _ Z=>?_;simp(disch:=first|omega|assumption)[hcs,lQ];apply Z;refine zr q28_2 fun _ _ Z=>?_;refine zs 2 fun _ Y=>?_;simp(disch:=first|omega|assumption)[hcs,lQ];apply Y;refine aE fun _ Y=>?_;simp(disch:=first|omega|assumption)[hcs,lQ];refine bS (Yn l p f caps σ.length cap rest _ (by omega) (by simp) hcp hcs hp) ?_;apply Y;simp(disch:=first|omega|assumption)[hcs,lQ];apply Z;apply aF;refine zr q28_2 fun _ _ Z=>?_;simp(disch:=first|omega|assumption)[hcs,lQ];apply Z;refine zI ?_ ?_<;>intro c1<;>try simp at c1
 .refine zr q28_2 fun _ _ Z=>?_;simp(disch:=first|omega|assumption)[hcs,lQ];apply Z;refine fK 4 2 σ.length l.length cap (l.map cR) (l.flatMap cP++rest) (by simp <;> rfl) (by simp) (by omega) (by simp [hrest,jY (z:=#[.string ⟨#[]⟩,.int .i64 0]) (k:=2) rfl];omega) (by simp) (aSf _) (by rw [aAs];exact dB _ _) ?_;simp only [tA];apply aD;simp [aJ];rcases Bv p l with ⟨_,h⟩ | ⟨k,h,_⟩
  .rw [h]
  omega
 obtain⟨k0,e0,e1,e2,e3⟩:=Ks c1;rw [e0];apply zA;apply aF;refine zr q28_2 fun _ _ Z=>?_;simp(disch:=first|omega|assumption)[hcs,lQ];and_intros<;>try first|omega|exact rfl
 apply Z;apply aR;refine zk [0,1,4,5,6] ?_;refine kS (fun(j:Nat)=> [(5,.d (.v (.int .i64 ((kp p l j).length:Int)))),(6,.d (.v (.int .i64 (j:Int))))]) (fun(j:Nat)=> []) (fun(j:Nat)=> [(σ.length,(ar p l j).flatMap cP++rest)]) [5,6,7,16,17,18,19,20,21,22,23,24,25,26,27,28,29,30,31,32,33,34,35] (fun(j:Nat)=>j<=l.length) (fun(j:Nat)=>l.length - j) (k0+1) (by simp <;> rfl) ?_ (by simp) (by simp [e1]) ?_ ?_
 .simp [e1,e2]
 .omega
 rintro j hj;simp only [aQ,aP,lL,jP,gO,gA];have hkl:=Vt p l j hj;have hal:=Rg p l j;apply aF;refine zr q28_2 fun _ _ Z=>?_;simp(disch:=first|omega|assumption)[hcs,lQ];and_intros<;>try first|omega|exact rfl
 apply Z;refine zI ?_ ?_<;>intro c2<;>try simp at c2
 .apply kB;refine zr q28_2 fun _ _ Z=>?_;simp(disch:=first|omega|assumption)[hcs,lQ];and_intros<;>try first|omega|exact rfl
  apply Z;refine zk [0,1,4,5,6,7] ?_;refine zr q28_2 fun _ _ Z=>?_;refine zs 2 fun _ Y=>?_;simp(disch:=first|omega|assumption)[hcs,lQ];apply Y;refine aE fun _ Y=>?_;simp(disch:=first|omega|assumption)[hcs,lQ];simp only [aNp p l j (by omega)];refine⟨hcp,?_⟩;refine bS (hp l[j] _) ?_;apply Y;simp(disch:=first|omega|assumption)[hcs,lQ];apply Z;refine zI ?_ ?_<;>intro c3<;>try simp at c3
  .refine zr q28_2 fun _ _ Z=>?_;simp(disch:=first|omega|assumption)[hcs,lQ];and_intros<;>try first|omega|exact rfl
   apply Z;refine zk [0,1,4,5,6] ?_;refine zt q28_2 fun _ _ Z=>?_;simp(disch:=first|omega|assumption)[hcs,lQ];and_intros<;>try first|omega|exact rfl
   apply Z;apply zB;refine zt q28_2 fun _ _ Z=>?_;simp(disch:=first|omega|assumption)[hcs,lQ];and_intros<;>try first|omega|exact rfl
   apply Z;refine eG (j+1) ?_ ?_ (dT rfl ?_ (by simp) (by first | (simp [<- (Hv p l j (by omega) c3).1];done) | (simp [(Hv p l j (by omega) c3).1];done)))
   .omega
   .try dsimp only
    omega
   simp(disch:=first|omega|assumption)[hcs,lQ,(Hv p l j (by omega) c3).2]
  apply nD;refine zt q28_2 fun _ _ Z=>?_;simp(disch:=first|omega|assumption)[hcs,lQ];and_intros<;>try first|omega|exact rfl
  apply Z;refine eG (j+1) ?_ ?_ (dT rfl ?_ (by simp) (by simp [(Ch p l j (by omega) c3).1]))
  .omega
  .try dsimp only
   omega
  simp(disch:=first|omega|assumption)[hcs,lQ,(Ch p l j (by omega) c3).2]
 apply zE;refine zr q28_2 fun _ _ Z=>?_;simp(disch:=first|omega|assumption)[hcs,lQ];and_intros<;>try first|omega|exact rfl
 apply Z;refine zk [0,4,5] ?_;refine zr q28_2 fun _ _ Z=>?_;simp(disch:=first|omega|assumption)[hcs,lQ];and_intros<;>try first|omega|exact rfl
 apply Z;refine fK 4 2 σ.length (kp p l j).length cap ((kp p l j).map cR) ((kp p l j).flatMap cP++(jJ #[.string ⟨#[]⟩,.int .i64 0] (l.length - (kp p l j).length)++rest)) (by simp <;> rfl) (by simp) (by omega) (by simp [hrest,jY (z:=#[.string ⟨#[]⟩,.int .i64 0]) (k:=2) rfl];omega) (by simp) (aSf _) (by rw [aAs];exact dB _ _) ?_;simp only [tA];apply aD;simp [aJ];unfold kp;rw [bZ (by omega)]
theorem Za(l:List PI)(p:PI->Bool)(f:FuncId)(caps:List D)(σ:List (List D))(hl:l.length<=1000000)(hcp:∀d∈caps,d.plain=true)(hcs:caps.map D.strip=caps)(hp:∀x τ,Ct prog f (cR x::caps) τ (fun r τ'=>r= .bool (p x)/\τ'=τ)):
  Ct prog 270 [.xs 2 (l.map cR),.clo (.func f) [] caps] σ (fun r σ'=>r= .xs 2 ((l.filter fun x=> !p x).map cR)/\σ'=σ):=
 (Ud l p f caps σ hl hcp hcs hp).trim fun r σ' ⟨hr,hs⟩=>⟨σ, [[]],hs,rfl,by rw [hr];exact aUc _ _,fun n cs h=> .inl h,hr,rfl⟩
theorem aG7(l:List PI)(σ:List (List D))(hl:l.length<=1000000):Ct prog 155 [.sl false (l.map cR)] σ (fun r σ'=>r= .sl true (l.map cR)/\σ'=σ):=by
 refine zf func155 ?_;refine zr ⟨[2],[],[],[],[]⟩ fun _ _ Z=>?_;simp;apply Z;apply aF;refine zr ⟨[2],[],[],[],[]⟩ fun _ _ Z=>?_;refine zs 1 fun _ Y=>?_;simp;apply Y;refine aE fun _ Y=>?_;simp;refine⟨Y _ ?_,fun e1=>Y _ ?_⟩
 .simp only [cX];apply Z;refine aV (t:=false) (by simp) (fun h=>by cases h) (fun _=>?_);apply zA;refine zr ⟨[2],[],[],[],[]⟩ fun _ _ Z=>?_;simp;and_intros<;>(try omega);apply Z;apply aD;simp [aJ]
 simp only [cX];apply Z;refine aV (t:=true) (by simp) (fun _=>?_) (fun h=>by cases h);refine zr ⟨[2],[],[],[],[]⟩ fun _ _ Z=>?_;simp;apply Z;apply aD;simp [aJ,e1]
theorem aAj(N cap:Nat)(l:List Int)(rest:List D)(σ:List (List D))(hl:l.length<=1000000)(hN:σ[N]?=some (l.map D.int++rest)):Ct prog 153 [.slo N 0 l.length cap] σ (fun r σ'=>wJ 1 (l.map D.int) r/\σ'=σ):=by
 refine zf func153 ?_;refine zr ⟨[2,7],[],[],[],[7]⟩ fun _ _ Z=>?_;simp[hN];apply Z;apply aF;refine zr ⟨[2,7],[],[],[],[7]⟩ fun _ _ Z=>?_;refine zs 1 fun _ Y=>?_;simp[hN];apply Y;refine aE fun _ Y=>?_;simp[hN];refine⟨Y _ ?_,fun e1=>Y _ ?_⟩
 .simp only [cX];apply Z;refine aV (t:=false) (by simp) (fun h=>by cases h) (fun _=>?_);apply zA;refine zr ⟨[2,7],[],[],[],[7]⟩ fun _ _ Z=>?_;refine zs 3 fun _ Y=>?_;simp[hN];refine⟨l.map D.int,⟨⟨by simp,by rw [vH (f:=D.int) (fun _=>rfl)];exact dB _ _⟩,mS (d:=D.int) (fun _=>⟨rfl,rfl⟩) _,by first | rfl | trivial⟩,⟨by simp;omega,by simp;omega⟩,?_⟩;and_intros<;>(try omega);apply Y;simp[hN];apply Z;apply aD;simp [aJ,wJ]
 simp only [cX];apply Z;refine aV (t:=true) (by simp) (fun _=>?_) (fun h=>by cases h);refine zr ⟨[2,7],[],[],[],[7]⟩ fun _ _ Z=>?_;simp[hN];apply Z;apply aD;simp [aJ,wJ,e1]
theorem aF9(N cap:Nat)(l:List Int)(rest:List D)(σ:List (List D))(hl:l.length<=1000000)(hN:σ[N]?=some (l.map D.int++rest)):Ct prog 153 [.slo N 0 l.length cap] σ (fun r σ'=>r= .sl false (l.map D.int)/\σ'=σ):=((aAj N cap l rest σ hl hN).toX fun _ _ h=>h).freeze fun _ _ h=>h
def aGx(c:Int)(l:List Int):Int:=wR (fun x=>decide (x=c)) l
end Go.Proofs.YtbgfljpnhhdkoaaGreat
