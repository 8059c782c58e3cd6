import Derived.Test.YtbgfljpnhhdkoaaGreatWkAr2
set_option maxRecDepth 20000
set_option linter.all false
set_option maxHeartbeats 8000000
open Go.Proofs.Tryz
namespace Go.Proofs.YtbgfljpnhhdkoaaGreat
open Go Go.Vm
structure AT where
 name:ByteArray
 value:ByteArray
 deriving DecidableEq
@[simp] abbrev dA(s:AT):D:= .agg [.v (.string s.name),.v (.string s.value)]
structure PI where
 name:ByteArray
 value:Int
 deriving DecidableEq
@[simp] abbrev cQ(s:PI):D:= .agg [.v (.string s.name),.v (.int .i64 s.value)]
def cI(n:Int):List D:= [D.int n]
def cA(x:AT):List D:= [D.str x.name,D.str x.value]
def cP(x:PI):List D:= [D.str x.name,D.int x.value]
def fQ {α:Type} (l:List α)(i:Nat)(x:α):List α:=l.take i++x::l.drop i
theorem jS {α:Type} (l:List α)(i:Nat)(x:α)(h:i<=l.length):(fQ l i x).length=l.length+1:=by simp [fQ];omega
def Bx(k:Nat):D:=if k=1 then .any else .agg (List.replicate k .any)
theorem Ay {k:Nat} :(Bx k).cells=List.replicate k .any:=by
 unfold Bx;split
 .rename_i h;subst h;rfl
 rfl
theorem aQi {k:Nat} :(Bx k).ncells=k/\(Bx k).arr=true:=by
 constructor
 .rw [<- eH,Ay,cR]
 unfold D.arr;rw [Ay,gF];intro x hx;rw [qO hx];rfl
section
variable {α:Type} {f:α->List D} {d:α->D} {k:Nat}
theorem So(hd:∀a,(d a).cells=f a)(hf:∀a,(f a).length=k)(l:List α)(i r:Nat)(hi:i<l.length)(hr:k<=r):((l.drop i).map d++ [Bx k]).flatMap D.cells<+:List.drop (i * k) (l.flatMap f++List.replicate r .any):=by
 have e:l.flatMap f=(l.take i).flatMap f++(l.drop i).flatMap f:=by rw [<- gR,eZ]
 rw [e,bW,<- pN hf l i hi,yS,gR,cX hd];refine⟨List.replicate (r - k) .any,?_⟩;simp only [gG,Fe,gH,Ay,bW,Py];rw [show k+(r - k)=r by omega]
theorem Mc(hd:∀a,(d a).cells=f a)(hf:∀a,(f a).length=k)(l:List α)(i r:Nat)(hi:i<l.length)(hr:k<=r):dZ (l.flatMap f++List.replicate r .any) ((i+1) * k) ((((l.drop i).map d++ [Bx k]).take (l.length - i)).flatMap D.cells)=(l.take (i+1)).flatMap f++((l.drop i).flatMap f++List.replicate (r - k) .any):=by
 have e:l.flatMap f=(l.take (i+1)).flatMap f++(l.drop (i+1)).flatMap f:=by rw [<- gR,eZ]
 have e2:((l.drop i).map d++ [Bx k]).take (l.length - i)=(l.drop i).map d:=by
  rw [Pj (by simp),bZ (by simp)]
 have e3:(l.flatMap f++List.replicate r (D.any))=(l.take (i+1)).flatMap f++(((l.drop (i+1)).flatMap f++List.replicate k .any)++List.replicate (r - k) .any):=by
  rw [e,bW,bW,Py,show k+(r - k)=r by omega]
 have e4:((l.take (i+1)).flatMap f).length=(i+1) * k:=by rw [dJ hf,bG,kQ (by omega)]
 rw [e2,cX hd,e3,<- e4];refine oN _ _ _ _ ?_;rw [aZ,dJ hf,dJ hf,cR,dI,dI,<- vJ];congr 1;omega
theorem Me(hf:∀a,(f a).length=k)(l:List α)(i:Nat)(x:α)(R:List D)(hi:i<l.length):dZ ((l.take (i+1)).flatMap f++((l.drop i).flatMap f++R)) (i * k) (f x)=(fQ l i x).flatMap f++R:=by
 have e:(l.take (i+1)).flatMap f=(l.take i).flatMap f++f l[i]:=by rw [bL l i hi,gR];simp
 rw [e,bW,<- pN hf l i hi,oN _ _ _ _ (by rw [hf,hf])];simp [fQ]
theorem Eb(hd:∀a,(d a).cells=f a)(l:List α)(i r:Nat):((l.take i).map d).flatMap D.cells<+:l.flatMap f++List.replicate r .any:=by
 rw [cX hd];have e:l.flatMap f=(l.take i).flatMap f++(l.drop i).flatMap f:=by rw [<- gR,eZ]
 rw [e,bW];exact dC _ _
theorem Gd(hd:∀a,(d a).cells=f a)(l:List α)(i:Nat):((l.take i).map d).flatMap D.cells<+:l.flatMap f:=by
 have:=Eb (f:=f) hd l i 0;simpa using this
theorem mR(hd:∀a,(d a).ncells=k/\(d a).arr=true)(l:List α):∀y∈l.map d,y.ncells=k/\y.arr=true:=fun y hy=>by
 obtain⟨a,_,rfl⟩:=aV.1 hy;exact hd a
theorem Yq(hd:∀a,(d a).ncells=k/\(d a).arr=true)(l:List α):∀y∈l.map d++ [Bx k],y.ncells=k/\y.arr=true:=fun y hy=>by
 rcases bT.1 hy with h | h
 .exact mR hd l y h
 simp at h;subst h;exact aQi
theorem Kq(hd:∀a,(d a).cells=f a)(hf:∀a,(f a).length=k)(l:List α)(i r:Nat)(hi:i<l.length):((l.drop i).map d).flatMap D.cells<+:List.drop (i * k) (l.flatMap f++List.replicate r .any):=by
 have e:l.flatMap f=(l.take i).flatMap f++(l.drop i).flatMap f:=by rw [<- gR,eZ]
 rw [e,bW,<- pN hf l i hi,yS,cX hd];exact dC _ _
theorem Rw {Z:D} (hZ:Z.ncells=k):∀n:Nat,((List.replicate n Z).flatMap D.cells).length=n * k
 | 0=>by simp
 | n+1=>by rw [Ek,gG,aZ,Rw hZ n,eH,hZ,vJ];omega
theorem Le(hf:∀a,(f a).length=k)(l:List α)(i:Nat)(x:α)(R:List D)(hi:i<l.length)(hR:k<=R.length):dZ ((l.take i).flatMap f++R) (i * k) (f x)=(l.take i).flatMap f++(f x++R.drop k):=by
 conv=>lhs;rw [<- eZ k R]
 rw [<- pN hf l i hi,oN _ _ _ _ (by rw [hf,bG];omega)]
theorem Jr(hd:∀a,(d a).cells=f a)(hf:∀a,(f a).length=k)(l:List α)(i:Nat)(x:α)(R:List D)(hi:i<l.length)(hR:(l.length - i) * k<=R.length):dZ ((l.take i).flatMap f++(f x++R)) ((i+1) * k) (((l.drop i).map d).flatMap D.cells)=(fQ l i x).flatMap f++R.drop ((l.length - i) * k):=by
 have e:((l.take i).flatMap f++f x).length=(i+1) * k:=by rw [aZ,pN hf l i hi,hf,vJ]
 conv=>lhs;rw [<- eZ ((l.length - i) * k) R]
 rw [<- bW,<- e,oN _ _ _ _ (by rw [cX hd,dJ hf,dI,bG];omega),cX hd];simp [fQ]
end
theorem iJ:Tj prog 241:=by
 obtain⟨ti,zv,h1,h2,_⟩:=jI aZr;exact⟨_,22,4,3,ti,func241,by kernel_rfl,by kernel_rfl,by kernel_rfl,by kernel_rfl,h1,h2⟩
@[simp] abbrev q30_1:Cfg:=⟨[0,6,9,17,23,55,61,83,94],[],[],[12,19,25,34,43,50,53,60,66,73,76,80],[30,40,45,54,67,77,82]⟩
theorem aLv(l:List Int)(x:Int)(i:Nat)(σ:List (List D))(hl:l.length<=1000000)(hi:i<=l.length):Ct prog 205 [.xs 1 (l.map D.int),D.int i,.sl true [D.int x]] σ (fun r σ'=>r= .xs 1 ((fQ l i x).map D.int)/\∃J,σ'=σ++J):=by
 refine zf func205 ?_;refine iL 0 1 rfl (by decide) fun cap rest hcap hcm hrest hk0 hes=>?_;subst hrest;simp only [bQ] at hcap |-;rw [cX (f:=cI) (fun _=>rfl)];refine zr q30_1 fun _ _ Z=>?_;simp(disch:=omega)[iJ,-bH,bI,aX,aI,aG];apply Z;refine zr q30_1 fun _ _ Z=>?_;simp(disch:=omega)[iJ,-bH,bI,aX,aI,aG];and_intros<;>(try omega);apply Z;refine zr q30_1 fun _ _ Z=>?_;simp(disch:=omega)[iJ,-bH,bI,aX,aI,aG];and_intros<;>(try omega);apply Z;apply aE;refine zr q30_1 fun _ _ Z=>?_;simp(disch:=omega)[iJ,-bH,bI,aX,aI,aG];apply Z;refine zI ?_ ?_<;>intro c1<;>try simp at c1
 apply zA;refine zr q30_1 fun _ _ Z=>?_;simp(disch:=omega)[iJ,-bH,bI,aX,aI,aG];and_intros<;>(try omega);apply Z;apply aE;refine zk [0,1,2,6,7,8] ?_;refine zr q30_1 fun _ _ Z=>?_;simp(disch:=omega)[iJ,-bH,bI,aX,aI,aG];apply Z;refine zI ?_ ?_<;>intro c2<;>try simp at c2
 .refine zr q30_1 fun _ _ Z=>?_;refine zs 3 fun _ Y=>?_;simp(disch:=omega)[iJ,-bH,bI,aX,aI,aG];refine⟨by first | rfl | exact⟨rfl,rfl⟩ | trivial,_,l.map D.int,⟨rfl,by simp only [aZ,dJ (f:=cI) (k:=1) (fun _=>rfl),cR];omega,by simp,hes,by rw [cX (f:=cI) (fun _=>rfl)];exact dC _ _,by simp;omega,by simp;omega⟩,?_⟩;and_intros<;>(try omega);apply Y;simp(disch:=omega)[iJ,-bH,bI,aX,aI,aG];apply Z;apply aC;obtain rfl:i=l.length:=by omega
  simp [aH,fQ]
 apply zA;apply aE;refine zr q30_1 fun _ _ Z=>?_;simp(disch:=omega)[iJ,-bH,bI,aX,aI,aG];and_intros<;>(try omega);apply Z;refine zI ?_ ?_<;>intro c3<;>try simp at c3
 .refine zk [0,1,2,6,7,8] ?_;refine zr q30_1 fun _ _ Z=>?_;refine zs 8 fun _ Y=>?_;simp(disch:=omega)[iJ,-bH,bI,aX,aI,aG];and_intros<;>(try omega);apply Y;refine zs 1 fun _ Y=>?_;simp(disch:=omega)[iJ,-bH,bI,aX,aI,aG];refine⟨(l.take i).map D.int,⟨⟨by simp;omega,by first | exact Gd (f:=cI) (fun _=>rfl) l i | exact Eb (f:=cI) (fun _=>rfl) l i _⟩,(mR (d:=D.int) (fun _=>⟨rfl,rfl⟩) _),by omega,by omega,by omega,by omega,by first | rfl | exact⟨rfl,rfl⟩ | trivial⟩,?_⟩;and_intros<;>(try omega);apply Y;simp(disch:=omega)[iJ,-bH,bI,aX,aI,aG];apply Z;refine sO 9 1 rfl (by decide) fun cap2 rest2 hcap2 hcm2 hrest2 hk2 hes2=>?_;simp only [aZ,bQ,bG,cR,kQ hi] at hcap2 hrest2 |-;rw [gR,show List.flatMap D.cells (List.take i (List.map D.int l))=(l.take i).flatMap cI from by rw [<- vH];exact cX (f:=cI) (fun _=>rfl) _];simp only [bW];have hR:((List.replicate (l.length+1 - i) (vZ 1 #[.int .i64 0])).flatMap D.cells++rest2).length=(cap2 - i) * 1:=by rw [aZ,Rw (k:=1) rfl,hrest2];omega
  generalize (List.replicate (l.length+1 - i) (vZ 1 #[.int .i64 0])).flatMap D.cells++rest2=R at hR |-;refine zk [0,1,2,6,7,8,9] ?_;refine zr q30_1 fun _ _ Z=>?_;simp(disch:=omega)[iJ,-bH,bI,aX,aI,aG];have hlt:i<l.length:=by omega
  refine⟨by omega, [D.int x],_,⟨rfl,(fun y hy=>by simp only [fS] at hy;subst hy;exact⟨rfl,rfl⟩),rfl,by simp only [aZ,dJ (f:=cI) (k:=1) (fun _=>rfl),show ∀a,(cI a).length=1 from fun _=>rfl,cR,bQ,dI,bG,bJ,cY] at *;omega⟩,?_⟩;rw [show min [D.int x].length (l.length+1 - i)=1 by first | (simp;done) | (simp;omega),show List.flatMap D.cells (List.take 1 [D.int x])=cI x from rfl];have row:=Le (f:=cI) (k:=1) (fun _=>rfl) l i x R hlt (by rw [hR];omega);simp only [sE] at row;rw [row];clear row;have hR3:(R.drop 1).length=(cap2 - i - 1) * 1:=by rw [dI,hR];omega
  generalize R.drop 1=R3 at hR3 |-;and_intros<;>(try omega);apply Z;refine zk [0,1,2,6,7,8,9] ?_;refine zd q30_1 [.op {},.op {},.op {},.op {},.op {},.op {},.op {},.op {},.op {rO:=true,wO:=true}] fun all hall _ Z=>?_;refine kF 8 fun _ Y=>?_;simp(disch:=omega)[iJ,-bH,bI,aX,aI,aG];and_intros<;>(try omega);apply Y;simp(disch:=omega)[iJ,-bH,bI,aX,aI,aG];refine⟨(l.drop i).map D.int,_,⟨⟨by simp,by have:=Kq (f:=cI) (d:=D.int) (k:=1) (fun _=>rfl) (fun _=>rfl) l i 0 hlt;first | exact this | simpa using this⟩,(mR (d:=D.int) (fun _=>⟨rfl,rfl⟩) _),rfl,by simp only [aZ,dJ (f:=cI) (k:=1) (fun _=>rfl),show ∀a,(cI a).length=1 from fun _=>rfl,cR,bQ,dI,bG,bJ,cY] at *;omega⟩,?_⟩;rw [show min ((l.drop i).map D.int).length (l.length - i)=l.length - i by simp,bZ (show((l.drop i).map D.int).length<=l.length - i by simp)];have row:=Jr (f:=cI) (d:=D.int) (k:=1) (fun _=>rfl) (fun _=>rfl) l i x R3 hlt (by rw [hR3];omega);simp only [sE] at row;rw [row];clear row;have hR4:(R3.drop ((l.length - i) * 1)).length=(cap2 - i - 1 - (l.length - i)) * 1:=by rw [dI,hR3];omega
  simp only [sE] at hR4;generalize R3.drop _=R4 at hR4 |-;and_intros<;>(try omega);apply Z;refine zk [0,1,2,6,7,8,9] ?_;refine zr q30_1 fun _ _ Z=>?_;simp(disch:=omega)[iJ,-bH,bI,aX,aI,aG];apply Z;refine fI 6 1 (σ.length+1) (l.length+1) cap2 ((fQ l i x).map D.int) ((fQ l i x).flatMap cI++R4) (by simp <;> rfl) (by simp [bI,aI]) (by omega) (by have:=jS l i x hi;simp only [aZ,dJ (f:=cI) (k:=1) (fun _=>rfl),this] at *;omega) (by simp [jS l i x hi]) (mR (d:=D.int) (fun _=>⟨rfl,rfl⟩) _) (by rw [cX (f:=cI) (fun _=>rfl)];exact dC _ _) ?_;apply aC;simp [aH]
 apply zA;refine zk [0,1,2,6,7,8] ?_;refine zr q30_1 fun _ _ Z=>?_;simp(disch:=omega)[iJ,-bH,bI,aX,aI,aG];and_intros<;>(try omega);apply Z;apply aE;refine zk [0,1,2,6,7,8] ?_;refine zr q30_1 fun _ _ Z=>?_;simp(disch:=omega)[iJ,-bH,bI,aX,aI,aG];and_intros<;>(try omega);apply Z;refine zI ?_ ?_<;>intro c4<;>try simp at c4
 refine zk [0,1,2,6,7,8] ?_;refine zd q30_1 [.op {},.op {},.op {},.op {},.op {},.op {},.op {},.op {},.op {rO:=true,wO:=true}] fun all hall _ Z=>?_;refine kF 8 fun _ Y=>?_;simp(disch:=omega)[iJ,-bH,bI,aX,aI,aG];and_intros<;>(try omega);apply Y;simp(disch:=omega)[iJ,-bH,bI,aX,aI,aG];have hlt:i<l.length:=by omega
 refine⟨(l.drop i).map D.int++ [Bx 1],_,⟨⟨by first | (simp;done) | (simp;omega),by have:=So (f:=cI) (d:=D.int) (k:=1) (fun _=>rfl) (fun _=>rfl) l i ((cap - l.length) * 1) hlt (show 1<=((cap - l.length) * 1) by omega);first | exact this | simpa using this⟩,Yq (d:=D.int) (fun _=>⟨rfl,rfl⟩) _,rfl,by simp only [aZ,dJ (f:=cI) (k:=1) (fun _=>rfl),show ∀a,(cI a).length=1 from fun _=>rfl,cR,bQ,dI,bG,bJ,cY] at *;omega⟩,?_⟩;rw [show min ((l.drop i).map D.int++ [Bx 1]).length (l.length - i)=l.length - i by first | (simp;done) | (simp;omega)];have row:=Mc (f:=cI) (d:=D.int) (k:=1) (fun _=>rfl) (fun _=>rfl) l i ((cap - l.length) * 1) hlt (show 1<=((cap - l.length) * 1) by omega);simp only [sE] at row;rw [row];clear row;have hR:(List.replicate (((cap - l.length) * 1) - 1) D.any).length=((cap - l.length) * 1) - 1:=cR;simp only [sE] at hR;generalize List.replicate _ D.any=R at hR |-;and_intros<;>(try omega);apply Z;refine zk [0,1,2,6,7,8] ?_;refine zr q30_1 fun _ _ Z=>?_;simp(disch:=omega)[iJ,-bH,bI,aX,aI,aG];refine⟨by omega, [D.int x],_,⟨rfl,(fun y hy=>by simp only [fS] at hy;subst hy;exact⟨rfl,rfl⟩),rfl,by simp only [aZ,dJ (f:=cI) (k:=1) (fun _=>rfl),show ∀a,(cI a).length=1 from fun _=>rfl,cR,bQ,dI,bG,bJ,cY] at *;omega⟩,?_⟩;rw [show min [D.int x].length (l.length+1 - i)=1 by first | (simp;done) | (simp;omega),show List.flatMap D.cells (List.take 1 [D.int x])=cI x from rfl];have row:=Me (f:=cI) (k:=1) (fun _=>rfl) l i x R hlt;simp only [sE] at row;rw [row];clear row;and_intros<;>(try omega);apply Z;refine zr q30_1 fun _ _ Z=>?_;simp(disch:=omega)[iJ,-bH,bI,aX,aI,aG];apply Z;refine fI 6 1 σ.length (l.length+1) cap ((fQ l i x).map D.int) ((fQ l i x).flatMap cI++R) (by simp <;> rfl) (by simp [bI,aI]) (by omega) (by have:=jS l i x hi;simp only [aZ,dJ (f:=cI) (k:=1) (fun _=>rfl),this] at *;omega) (by simp [jS l i x hi]) (mR (d:=D.int) (fun _=>⟨rfl,rfl⟩) _) (by rw [cX (f:=cI) (fun _=>rfl)];exact dC _ _) ?_;apply aC;simp [aH]
theorem aY1(N:Nat)(l:List Int):Sc N (.xs 1 (l.map D.int)):=Sc.xs fun e he y hy=>by
 obtain⟨a,_,rfl⟩:=aV.1 he;simp only [D.cells,bM,gX,iB] at hy;subst hy <;> exact Sc.v _
theorem aRk(l:List Int)(x:Int)(i:Nat)(σ:List (List D))(hl:l.length<=1000000)(hi:i<=l.length):Ct prog 205 [.xs 1 (l.map D.int),D.int i,.sl true [D.int x]] σ (fun r σ'=>r= .xs 1 ((fQ l i x).map D.int)/\σ'=σ):=
 (aLv l x i σ hl hi).trim fun r σ' ⟨hr,J,hs⟩=>⟨σ,J,hs,rfl,by rw [hr];exact aY1 _ _,fun n cs h=> .inl h,hr,rfl⟩
theorem iH:Tj prog 249:=by
 obtain⟨ti,zv,h1,h2,_⟩:=jI aZg;exact⟨_,36,4,191,ti,func249,by kernel_rfl,by kernel_rfl,by kernel_rfl,by kernel_rfl,h1,h2⟩
theorem aKx(l:List AT)(x:AT)(i:Nat)(σ:List (List D))(hl:l.length<=1000000)(hi:i<=l.length):Ct prog 224 [.xs 2 (l.map dA),D.int i,.sl true [dA x]] σ (fun r σ'=>r= .xs 2 ((fQ l i x).map dA)/\∃J,σ'=σ++J):=by
 refine zf func224 ?_;refine iL 0 2 rfl (by decide) fun cap rest hcap hcm hrest hk0 hes=>?_;subst hrest;simp only [bQ] at hcap |-;rw [cX (f:=cA) (fun _=>rfl)];refine zr q30_1 fun _ _ Z=>?_;simp(disch:=omega)[iH,-bH,bI,aX,aI,aG];apply Z;refine zr q30_1 fun _ _ Z=>?_;simp(disch:=omega)[iH,-bH,bI,aX,aI,aG];and_intros<;>(try omega);apply Z;refine zr q30_1 fun _ _ Z=>?_;simp(disch:=omega)[iH,-bH,bI,aX,aI,aG];and_intros<;>(try omega);apply Z;apply aE;refine zr q30_1 fun _ _ Z=>?_;simp(disch:=omega)[iH,-bH,bI,aX,aI,aG];apply Z;refine zI ?_ ?_<;>intro c1<;>try simp at c1
 apply zA;refine zr q30_1 fun _ _ Z=>?_;simp(disch:=omega)[iH,-bH,bI,aX,aI,aG];and_intros<;>(try omega);apply Z;apply aE;refine zk [0,1,2,6,7,8] ?_;refine zr q30_1 fun _ _ Z=>?_;simp(disch:=omega)[iH,-bH,bI,aX,aI,aG];apply Z;refine zI ?_ ?_<;>intro c2<;>try simp at c2
 .refine zr q30_1 fun _ _ Z=>?_;refine zs 3 fun _ Y=>?_;simp(disch:=omega)[iH,-bH,bI,aX,aI,aG];refine⟨by first | rfl | exact⟨rfl,rfl⟩ | trivial,_,l.map dA,⟨rfl,by simp only [aZ,dJ (f:=cA) (k:=2) (fun _=>rfl),cR];omega,by simp,hes,by rw [cX (f:=cA) (fun _=>rfl)];exact dC _ _,by simp;omega,by simp;omega⟩,?_⟩;and_intros<;>(try omega);apply Y;simp(disch:=omega)[iH,-bH,bI,aX,aI,aG];apply Z;apply aC;obtain rfl:i=l.length:=by omega
  simp [aH,fQ]
 apply zA;apply aE;refine zr q30_1 fun _ _ Z=>?_;simp(disch:=omega)[iH,-bH,bI,aX,aI,aG];and_intros<;>(try omega);apply Z;refine zI ?_ ?_<;>intro c3<;>try simp at c3
 .refine zk [0,1,2,6,7,8] ?_;refine zr q30_1 fun _ _ Z=>?_;refine zs 8 fun _ Y=>?_;simp(disch:=omega)[iH,-bH,bI,aX,aI,aG];and_intros<;>(try omega);apply Y;refine zs 1 fun _ Y=>?_;simp(disch:=omega)[iH,-bH,bI,aX,aI,aG];refine⟨(l.take i).map dA,⟨⟨by simp;omega,by first | exact Gd (f:=cA) (fun _=>rfl) l i | exact Eb (f:=cA) (fun _=>rfl) l i _⟩,(mR (d:=dA) (fun _=>⟨rfl,rfl⟩) _),by omega,by omega,by omega,by omega,by first | rfl | exact⟨rfl,rfl⟩ | trivial⟩,?_⟩;and_intros<;>(try omega);apply Y;simp(disch:=omega)[iH,-bH,bI,aX,aI,aG];apply Z;refine sO 9 2 rfl (by decide) fun cap2 rest2 hcap2 hcm2 hrest2 hk2 hes2=>?_;simp only [aZ,bQ,bG,cR,kQ hi] at hcap2 hrest2 |-;rw [gR,show List.flatMap D.cells (List.take i (List.map dA l))=(l.take i).flatMap cA from by rw [<- vH];exact cX (f:=cA) (fun _=>rfl) _];simp only [bW];have hR:((List.replicate (l.length+1 - i) (vZ 2 #[.string ⟨#[]⟩,.string ⟨#[]⟩])).flatMap D.cells++rest2).length=(cap2 - i) * 2:=by rw [aZ,Rw (k:=2) rfl,hrest2];omega
  generalize (List.replicate (l.length+1 - i) (vZ 2 #[.string ⟨#[]⟩,.string ⟨#[]⟩])).flatMap D.cells++rest2=R at hR |-;refine zk [0,1,2,6,7,8,9] ?_;refine zr q30_1 fun _ _ Z=>?_;simp(disch:=omega)[iH,-bH,bI,aX,aI,aG];have hlt:i<l.length:=by omega
  refine⟨by omega, [dA x],_,⟨rfl,(fun y hy=>by simp only [fS] at hy;subst hy;exact⟨rfl,rfl⟩),rfl,by simp only [aZ,dJ (f:=cA) (k:=2) (fun _=>rfl),show ∀a,(cA a).length=2 from fun _=>rfl,cR,bQ,dI,bG,bJ,cY] at *;omega⟩,?_⟩;rw [show min [dA x].length (l.length+1 - i)=1 by first | (simp;done) | (simp;omega),show List.flatMap D.cells (List.take 1 [dA x])=cA x from rfl];have row:=Le (f:=cA) (k:=2) (fun _=>rfl) l i x R hlt (by rw [hR];omega)
  skip
  rw [row];clear row;have hR3:(R.drop 2).length=(cap2 - i - 1) * 2:=by rw [dI,hR];omega
  generalize R.drop 2=R3 at hR3 |-;and_intros<;>(try omega);apply Z;refine zk [0,1,2,6,7,8,9] ?_;refine zd q30_1 [.op {},.op {},.op {},.op {},.op {},.op {},.op {},.op {},.op {rO:=true,wO:=true}] fun all hall _ Z=>?_;refine kF 8 fun _ Y=>?_;simp(disch:=omega)[iH,-bH,bI,aX,aI,aG];and_intros<;>(try omega);apply Y;simp(disch:=omega)[iH,-bH,bI,aX,aI,aG];refine⟨(l.drop i).map dA,_,⟨⟨by simp,by have:=Kq (f:=cA) (d:=dA) (k:=2) (fun _=>rfl) (fun _=>rfl) l i 0 hlt;first | exact this | simpa using this⟩,(mR (d:=dA) (fun _=>⟨rfl,rfl⟩) _),rfl,by simp only [aZ,dJ (f:=cA) (k:=2) (fun _=>rfl),show ∀a,(cA a).length=2 from fun _=>rfl,cR,bQ,dI,bG,bJ,cY] at *;omega⟩,?_⟩;rw [show min ((l.drop i).map dA).length (l.length - i)=l.length - i by simp,bZ (show((l.drop i).map dA).length<=l.length - i by simp)];have row:=Jr (f:=cA) (d:=dA) (k:=2) (fun _=>rfl) (fun _=>rfl) l i x R3 hlt (by rw [hR3];omega)
  skip
  rw [row];clear row;have hR4:(R3.drop ((l.length - i) * 2)).length=(cap2 - i - 1 - (l.length - i)) * 2:=by rw [dI,hR3];omega
  generalize R3.drop _=R4 at hR4 |-;and_intros<;>(try omega);apply Z;refine zk [0,1,2,6,7,8,9] ?_;refine zr q30_1 fun _ _ Z=>?_;simp(disch:=omega)[iH,-bH,bI,aX,aI,aG];apply Z;refine fI 6 2 (σ.length+1) (l.length+1) cap2 ((fQ l i x).map dA) ((fQ l i x).flatMap cA++R4) (by simp <;> rfl) (by simp [bI,aI]) (by omega) (by have:=jS l i x hi;simp only [aZ,dJ (f:=cA) (k:=2) (fun _=>rfl),this] at *;omega) (by simp [jS l i x hi]) (mR (d:=dA) (fun _=>⟨rfl,rfl⟩) _) (by rw [cX (f:=cA) (fun _=>rfl)];exact dC _ _) ?_;apply aC;simp [aH]
 apply zA;refine zk [0,1,2,6,7,8] ?_;refine zr q30_1 fun _ _ Z=>?_;simp(disch:=omega)[iH,-bH,bI,aX,aI,aG];and_intros<;>(try omega);apply Z;apply aE;refine zk [0,1,2,6,7,8] ?_;refine zr q30_1 fun _ _ Z=>?_;simp(disch:=omega)[iH,-bH,bI,aX,aI,aG];and_intros<;>(try omega);apply Z;refine zI ?_ ?_<;>intro c4<;>try simp at c4
 refine zk [0,1,2,6,7,8] ?_;refine zd q30_1 [.op {},.op {},.op {},.op {},.op {},.op {},.op {},.op {},.op {rO:=true,wO:=true}] fun all hall _ Z=>?_;refine kF 8 fun _ Y=>?_;simp(disch:=omega)[iH,-bH,bI,aX,aI,aG];and_intros<;>(try omega);apply Y;simp(disch:=omega)[iH,-bH,bI,aX,aI,aG];have hlt:i<l.length:=by omega
 refine⟨(l.drop i).map dA++ [Bx 2],_,⟨⟨by first | (simp;done) | (simp;omega),by have:=So (f:=cA) (d:=dA) (k:=2) (fun _=>rfl) (fun _=>rfl) l i ((cap - l.length) * 2) hlt (show 2<=((cap - l.length) * 2) by omega);first | exact this | simpa using this⟩,Yq (d:=dA) (fun _=>⟨rfl,rfl⟩) _,rfl,by simp only [aZ,dJ (f:=cA) (k:=2) (fun _=>rfl),show ∀a,(cA a).length=2 from fun _=>rfl,cR,bQ,dI,bG,bJ,cY] at *;omega⟩,?_⟩;rw [show min ((l.drop i).map dA++ [Bx 2]).length (l.length - i)=l.length - i by first | (simp;done) | (simp;omega)];have row:=Mc (f:=cA) (d:=dA) (k:=2) (fun _=>rfl) (fun _=>rfl) l i ((cap - l.length) * 2) hlt (show 2<=((cap - l.length) * 2) by omega)
 skip
 rw [row];clear row;have hR:(List.replicate (((cap - l.length) * 2) - 2) D.any).length=((cap - l.length) * 2) - 2:=cR;generalize List.replicate _ D.any=R at hR |-;and_intros<;>(try omega);apply Z;refine zk [0,1,2,6,7,8] ?_;refine zr q30_1 fun _ _ Z=>?_;simp(disch:=omega)[iH,-bH,bI,aX,aI,aG];refine⟨by omega, [dA x],_,⟨rfl,(fun y hy=>by simp only [fS] at hy;subst hy;exact⟨rfl,rfl⟩),rfl,by simp only [aZ,dJ (f:=cA) (k:=2) (fun _=>rfl),show ∀a,(cA a).length=2 from fun _=>rfl,cR,bQ,dI,bG,bJ,cY] at *;omega⟩,?_⟩;rw [show min [dA x].length (l.length+1 - i)=1 by first | (simp;done) | (simp;omega),show List.flatMap D.cells (List.take 1 [dA x])=cA x from rfl];have row:=Me (f:=cA) (k:=2) (fun _=>rfl) l i x R hlt
 skip
 rw [row];clear row;and_intros<;>(try omega);apply Z;refine zr q30_1 fun _ _ Z=>?_;simp(disch:=omega)[iH,-bH,bI,aX,aI,aG];apply Z;refine fI 6 2 σ.length (l.length+1) cap ((fQ l i x).map dA) ((fQ l i x).flatMap cA++R) (by simp <;> rfl) (by simp [bI,aI]) (by omega) (by have:=jS l i x hi;simp only [aZ,dJ (f:=cA) (k:=2) (fun _=>rfl),this] at *;omega) (by simp [jS l i x hi]) (mR (d:=dA) (fun _=>⟨rfl,rfl⟩) _) (by rw [cX (f:=cA) (fun _=>rfl)];exact dC _ _) ?_;apply aC;simp [aH]
theorem aUj(N:Nat)(l:List AT):Sc N (.xs 2 (l.map dA)):=Sc.xs fun e he y hy=>by
 obtain⟨a,_,rfl⟩:=aV.1 he;simp only [D.cells,bM,gX,iB] at hy;rcases hy with rfl | rfl <;> exact Sc.v _
theorem aRy(l:List AT)(x:AT)(i:Nat)(σ:List (List D))(hl:l.length<=1000000)(hi:i<=l.length):Ct prog 224 [.xs 2 (l.map dA),D.int i,.sl true [dA x]] σ (fun r σ'=>r= .xs 2 ((fQ l i x).map dA)/\σ'=σ):=
 (aKx l x i σ hl hi).trim fun r σ' ⟨hr,J,hs⟩=>⟨σ,J,hs,rfl,by rw [hr];exact aUj _ _,fun n cs h=> .inl h,hr,rfl⟩
theorem iG:Tj prog 251:=by
 obtain⟨ti,zv,h1,h2,_⟩:=jI aY7;exact⟨_,38,4,137,ti,func251,by kernel_rfl,by kernel_rfl,by kernel_rfl,by kernel_rfl,h1,h2⟩
theorem aK4(l:List PI)(x:PI)(i:Nat)(σ:List (List D))(hl:l.length<=1000000)(hi:i<=l.length):Ct prog 225 [.xs 2 (l.map cQ),D.int i,.sl true [cQ x]] σ (fun r σ'=>r= .xs 2 ((fQ l i x).map cQ)/\∃J,σ'=σ++J):=by
 refine zf func225 ?_;refine iL 0 2 rfl (by decide) fun cap rest hcap hcm hrest hk0 hes=>?_;subst hrest;simp only [bQ] at hcap |-;rw [cX (f:=cP) (fun _=>rfl)];refine zr q30_1 fun _ _ Z=>?_;simp(disch:=omega)[iG,-bH,bI,aX,aI,aG];apply Z;refine zr q30_1 fun _ _ Z=>?_;simp(disch:=omega)[iG,-bH,bI,aX,aI,aG];and_intros<;>(try omega);apply Z;refine zr q30_1 fun _ _ Z=>?_;simp(disch:=omega)[iG,-bH,bI,aX,aI,aG];and_intros<;>(try omega);apply Z;apply aE;refine zr q30_1 fun _ _ Z=>?_;simp(disch:=omega)[iG,-bH,bI,aX,aI,aG];apply Z;refine zI ?_ ?_<;>intro c1<;>try simp at c1
 apply zA;refine zr q30_1 fun _ _ Z=>?_;simp(disch:=omega)[iG,-bH,bI,aX,aI,aG];and_intros<;>(try omega);apply Z;apply aE;refine zk [0,1,2,6,7,8] ?_;refine zr q30_1 fun _ _ Z=>?_;simp(disch:=omega)[iG,-bH,bI,aX,aI,aG];apply Z;refine zI ?_ ?_<;>intro c2<;>try simp at c2
 .refine zr q30_1 fun _ _ Z=>?_;refine zs 3 fun _ Y=>?_;simp(disch:=omega)[iG,-bH,bI,aX,aI,aG];refine⟨by first | rfl | exact⟨rfl,rfl⟩ | trivial,_,l.map cQ,⟨rfl,by simp only [aZ,dJ (f:=cP) (k:=2) (fun _=>rfl),cR];omega,by simp,hes,by rw [cX (f:=cP) (fun _=>rfl)];exact dC _ _,by simp;omega,by simp;omega⟩,?_⟩;and_intros<;>(try omega);apply Y;simp(disch:=omega)[iG,-bH,bI,aX,aI,aG];apply Z;apply aC;obtain rfl:i=l.length:=by omega
  simp [aH,fQ]
 apply zA;apply aE;refine zr q30_1 fun _ _ Z=>?_;simp(disch:=omega)[iG,-bH,bI,aX,aI,aG];and_intros<;>(try omega);apply Z;refine zI ?_ ?_<;>intro c3<;>try simp at c3
 .refine zk [0,1,2,6,7,8] ?_;refine zr q30_1 fun _ _ Z=>?_;refine zs 8 fun _ Y=>?_;simp(disch:=omega)[iG,-bH,bI,aX,aI,aG];and_intros<;>(try omega);apply Y;refine zs 1 fun _ Y=>?_;simp(disch:=omega)[iG,-bH,bI,aX,aI,aG];refine⟨(l.take i).map cQ,⟨⟨by simp;omega,by first | exact Gd (f:=cP) (fun _=>rfl) l i | exact Eb (f:=cP) (fun _=>rfl) l i _⟩,(mR (d:=cQ) (fun _=>⟨rfl,rfl⟩) _),by omega,by omega,by omega,by omega,by first | rfl | exact⟨rfl,rfl⟩ | trivial⟩,?_⟩;and_intros<;>(try omega);apply Y;simp(disch:=omega)[iG,-bH,bI,aX,aI,aG];apply Z;refine sO 9 2 rfl (by decide) fun cap2 rest2 hcap2 hcm2 hrest2 hk2 hes2=>?_;simp only [aZ,bQ,bG,cR,kQ hi] at hcap2 hrest2 |-;rw [gR,show List.flatMap D.cells (List.take i (List.map cQ l))=(l.take i).flatMap cP from by rw [<- vH];exact cX (f:=cP) (fun _=>rfl) _];simp only [bW];have hR:((List.replicate (l.length+1 - i) (vZ 2 #[.string ⟨#[]⟩,.int .i64 0])).flatMap D.cells++rest2).length=(cap2 - i) * 2:=by rw [aZ,Rw (k:=2) rfl,hrest2];omega
  generalize (List.replicate (l.length+1 - i) (vZ 2 #[.string ⟨#[]⟩,.int .i64 0])).flatMap D.cells++rest2=R at hR |-;refine zk [0,1,2,6,7,8,9] ?_;refine zr q30_1 fun _ _ Z=>?_;simp(disch:=omega)[iG,-bH,bI,aX,aI,aG];have hlt:i<l.length:=by omega
  refine⟨by omega, [cQ x],_,⟨rfl,(fun y hy=>by simp only [fS] at hy;subst hy;exact⟨rfl,rfl⟩),rfl,by simp only [aZ,dJ (f:=cP) (k:=2) (fun _=>rfl),show ∀a,(cP a).length=2 from fun _=>rfl,cR,bQ,dI,bG,bJ,cY] at *;omega⟩,?_⟩;rw [show min [cQ x].length (l.length+1 - i)=1 by first | (simp;done) | (simp;omega),show List.flatMap D.cells (List.take 1 [cQ x])=cP x from rfl];have row:=Le (f:=cP) (k:=2) (fun _=>rfl) l i x R hlt (by rw [hR];omega)
  skip
  rw [row];clear row;have hR3:(R.drop 2).length=(cap2 - i - 1) * 2:=by rw [dI,hR];omega
  generalize R.drop 2=R3 at hR3 |-;and_intros<;>(try omega);apply Z;refine zk [0,1,2,6,7,8,9] ?_;refine zd q30_1 [.op {},.op {},.op {},.op {},.op {},.op {},.op {},.op {},.op {rO:=true,wO:=true}] fun all hall _ Z=>?_;refine kF 8 fun _ Y=>?_;simp(disch:=omega)[iG,-bH,bI,aX,aI,aG];and_intros<;>(try omega);apply Y;simp(disch:=omega)[iG,-bH,bI,aX,aI,aG];refine⟨(l.drop i).map cQ,_,⟨⟨by simp,by have:=Kq (f:=cP) (d:=cQ) (k:=2) (fun _=>rfl) (fun _=>rfl) l i 0 hlt;first | exact this | simpa using this⟩,(mR (d:=cQ) (fun _=>⟨rfl,rfl⟩) _),rfl,by simp only [aZ,dJ (f:=cP) (k:=2) (fun _=>rfl),show ∀a,(cP a).length=2 from fun _=>rfl,cR,bQ,dI,bG,bJ,cY] at *;omega⟩,?_⟩;rw [show min ((l.drop i).map cQ).length (l.length - i)=l.length - i by simp,bZ (show((l.drop i).map cQ).length<=l.length - i by simp)];have row:=Jr (f:=cP) (d:=cQ) (k:=2) (fun _=>rfl) (fun _=>rfl) l i x R3 hlt (by rw [hR3];omega)
  skip
  rw [row];clear row;have hR4:(R3.drop ((l.length - i) * 2)).length=(cap2 - i - 1 - (l.length - i)) * 2:=by rw [dI,hR3];omega
  generalize R3.drop _=R4 at hR4 |-;and_intros<;>(try omega);apply Z;refine zk [0,1,2,6,7,8,9] ?_;refine zr q30_1 fun _ _ Z=>?_;simp(disch:=omega)[iG,-bH,bI,aX,aI,aG];apply Z;refine fI 6 2 (σ.length+1) (l.length+1) cap2 ((fQ l i x).map cQ) ((fQ l i x).flatMap cP++R4) (by simp <;> rfl) (by simp [bI,aI]) (by omega) (by have:=jS l i x hi;simp only [aZ,dJ (f:=cP) (k:=2) (fun _=>rfl),this] at *;omega) (by simp [jS l i x hi]) (mR (d:=cQ) (fun _=>⟨rfl,rfl⟩) _) (by rw [cX (f:=cP) (fun _=>rfl)];exact dC _ _) ?_;apply aC;simp [aH]
 apply zA;refine zk [0,1,2,6,7,8] ?_;refine zr q30_1 fun _ _ Z=>?_;simp(disch:=omega)[iG,-bH,bI,aX,aI,aG];and_intros<;>(try omega);apply Z;apply aE;refine zk [0,1,2,6,7,8] ?_;refine zr q30_1 fun _ _ Z=>?_;simp(disch:=omega)[iG,-bH,bI,aX,aI,aG];and_intros<;>(try omega);apply Z;refine zI ?_ ?_<;>intro c4<;>try simp at c4
 refine zk [0,1,2,6,7,8] ?_;refine zd q30_1 [.op {},.op {},.op {},.op {},.op {},.op {},.op {},.op {},.op {rO:=true,wO:=true}] fun all hall _ Z=>?_;refine kF 8 fun _ Y=>?_;simp(disch:=omega)[iG,-bH,bI,aX,aI,aG];and_intros<;>(try omega);apply Y;simp(disch:=omega)[iG,-bH,bI,aX,aI,aG];have hlt:i<l.length:=by omega
 refine⟨(l.drop i).map cQ++ [Bx 2],_,⟨⟨by first | (simp;done) | (simp;omega),by have:=So (f:=cP) (d:=cQ) (k:=2) (fun _=>rfl) (fun _=>rfl) l i ((cap - l.length) * 2) hlt (show 2<=((cap - l.length) * 2) by omega);first | exact this | simpa using this⟩,Yq (d:=cQ) (fun _=>⟨rfl,rfl⟩) _,rfl,by simp only [aZ,dJ (f:=cP) (k:=2) (fun _=>rfl),show ∀a,(cP a).length=2 from fun _=>rfl,cR,bQ,dI,bG,bJ,cY] at *;omega⟩,?_⟩;rw [show min ((l.drop i).map cQ++ [Bx 2]).length (l.length - i)=l.length - i by first | (simp;done) | (simp;omega)];have row:=Mc (f:=cP) (d:=cQ) (k:=2) (fun _=>rfl) (fun _=>rfl) l i ((cap - l.length) * 2) hlt (show 2<=((cap - l.length) * 2) by omega)
 skip
 rw [row];clear row;have hR:(List.replicate (((cap - l.length) * 2) - 2) D.any).length=((cap - l.length) * 2) - 2:=cR;generalize List.replicate _ D.any=R at hR |-;and_intros<;>(try omega);apply Z;refine zk [0,1,2,6,7,8] ?_;refine zr q30_1 fun _ _ Z=>?_;simp(disch:=omega)[iG,-bH,bI,aX,aI,aG];refine⟨by omega, [cQ x],_,⟨rfl,(fun y hy=>by simp only [fS] at hy;subst hy;exact⟨rfl,rfl⟩),rfl,by simp only [aZ,dJ (f:=cP) (k:=2) (fun _=>rfl),show ∀a,(cP a).length=2 from fun _=>rfl,cR,bQ,dI,bG,bJ,cY] at *;omega⟩,?_⟩;rw [show min [cQ x].length (l.length+1 - i)=1 by first | (simp;done) | (simp;omega),show List.flatMap D.cells (List.take 1 [cQ x])=cP x from rfl];have row:=Me (f:=cP) (k:=2) (fun _=>rfl) l i x R hlt
 skip
 rw [row];clear row;and_intros<;>(try omega);apply Z;refine zr q30_1 fun _ _ Z=>?_;simp(disch:=omega)[iG,-bH,bI,aX,aI,aG];apply Z;refine fI 6 2 σ.length (l.length+1) cap ((fQ l i x).map cQ) ((fQ l i x).flatMap cP++R) (by simp <;> rfl) (by simp [bI,aI]) (by omega) (by have:=jS l i x hi;simp only [aZ,dJ (f:=cP) (k:=2) (fun _=>rfl),this] at *;omega) (by simp [jS l i x hi]) (mR (d:=cQ) (fun _=>⟨rfl,rfl⟩) _) (by rw [cX (f:=cP) (fun _=>rfl)];exact dC _ _) ?_;apply aC;simp [aH]
theorem aS9(N:Nat)(l:List PI):Sc N (.xs 2 (l.map cQ)):=Sc.xs fun e he y hy=>by
 obtain⟨a,_,rfl⟩:=aV.1 he;simp only [D.cells,bM,gX,iB] at hy;rcases hy with rfl | rfl <;> exact Sc.v _
theorem aRt(l:List PI)(x:PI)(i:Nat)(σ:List (List D))(hl:l.length<=1000000)(hi:i<=l.length):Ct prog 225 [.xs 2 (l.map cQ),D.int i,.sl true [cQ x]] σ (fun r σ'=>r= .xs 2 ((fQ l i x).map cQ)/\σ'=σ):=
 (aK4 l x i σ hl hi).trim fun r σ' ⟨hr,J,hs⟩=>⟨σ,J,hs,rfl,by rw [hr];exact aS9 _ _,fun n cs h=> .inl h,hr,rfl⟩
end Go.Proofs.YtbgfljpnhhdkoaaGreat
