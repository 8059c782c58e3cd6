import Derived.Test.YtbgfljpnhhdkoaaGreatWkAr5
set_option maxRecDepth 20000
set_option linter.all false
set_option maxHeartbeats 8000000
open Go.Proofs.Tryz
namespace Go.Proofs.YtbgfljpnhhdkoaaGreat
open Go Go.Vm
variable {c:ByteArray}{j k:Nat}{l:List PI}
section
variable {o:List AT} {b:Bool} {x p:AT}
theorem Eu(hb:b=false)(h:Op.bytesLess x.name.toList p.name.toList=false)(e:x.name=p.name):mT nA p (o,b) x=(o++ [p],true):=by
 have e':nA x=nA p:=e;have h2:b=false/\dS (nA x) (nA p)=false:=⟨hb,h⟩;unfold mT;dsimp only;rw [if_pos e',if_pos h2]
theorem Gy(hb:b=false)(h:Op.bytesLess x.name.toList p.name.toList=false)(e:¬x.name=p.name):mT nA p (o,b) x=(o++ [p]++ [x],true):=by
 have e':¬nA x=nA p:=e;have h2:b=false/\dS (nA x) (nA p)=false:=⟨hb,h⟩;unfold mT;dsimp only;rw [if_neg e',if_pos h2]
theorem Gg(h:Op.bytesLess x.name.toList p.name.toList=true)(e:x.name=p.name):mT nA p (o,b) x=(o,b):=by
 have e':nA x=nA p:=e;have h2:¬(b=false/\dS (nA x) (nA p)=false):=fun q=>by have h3:dS (nA x) (nA p)=true:=h;rw [h3] at q;cases q.2
 unfold mT;dsimp only;rw [if_pos e',if_neg h2]
theorem Gm(h:Op.bytesLess x.name.toList p.name.toList=true)(e:¬x.name=p.name):mT nA p (o,b) x=(o++ [x],b):=by
 have e':¬nA x=nA p:=e;have h2:¬(b=false/\dS (nA x) (nA p)=false):=fun q=>by have h3:dS (nA x) (nA p)=true:=h;rw [h3] at q;cases q.2
 unfold mT;dsimp only;rw [if_neg e',if_neg h2]
theorem Ha(h:b=true)(e:x.name=p.name):mT nA p (o,b) x=(o,b):=by
 have e':nA x=nA p:=e;have h2:¬(b=false/\dS (nA x) (nA p)=false):=fun q=>by rw [h] at q;cases q.1
 unfold mT;dsimp only;rw [if_pos e',if_neg h2]
theorem Gj(h:b=true)(e:¬x.name=p.name):mT nA p (o,b) x=(o++ [x],b):=by
 have e':¬nA x=nA p:=e;have h2:¬(b=false/\dS (nA x) (nA p)=false):=fun q=>by rw [h] at q;cases q.1
 unfold mT;dsimp only;rw [if_neg e',if_neg h2]
end
@[simp] abbrev q33_1:Cfg:=⟨[4,5,25,34,41,45],[],[],[],[]⟩
theorem Vq(l:List AT)(p:AT)(σ:List (List D))(hl:l.length<=99999)(hs:Sorted nA l):Ct prog 72 [.sl false (l.map dA),dA p] σ (fun r σ'=>r= .sl true ((fU nA l p).map dA)/\σ'=σ):=by
 refine zf func72 ?_;refine zr q33_1 fun _ _ Z=>?_;simp(disch:=omega)[aA,aB];apply Z;refine zr q33_1 fun _ _ Z=>?_;simp(disch:=omega)[aA,aB];and_intros<;>(try omega);apply Z;refine zr q33_1 fun _ _ Z=>?_;simp(disch:=omega)[aA,aB];apply Z;apply aE;refine zr q33_1 fun _ _ Z=>?_;simp(disch:=omega)[aA,aB];and_intros<;>(try omega);apply Z;apply aR;refine zk [3,4,5,6,10,11,12] ?_;refine aY (fun(k:Nat)=> [(12,.d (.v (.int .i64 (k:Int)))),(5,.d (.sl true ((rT nA (l.take k) p).1.map dA))),(6,.d (.bool (rT nA (l.take k) p).2))]) [5,6,8,12,13,14,15,16,17,18,19,20,21,22,23,24,25,26,27,28,29,30,31,32,33,34,35,36,37,38] (fun(k:Nat)=>k<=l.length) (fun(k:Nat)=>l.length - k) (0) (by simp <;> rfl) ?_ ?_ ?_
 .simp [rT]
 .simp
 rintro k hk;simp only [aQ,aO];have hpl:=aDn nA (l.take k) p;simp only [bG] at hpl;generalize hps:rT nA (l.take k) p=s at hpl |-;obtain⟨o,b⟩:=s;have hpl2:o.length<=k+1:=by simp only at hpl;split at hpl <;> omega
 dsimp only;refine zr q33_1 fun _ _ Z=>?_;simp(disch:=omega)[aA,aB];apply Z;apply aE;refine zI ?_ ?_<;>intro c1<;>try simp at c1
 .apply jM;refine zr q33_1 fun _ _ Z=>?_;simp(disch:=omega)[aA,aB];and_intros<;>(try omega);apply Z;apply aE;refine mH q33_1 fun all hall _ Z=>?_;have ga2:aN all 2=some 18:=hall 2;refine zs 3 fun _ Y=>?_;simp(disch:=omega)[aA,aB,ga2];apply Y;refine zb 18 ?_ ?_<;>intro g2<;>try simp at g2
  .simp(disch:=omega)[aA,aB,ga2];apply Z;refine zI ?_ ?_<;>intro c3<;>try simp at c3
   .refine zk [3,4,5,6,8,10,11,12] ?_;refine zr q33_1 fun _ _ Z=>?_;simp(disch:=omega)[aA,aB];and_intros<;>(try omega);apply Z;refine zk [3,4,5,6,8,10,11,12] ?_;refine zt q33_1 fun _ _ Z=>?_;simp(disch:=omega)[aA,aB];apply Z;apply fW;refine zr q33_1 fun _ _ Z=>?_;simp(disch:=omega)[aA,aB];apply Z;refine zI ?_ ?_<;>intro c4<;>try simp at c4
    .refine zk [3,4,5,6,8,10,11,12] ?_;refine zt q33_1 fun _ _ Z=>?_;simp(disch:=omega)[aA,aB];and_intros<;>(try omega);apply Z;apply zB;refine zk [3,4,5,6,10,11,12] ?_;refine zt q33_1 fun _ _ Z=>?_;simp(disch:=omega)[aA,aB];and_intros<;>(try omega);apply Z;refine zq (k+1) ?_ ?_ ?_
     .omega
     .try dsimp only
      omega
     rw [pZ nA l p k (by omega),hps];first | rw [Eu (by assumption) (by assumption) (by assumption)] | rw [Gy (by assumption) (by assumption) (by assumption)] | rw [Gg (by assumption) (by assumption)] | rw [Gm (by assumption) (by assumption)] | rw [Ha (by first | assumption | simpa using g2) (by assumption)] | rw [Gj (by first | assumption | simpa using g2) (by assumption)]
     simp [*]
    apply mS;refine zk [3,4,5,6,10,11,12] ?_;refine zt q33_1 fun _ _ Z=>?_;simp(disch:=omega)[aA,aB];and_intros<;>(try omega);apply Z;refine zq (k+1) ?_ ?_ ?_
    .omega
    .try dsimp only
     omega
    rw [pZ nA l p k (by omega),hps];first | rw [Eu (by assumption) (by assumption) (by assumption)] | rw [Gy (by assumption) (by assumption) (by assumption)] | rw [Gg (by assumption) (by assumption)] | rw [Gm (by assumption) (by assumption)] | rw [Ha (by first | assumption | simpa using g2) (by assumption)] | rw [Gj (by first | assumption | simpa using g2) (by assumption)]
    simp [*]
   apply zA;refine zk [3,4,5,6,8,10,11,12] ?_;refine zr q33_1 fun _ _ Z=>?_;simp(disch:=omega)[aA,aB];apply Z;refine zI ?_ ?_<;>intro c5<;>try simp at c5
   .refine zk [3,4,5,6,8,10,11,12] ?_;refine zt q33_1 fun _ _ Z=>?_;simp(disch:=omega)[aA,aB];and_intros<;>(try omega);apply Z;apply zB;refine zk [3,4,5,6,10,11,12] ?_;refine zt q33_1 fun _ _ Z=>?_;simp(disch:=omega)[aA,aB];and_intros<;>(try omega);apply Z;refine zq (k+1) ?_ ?_ ?_
    .omega
    .try dsimp only
     omega
    rw [pZ nA l p k (by omega),hps];first | rw [Eu (by assumption) (by assumption) (by assumption)] | rw [Gy (by assumption) (by assumption) (by assumption)] | rw [Gg (by assumption) (by assumption)] | rw [Gm (by assumption) (by assumption)] | rw [Ha (by first | assumption | simpa using g2) (by assumption)] | rw [Gj (by first | assumption | simpa using g2) (by assumption)]
    simp [*]
   apply mS;refine zk [3,4,5,6,10,11,12] ?_;refine zt q33_1 fun _ _ Z=>?_;simp(disch:=omega)[aA,aB];and_intros<;>(try omega);apply Z;refine zq (k+1) ?_ ?_ ?_
   .omega
   .try dsimp only
    omega
   rw [pZ nA l p k (by omega),hps];first | rw [Eu (by assumption) (by assumption) (by assumption)] | rw [Gy (by assumption) (by assumption) (by assumption)] | rw [Gg (by assumption) (by assumption)] | rw [Gm (by assumption) (by assumption)] | rw [Ha (by first | assumption | simpa using g2) (by assumption)] | rw [Gj (by first | assumption | simpa using g2) (by assumption)]
   simp [*]
  simp(disch:=omega)[aA,aB,ga2];apply Z;refine bA (t:=false) (by simp) (fun h=>by cases h) (fun _=>?_);apply zA;refine zk [3,4,5,6,8,10,11,12] ?_;refine zr q33_1 fun _ _ Z=>?_;simp(disch:=omega)[aA,aB];apply Z;refine zI ?_ ?_<;>intro c6<;>try simp at c6
  .refine zk [3,4,5,6,8,10,11,12] ?_;refine zt q33_1 fun _ _ Z=>?_;simp(disch:=omega)[aA,aB];and_intros<;>(try omega);apply Z;apply zB;refine zk [3,4,5,6,10,11,12] ?_;refine zt q33_1 fun _ _ Z=>?_;simp(disch:=omega)[aA,aB];and_intros<;>(try omega);apply Z;refine zq (k+1) ?_ ?_ ?_
   .omega
   .try dsimp only
    omega
   rw [pZ nA l p k (by omega),hps];first | rw [Eu (by assumption) (by assumption) (by assumption)] | rw [Gy (by assumption) (by assumption) (by assumption)] | rw [Gg (by assumption) (by assumption)] | rw [Gm (by assumption) (by assumption)] | rw [Ha (by first | assumption | simpa using g2) (by assumption)] | rw [Gj (by first | assumption | simpa using g2) (by assumption)]
   simp [*]
  apply mS;refine zk [3,4,5,6,10,11,12] ?_;refine zt q33_1 fun _ _ Z=>?_;simp(disch:=omega)[aA,aB];and_intros<;>(try omega);apply Z;refine zq (k+1) ?_ ?_ ?_
  .omega
  .try dsimp only
   omega
  rw [pZ nA l p k (by omega),hps];first | rw [Eu (by assumption) (by assumption) (by assumption)] | rw [Gy (by assumption) (by assumption) (by assumption)] | rw [Gg (by assumption) (by assumption)] | rw [Gm (by assumption) (by assumption)] | rw [Ha (by first | assumption | simpa using g2) (by assumption)] | rw [Gj (by first | assumption | simpa using g2) (by assumption)]
  simp [*]
 obtain rfl:k=l.length:=by omega
 rw [dY] at hps;apply zE;apply aE;refine zr q33_1 fun _ _ Z=>?_;simp(disch:=omega)[aA,aB];apply Z;refine zI ?_ ?_<;>intro c7<;>try simp at c7
 .refine zt q33_1 fun _ _ Z=>?_;simp(disch:=omega)[aA,aB];and_intros<;>(try omega);apply Z;apply fW;refine zk [4,5] ?_;refine zr q33_1 fun _ _ Z=>?_;simp(disch:=omega)[aA,aB];apply Z;apply aC;simp [aH];rw [<- Oj nA hs p,hps];simp [aE6, *]
 apply zA;refine zr q33_1 fun _ _ Z=>?_;simp(disch:=omega)[aA,aB];apply Z;apply aC;simp [aH];rw [<- Oj nA hs p,hps];simp [aE6, *]
def Tq(l:List PI)(k j:Nat):Option PI:=Nf nP (l.take j) ((iC nP l).take k)
def wV(l:List PI)(k j:Nat):PI:=(Tq l k j).getD ⟨⟨#[]⟩,0⟩
def ahd(l:List PI)(k:Nat)(c:ByteArray):Bool:=rQ nP ((iC nP l).take k) c
theorem aX9(l:List PI)(k:Nat)(c:ByteArray)(h:k<(iC nP l).length):ahd l (k+1) c=dS (iC nP l)[k].name c:=by
 unfold ahd rQ;rw [bL (iC nP l) k h,List.getLast?_concat]
theorem Dr(l:List PI)(k j:Nat)(h:j<l.length):Tq l k (j+1)=if ahd l k l[j].name=true then(match Tq l k j with | none=>some l[j] | some q=>if dS (nP q) (nP l[j])=true then some q else some l[j])else Tq l k j:=by
 have e:=aGq nP l ((iC nP l).take k) j h;unfold Tq ahd;rw [e];cases Nf nP (l.take j) ((iC nP l).take k) <;> rfl
theorem tV (g:¬k=0)(hk:k<=(iC nP l).length)(c:ByteArray):ahd l k c=dS ((iC nP l)[k - 1]'(by omega)).name c:=by
 obtain⟨m,rfl⟩:∃m,k=m+1:=⟨k - 1,by omega⟩;exact aX9 l m c (by omega)
theorem fV(l:List PI)(k:Nat):(∀d:D,d∈List.take k (List.map cQ l)->d.ncells=2)↔True:=by
 refine⟨fun _=>trivial,fun _ d hd=>?_⟩;obtain⟨a,_,rfl⟩:=aV.1 (mD hd);rfl
theorem vQ (h:j<l.length)(ha:ahd l k l[j].name=true)(hc:(Tq l k j).isSome=false\/dS (wV l k j).name l[j].name=false):Tq l k (j+1)=some l[j]:=by
 rw [Dr l k j h,aK ha];unfold wV at hc;cases hq:Tq l k j with
 | none=>rfl
 | some q=>
  rw [hq] at hc;have:dS (nP q) (nP l[j])=false:=by simpa using hc
  simp [this]
theorem wD (h:j<l.length)(ha:ahd l k l[j].name=false):Tq l k (j+1)=Tq l k j:=by
 rw [Dr l k j h,aD (by rw [ha];simp)]
theorem vO (h:j<l.length)(h1:(Tq l k j).isSome=true)(h2:dS (wV l k j).name l[j].name=true):Tq l k (j+1)=Tq l k j:=by
 by_cases ha:ahd l k l[j].name=true
 .rw [Dr l k j h,aK ha];unfold wV at h2;cases hq:Tq l k j with
  | none=>rw [hq] at h1;cases h1
  | some q=>
   rw [hq] at h2;have:dS (nP q) (nP l[j])=true:=h2;simp [this]
 rw [Dr l k j h,aD ha]
theorem aOn (hk:k<=(iC nP l).length):Tq l k l.length=(iC nP l)[k]?:=by
 unfold Tq;rw [dY];exact aH2 nP l k hk
theorem aR5(l:List PI)(k:Nat):Tq l k 0=none:=aTh nP l _
@[simp] abbrev q33_2:Cfg:=⟨[2,3,48,49],[],[],[],[]⟩
theorem Ry(l:List PI)(σ:List (List D))(hl:l.length<=99999):Ct prog 73 [.sl false (l.map cQ)] σ (fun r σ'=>r= .sl true ((iC nP l).map cQ)/\σ'=σ):=by
 refine zf func73 ?_;refine zr q33_2 fun _ _ Z=>?_;simp(disch:=omega)[aA,aB,fV];apply Z;refine zr q33_2 fun _ _ Z=>?_;simp(disch:=omega)[aA,aB,fV];and_intros<;>(try omega);apply Z;apply aR;refine zk [0,2,3] ?_;refine aY (fun(k:Nat)=> [(3,.d (.sl true (((iC nP l).take k).map cQ)))]) [2,3,4,5,7,8,10,11,12,13,14,15,16,17,18,19,20,21,22,23,24,25,26,27,28,29,30,31,32,33,34,35,36,37,38,39,40,41,42,43,44,45,46,47,48,49,50,51,52] (fun(k:Nat)=>k<=(iC nP l).length) (fun(k:Nat)=>(iC nP l).length - k) (0) (by simp <;> rfl) ?_ ?_ ?_
 .simp
 .simp
 rintro k hk;simp only [aQ,aO];have hol:=iI nP l;have hlk:((iC nP l).take k).length=k:=by simp;omega
 apply aR;refine zr q33_2 fun _ _ Z=>?_;simp(disch:=omega)[aA,aB,fV];apply Z;refine zr q33_2 fun _ _ Z=>?_;simp(disch:=omega)[aA,aB,fV];apply Z;apply aE;refine zr q33_2 fun _ _ Z=>?_;simp(disch:=omega)[aA,aB,fV];and_intros<;>(try omega);apply Z;apply aR;refine zk [0,3,4,5,11,12,13] ?_;refine kI (fun(j:Nat)=> [(13,.d (.v (.int .i64 (j:Int)))),(4,.d (.bool (Tq l k j).isSome)),(8,.d (.any))]) (fun(j:Nat)=> [(0, [.v (.string ((wV l k j).name)),.v (.int .i64 ((wV l k j).value))])]) (fun(j:Nat)=> []) [4,7,8,13,14,15,16,17,18,19,20,21,22,23,24,25,26,27,28,29,30,31,32,33,34,35,36,37,38,39,40,41,42,43,44,45] (fun(j:Nat)=>j<=l.length) (fun(j:Nat)=>l.length - j) (0) (by simp <;> rfl) ?_ (by simp [wV,aR5]) (by simp) ?_ ?_
 .simp [aR5,wV]
 .simp
 rintro j hj;simp only [aQ,aO,lE,jP,gD,fY];refine zr q33_2 fun _ _ Z=>?_;simp(disch:=omega)[aA,aB,fV];apply Z;apply aE;refine zI ?_ ?_<;>intro c1<;>try simp at c1
 .apply jM;refine zr q33_2 fun _ _ Z=>?_;simp(disch:=omega)[aA,aB,fV];and_intros<;>(try omega);apply Z;refine zk [0,3,4,5,7,8,11,12,13] ?_;refine zd q33_2 [.op {},.op {},.op {},.op {},.op {},.op {rL:=true},.op {},.op {},.op {},.op {},.op {},.op {},.op {},.op {},.op {},.op {}] fun all hall _ Z=>?_;have ga3:aN all 3=some 20:=hall 3;refine kF 4 fun _ Y=>?_;simp(disch:=omega)[aA,aB,fV,ga3];and_intros<;>(try omega);apply Y;refine zbD 20 ?_ ?_<;>intro g2<;>try simp at g2
  .refine kF 8 fun _ Y=>?_;simp(disch:=omega)[aA,aB,fV,ga3];and_intros<;>(try omega);apply Y;simp(disch:=omega)[aA,aB,fV,ga3];apply Z;refine zk [0,3,4,5,7,8,11,12,13] ?_;refine mH q33_2 fun all hall _ Z=>?_;have ga1:aN all 1=some 33:=hall 1;have ga4:aN all 4=some 36:=hall 4;refine zs 2 fun _ Y=>?_;simp(disch:=omega)[aA,aB,fV,ga1,ga4];apply Y;refine zs 3 fun _ Y=>?_;simp(disch:=omega)[aA,aB,fV,ga1,ga4];apply Y;refine zb 36 ?_ ?_<;>intro g3<;>try simp at g3
   .simp(disch:=omega)[aA,aB,fV,ga1,ga4];apply Z;refine bA (t:=true) (by simp) (fun _=>?_) (fun h=>by cases h);refine zk [0,3,4,5,7,8,11,12,13] ?_;refine zr q33_2 fun _ _ Z=>?_;simp(disch:=omega)[aA,aB,fV];apply Z;refine zt q33_2 fun _ _ Z=>?_;simp(disch:=omega)[aA,aB,fV];apply Z;apply zB;refine zt q33_2 fun _ _ Z=>?_;simp(disch:=omega)[aA,aB,fV];and_intros<;>(try omega);apply Z;first | have hcn:=vQ (k:=k) c1 (by first | (rw [show k=0 from g2];rfl) | (rw [tV g2 hk];exact g5)) (by first | exact .inl (by rw [g3];rfl) | exact .inl (by rw [g6];rfl) | exact .inr c4 | exact .inr c7) | have hcn:=vO (k:=k) c1 (by first | exact g3 | exact g6) (by first | exact c4 | exact c7) | have hcn:=wD (k:=k) c1 (by rw [tV g2 hk];exact g5)
    refine fB (j+1) ?_ ?_ (dW rfl ?_ (by simp [wV,hcn]) (by simp))
    .omega
    .try dsimp only
     omega
    simp(disch:=omega)[aA,aB,fV,hcn]
   simp(disch:=omega)[aA,aB,fV,ga1,ga4];apply Z;refine zI ?_ ?_<;>intro c4<;>try simp at c4
   .refine zk [0,3,4,5,7,8,11,12,13] ?_;refine zr q33_2 fun _ _ Z=>?_;simp(disch:=omega)[aA,aB,fV];apply Z;refine zt q33_2 fun _ _ Z=>?_;simp(disch:=omega)[aA,aB,fV];apply Z;apply zB;refine zt q33_2 fun _ _ Z=>?_;simp(disch:=omega)[aA,aB,fV];and_intros<;>(try omega);apply Z;first | have hcn:=vQ (k:=k) c1 (by first | (rw [show k=0 from g2];rfl) | (rw [tV g2 hk];exact g5)) (by first | exact .inl (by rw [g3];rfl) | exact .inl (by rw [g6];rfl) | exact .inr c4 | exact .inr c7) | have hcn:=vO (k:=k) c1 (by first | exact g3 | exact g6) (by first | exact c4 | exact c7) | have hcn:=wD (k:=k) c1 (by rw [tV g2 hk];exact g5)
    refine fB (j+1) ?_ ?_ (dW rfl ?_ (by simp [wV,hcn]) (by simp))
    .omega
    .try dsimp only
     omega
    simp(disch:=omega)[aA,aB,fV,hcn]
   apply mS;refine zk [0,3,4,5,8,11,12,13] ?_;refine zt q33_2 fun _ _ Z=>?_;simp(disch:=omega)[aA,aB,fV];and_intros<;>(try omega);apply Z;first | have hcn:=vQ (k:=k) c1 (by first | (rw [show k=0 from g2];rfl) | (rw [tV g2 hk];exact g5)) (by first | exact .inl (by rw [g3];rfl) | exact .inl (by rw [g6];rfl) | exact .inr c4 | exact .inr c7) | have hcn:=vO (k:=k) c1 (by first | exact g3 | exact g6) (by first | exact c4 | exact c7) | have hcn:=wD (k:=k) c1 (by rw [tV g2 hk];exact g5)
   refine fB (j+1) ?_ ?_ (dW rfl ?_ (by simp [wV,hcn]) (by simp))
   .omega
   .try dsimp only
    omega
   simp(disch:=omega)[aA,aB,fV,hcn]
  refine kF 8 fun _ Y=>?_;simp(disch:=omega)[aA,aB,fV,ga3];and_intros<;>(try omega);apply Y;simp(disch:=omega)[aA,aB,fV,ga3];apply Z;refine zk [0,3,4,5,7,8,11,12,13] ?_;refine mH q33_2 fun all hall _ Z=>?_;have ga1:aN all 1=some 33:=hall 1;have ga4:aN all 4=some 36:=hall 4;refine zs 2 fun _ Y=>?_;simp(disch:=omega)[aA,aB,fV,ga1,ga4];apply Y;refine zb 33 ?_ ?_<;>intro g5<;>try simp at g5
  .refine zs 3 fun _ Y=>?_;simp(disch:=omega)[aA,aB,fV,ga1,ga4];apply Y;refine zb 36 ?_ ?_<;>intro g6<;>try simp at g6
   .simp(disch:=omega)[aA,aB,fV,ga1,ga4];apply Z;refine bA (t:=true) (by simp) (fun _=>?_) (fun h=>by cases h);refine zk [0,3,4,5,7,8,11,12,13] ?_;refine zr q33_2 fun _ _ Z=>?_;simp(disch:=omega)[aA,aB,fV];apply Z;refine zt q33_2 fun _ _ Z=>?_;simp(disch:=omega)[aA,aB,fV];apply Z;apply zB;refine zt q33_2 fun _ _ Z=>?_;simp(disch:=omega)[aA,aB,fV];and_intros<;>(try omega);apply Z;first | have hcn:=vQ (k:=k) c1 (by first | (rw [show k=0 from g2];rfl) | (rw [tV g2 hk];exact g5)) (by first | exact .inl (by rw [g3];rfl) | exact .inl (by rw [g6];rfl) | exact .inr c4 | exact .inr c7) | have hcn:=vO (k:=k) c1 (by first | exact g3 | exact g6) (by first | exact c4 | exact c7) | have hcn:=wD (k:=k) c1 (by rw [tV g2 hk];exact g5)
    refine fB (j+1) ?_ ?_ (dW rfl ?_ (by simp [wV,hcn]) (by simp))
    .omega
    .try dsimp only
     omega
    simp(disch:=omega)[aA,aB,fV,hcn]
   simp(disch:=omega)[aA,aB,fV,ga1,ga4];apply Z;refine zI ?_ ?_<;>intro c7<;>try simp at c7
   .refine zk [0,3,4,5,7,8,11,12,13] ?_;refine zr q33_2 fun _ _ Z=>?_;simp(disch:=omega)[aA,aB,fV];apply Z;refine zt q33_2 fun _ _ Z=>?_;simp(disch:=omega)[aA,aB,fV];apply Z;apply zB;refine zt q33_2 fun _ _ Z=>?_;simp(disch:=omega)[aA,aB,fV];and_intros<;>(try omega);apply Z;first | have hcn:=vQ (k:=k) c1 (by first | (rw [show k=0 from g2];rfl) | (rw [tV g2 hk];exact g5)) (by first | exact .inl (by rw [g3];rfl) | exact .inl (by rw [g6];rfl) | exact .inr c4 | exact .inr c7) | have hcn:=vO (k:=k) c1 (by first | exact g3 | exact g6) (by first | exact c4 | exact c7) | have hcn:=wD (k:=k) c1 (by rw [tV g2 hk];exact g5)
    refine fB (j+1) ?_ ?_ (dW rfl ?_ (by simp [wV,hcn]) (by simp))
    .omega
    .try dsimp only
     omega
    simp(disch:=omega)[aA,aB,fV,hcn]
   apply mS;refine zk [0,3,4,5,8,11,12,13] ?_;refine zt q33_2 fun _ _ Z=>?_;simp(disch:=omega)[aA,aB,fV];and_intros<;>(try omega);apply Z;first | have hcn:=vQ (k:=k) c1 (by first | (rw [show k=0 from g2];rfl) | (rw [tV g2 hk];exact g5)) (by first | exact .inl (by rw [g3];rfl) | exact .inl (by rw [g6];rfl) | exact .inr c4 | exact .inr c7) | have hcn:=vO (k:=k) c1 (by first | exact g3 | exact g6) (by first | exact c4 | exact c7) | have hcn:=wD (k:=k) c1 (by rw [tV g2 hk];exact g5)
   refine fB (j+1) ?_ ?_ (dW rfl ?_ (by simp [wV,hcn]) (by simp))
   .omega
   .try dsimp only
    omega
   simp(disch:=omega)[aA,aB,fV,hcn]
  refine zs 8 fun _ Y=>?_;simp(disch:=omega)[aA,aB,fV,ga1,ga4];and_intros<;>(try omega);apply Y;simp(disch:=omega)[aA,aB,fV,ga1,ga4];apply Z;refine bA (t:=false) (by simp) (fun h=>by cases h) (fun _=>?_);apply mS;refine zk [0,3,4,5,8,11,12,13] ?_;refine zt q33_2 fun _ _ Z=>?_;simp(disch:=omega)[aA,aB,fV];and_intros<;>(try omega);apply Z;first | have hcn:=vQ (k:=k) c1 (by first | (rw [show k=0 from g2];rfl) | (rw [tV g2 hk];exact g5)) (by first | exact .inl (by rw [g3];rfl) | exact .inl (by rw [g6];rfl) | exact .inr c4 | exact .inr c7) | have hcn:=vO (k:=k) c1 (by first | exact g3 | exact g6) (by first | exact c4 | exact c7) | have hcn:=wD (k:=k) c1 (by rw [tV g2 hk];exact g5)
  refine fB (j+1) ?_ ?_ (dW rfl ?_ (by simp [wV,hcn]) (by simp))
  .omega
  .try dsimp only
   omega
  simp(disch:=omega)[aA,aB,fV,hcn]
 obtain rfl:j=l.length:=by omega
 have hce:=aOn hk;apply zE;apply aE;refine zr q33_2 fun _ _ Z=>?_;simp(disch:=omega)[aA,aB,fV];apply Z;refine zI ?_ ?_<;>intro c8<;>try simp at c8
 .refine zr q33_2 fun _ _ Z=>?_;simp(disch:=omega)[aA,aB,fV];apply Z;apply aC;simp [aH];rw [hce] at c8;rw [bZ (by simpa using List.getElem?_eq_none_iff.1 c8)]
 have hk2:k<(iC nP l).length:=by
   rcases uQ k (iC nP l).length with h | h
   .exact h
   rw [hce,iR h] at c8;exact absurd c8 (by simp)
 have hcd:wV l k l.length=(iC nP l)[k]:=by unfold wV;rw [hce,aS hk2];rfl
 have htk:List.take (k+1) (List.map cQ (iC nP l))=List.take k (List.map cQ (iC nP l))++ [cQ (iC nP l)[k]]:=by rw [bL _ k (by simpa using hk2),kN]
 apply zA;refine zt q33_2 fun _ _ Z=>?_;simp(disch:=omega)[aA,aB,fV];and_intros<;>(try omega);apply Z;apply lL;refine zq (k+1) ?_ ?_ ?_
 .omega
 .try dsimp only
  omega
 simp(disch:=omega)[aA,aB,fV,hcd,htk]
@[simp] abbrev q33_3:Cfg:=⟨[4,5,20,25],[],[],[],[]⟩
theorem aF3(l:List PI)(c:ByteArray)(σ:List (List D))(hl:l.length<=99999)(hs:Sorted nP l):Ct prog 76 [.sl false (l.map cQ),D.str c] σ (fun r σ'=>r= .sl true ((lF nP l c).map cQ)/\σ'=σ):=by
 refine zf func76 ?_;refine zr q33_3 fun _ _ Z=>?_;simp(disch:=omega);apply Z;refine zr q33_3 fun _ _ Z=>?_;simp(disch:=omega);and_intros<;>(try omega);apply Z;apply aE;refine zr q33_3 fun _ _ Z=>?_;refine zs 1 fun _ Y=>?_;simp(disch:=omega);apply Y;refine aF fun _ Y=>?_;simp(disch:=omega);refine cT (Ry l _ hl) ?_;rw [rP nP hs];apply Y;simp(disch:=omega);and_intros<;>(try omega);apply Z;apply aR;refine zk [1,4,5,10,11,12] ?_;refine aY (fun(k:Nat)=> [(12,.d (.v (.int .i64 (k:Int)))),(5,.d (.sl true ((lF nP (l.take k) c).map cQ)))]) [5,7,12,13,14,15,16,17,18,19,20,21,22,23,24] (fun(k:Nat)=>k<=l.length) (fun(k:Nat)=>l.length - k) (0) (by simp <;> rfl) ?_ ?_ ?_
 .simp [lF]
 .simp
 rintro k hk;simp only [aQ,aO];have hdl:=Ed nP (l.take k) c;simp only [bG] at hdl;refine zr q33_3 fun _ _ Z=>?_;simp(disch:=omega);apply Z;apply aE;refine zI ?_ ?_<;>intro c1<;>try simp at c1
 .apply jM;refine zr q33_3 fun _ _ Z=>?_;simp(disch:=omega);and_intros<;>(try omega);apply Z;refine zr q33_3 fun _ _ Z=>?_;simp(disch:=omega);apply Z;refine zI ?_ ?_<;>intro c2<;>try simp at c2
  .refine zk [1,4,5,7,10,11,12] ?_;refine zt q33_3 fun _ _ Z=>?_;simp(disch:=omega);and_intros<;>(try omega);apply Z;apply zB;refine zk [1,4,5,10,11,12] ?_;refine zt q33_3 fun _ _ Z=>?_;simp(disch:=omega);and_intros<;>(try omega);apply Z;refine zq (k+1) ?_ ?_ ?_
   .omega
   .try dsimp only
    omega
   simp(disch:=omega)[yM, *]
  apply mS;refine zk [1,4,5,10,11,12] ?_;refine zt q33_3 fun _ _ Z=>?_;simp(disch:=omega);and_intros<;>(try omega);apply Z;refine zq (k+1) ?_ ?_ ?_
  .omega
  .try dsimp only
   omega
  simp(disch:=omega)[yM, *]
 apply zE;refine zr q33_3 fun _ _ Z=>?_;simp(disch:=omega);apply Z;apply aC;simp [aH];rw [bZ (by omega)]
theorem Uk :mA nP l c=true↔∃j,∃h:j<l.length,l[j].name=c:=by
 unfold mA;rw [oW];constructor
 .rintro⟨x,hx,e⟩;obtain⟨j,hj,rfl⟩:=iN hx;exact⟨j,hj,by simpa using e⟩
 rintro⟨j,hj,e⟩;exact⟨l[j],bS hj,by simpa using e⟩
theorem aAl (hh:∀j (h:j<l.length),k<=j->l[j].name≠c) {hk:k - 1<l.length} (c2:¬l[k - 1].name=c)(h:j<l.length)(h2:k - 1<=j):l[j].name≠c:=by
 rcases uQ j k with h3 | h3
 .obtain rfl:j=k - 1:=by omega
  exact c2
 exact hh j h h3
theorem aTo (h:∀j (h:j<l.length),0<=j->l[j].name≠c):mA nP l c=false:=by
 rw [<- zV,Uk];rintro⟨j,hj,e⟩;exact h j hj (iM _) e
theorem aOg(l:List PI)(c:ByteArray)(σ:List (List D))(hl:l.length<=99999):Ct prog 75 [.sl false (l.map cQ),D.str c] σ (fun r σ'=>(∃v:Int,r= .tup [D.int v,.bool (mA nP l c)])/\σ'=σ):=by
 refine zf func75 ?_;refine bB fun _ _ Z=>?_;simp(disch:=omega)[qM];apply Z;apply aE;refine bB fun _ _ Z=>?_;simp(disch:=omega)[qM];and_intros<;>(try omega);apply Z;apply aR;refine zk [0,1,4,5,6] ?_;refine aY (fun(k:Nat)=> [(6,.d (.int ((k:Int) - 1)))]) [4,5,6,10,11,12,13,14,15,16,17,18,19,20,21,22,23,24,25] (fun(k:Nat)=>k<=l.length/\∀j (h:j<l.length),k<=j->l[j].name≠c) (fun(k:Nat)=>k) (l.length) (by simp <;> rfl) ?_ ?_ ?_
 .simp
 .exact⟨aW _,fun j h h2=>by omega⟩
 rintro k ⟨hk,hh⟩;simp only [aQ,aO];have htn:1<=k->((k:Int) - 1).toNat=k - 1:=fun h=>by omega
 apply aE;refine bB fun _ _ Z=>?_;simp(disch:=omega)[qM];apply Z;refine zI ?_ ?_<;>intro c1<;>try simp at c1
 .have hk1:1<=k:=by omega
  have htn1:=htn hk1;apply jM;refine bB fun _ _ Z=>?_;simp(disch:=omega)[qM];and_intros<;>(try omega);apply Z;refine zI ?_ ?_<;>intro c2<;>try simp at c2
  .refine zk [0,1,6] ?_;refine bB fun _ _ Z=>?_;simp(disch:=omega)[qM];and_intros<;>(try omega);apply Z;apply aC;simp [aH];exact Uk.2 ⟨k - 1,by omega,c2⟩
  apply mS;refine zk [0,1,6] ?_;refine pF fun _ _ Z=>?_;simp(disch:=omega)[qM];and_intros<;>(try omega);apply Z;refine zq (k - 1) ?_ ?_ ?_
  .exact⟨by omega,fun j h h2=>aAl hh c2 h h2⟩
  .try dsimp only
   omega
  simp [Tp];omega
 apply zE;refine bB fun _ _ Z=>?_;simp(disch:=omega)[qM];apply Z;apply aC;simp [aH];exact aTo fun j h _=>hh j h (by omega)
theorem Ri(l:List Int)(k:Nat):(∀d:D,d∈List.take k (List.map D.int l)->d.ncells=1)↔True:=by
 refine⟨fun _=>trivial,fun _ d hd=>?_⟩;obtain⟨a,_,rfl⟩:=aV.1 (mD hd);rfl
theorem Sx(l:List Int)(k:Nat):(∀d:D,d∈List.drop k (List.map D.int l)->d.ncells=1)↔True:=by
 refine⟨fun _=>trivial,fun _ d hd=>?_⟩;obtain⟨a,_,rfl⟩:=aV.1 (zN hd);rfl
theorem aN2(l:List Int)(x:Int):(l.filter fun y=> !decide (y=x)).length<=l.length:=jD _ _
def kY(l:List Int)(x:Int):List Int:=l.filter fun y=> !decide (y=x)
theorem Ny(l:List Int)(x:Int)(k:Nat)(h:k<l.length):kY (l.take (k+1)) x=kY (l.take k) x++if l[k]=x then [] else [l[k]]:=by
 unfold kY;rw [bL l k h,fX,gQ];by_cases e:l[k]=x <;> simp [e]
@[simp] abbrev q33_4:Cfg:=⟨[6,7,13,17],[],[],[],[]⟩
theorem aCo(l:List Int)(i:Nat)(x:Int)(σ:List (List D))(hl:l.length<=99999)(hi:i<=l.length):Ct prog 206 [.sl false (l.map D.int),D.int i,D.int x] σ (fun r σ'=>r= .sl true ((fQ l i x).map D.int)/\σ'=σ):=by
 refine zf func206 ?_;have htl:List.take l.length (List.map D.int l)=List.map D.int l:=bZ (by simp);refine zr q33_4 fun _ _ Z=>?_;simp[Ri,Sx,aA,aB,htl];apply Z;refine zr q33_4 fun _ _ Z=>?_;simp[Ri,Sx,aA,aB,htl];and_intros<;>(try omega);apply Z;refine zr q33_4 fun _ _ Z=>?_;simp[Ri,Sx,aA,aB,htl];and_intros<;>(try omega);apply Z;refine zk [0,1,6,7] ?_;refine zr q33_4 fun _ _ Z=>?_;simp[Ri,Sx,aA,aB,htl];and_intros<;>(try omega);apply Z;apply aC;simp [aH,fQ]
@[simp] abbrev q33_5:Cfg:=⟨[4,5,18,23],[],[],[],[]⟩
theorem Hw(l:List Int)(x:Int)(σ:List (List D))(hl:l.length<=99999):Ct prog 208 [.sl false (l.map D.int),D.int x] σ (fun r σ'=>r= .sl true ((kY l x).map D.int)/\σ'=σ):=by
 refine zf func208 ?_;refine zr q33_5 fun _ _ Z=>?_;simp(disch:=omega);apply Z;refine zr q33_5 fun _ _ Z=>?_;simp(disch:=omega);and_intros<;>(try omega);apply Z;apply aE;refine zr q33_5 fun _ _ Z=>?_;simp(disch:=omega);and_intros<;>(try omega);apply Z;apply aR;refine zk [1,4,5,9,10,11] ?_;refine aY (fun(k:Nat)=> [(11,.d (.v (.int .i64 (k:Int)))),(5,.d (.sl true ((kY (l.take k) x).map D.int)))]) [5,7,11,12,13,14,15,16,17,18,19,20,21,22] (fun(k:Nat)=>k<=l.length) (fun(k:Nat)=>l.length - k) (0) (by simp <;> rfl) ?_ ?_ ?_
 .simp [kY]
 .simp
 rintro k hk;simp only [aQ,aO];have hdl:=aN2 (l.take k) x;simp only [bG] at hdl;have hdl2:(kY (l.take k) x).length<=k:=by unfold kY;omega
 refine zr q33_5 fun _ _ Z=>?_;simp(disch:=omega);apply Z;apply aE;refine zI ?_ ?_<;>intro c1<;>try simp at c1
 .apply jM;refine zr q33_5 fun _ _ Z=>?_;simp(disch:=omega);and_intros<;>(try omega);apply Z;refine zr q33_5 fun _ _ Z=>?_;simp(disch:=omega);apply Z;refine zI ?_ ?_<;>intro c2<;>try simp at c2
  .refine zk [1,4,5,7,9,10,11] ?_;refine zt q33_5 fun _ _ Z=>?_;simp(disch:=omega);and_intros<;>(try omega);apply Z;apply zB;refine zk [1,4,5,9,10,11] ?_;refine zt q33_5 fun _ _ Z=>?_;simp(disch:=omega);and_intros<;>(try omega);apply Z;refine zq (k+1) ?_ ?_ ?_
   .omega
   .try dsimp only
    omega
   simp(disch:=omega)[Ny, *]
  apply mS;refine zk [1,4,5,9,10,11] ?_;refine zt q33_5 fun _ _ Z=>?_;simp(disch:=omega);and_intros<;>(try omega);apply Z;refine zq (k+1) ?_ ?_ ?_
  .omega
  .try dsimp only
   omega
  simp(disch:=omega)[Ny, *]
 apply zE;refine zr q33_5 fun _ _ Z=>?_;simp(disch:=omega);apply Z;apply aC;simp [aH];rw [bZ (by omega)]
theorem aA2(a b:List Int)(σ:List (List D))(ha:a.length<=9223372036854775807)(hb:b.length<=9223372036854775807):Ct prog 17 [.sl false (a.map D.int),.sl false (b.map D.int)] σ (fun r σ'=>r= .bool (decide (a=b))/\σ'=σ):=by
 refine zf func17 ?_;refine bB fun _ _ Z=>?_;simp(disch:=omega);apply Z;apply aE;refine bB fun _ _ Z=>?_;simp(disch:=omega);and_intros<;>(try omega);apply Z;refine zI ?_ ?_<;>intro c1<;>try simp at c1
 .refine bB fun _ _ Z=>?_;simp(disch:=omega);apply Z;apply aC;simp [aH];intro e;subst e;exact absurd rfl c1
 apply zA;apply aE;refine bB fun _ _ Z=>?_;simp(disch:=omega);and_intros<;>(try omega);apply Z;apply aR;refine zk [0,1,4,12,13] ?_;refine aY (fun(k:Nat)=> [(13,.d (.int k)),(5,.d (.any))]) [4,5,13,14,15,16,17,18,19,20,21,22,23,24,25] (fun(k:Nat)=>k<=a.length/\a.take k=b.take k) (fun(k:Nat)=>a.length - k) (0) (by simp <;> rfl) ?_ ?_ ?_
 .simp
 .simp
 rintro k ⟨hk,hh⟩;simp only [aQ,aO];refine bB fun _ _ Z=>?_;simp(disch:=omega);apply Z;apply aE;refine zI ?_ ?_<;>intro c2<;>try simp at c2
 .apply jM;refine bB fun _ _ Z=>?_;simp(disch:=omega);apply Z;refine zd ⟨[],[],[],[],[]⟩ [.op {},.op {},.op {},.op {},.op {},.op {},.op {},.op {},.op {}] fun all hall _ Z=>?_;refine kF 8 fun _ Y=>?_;simp(disch:=omega);and_intros<;>(try omega);apply Y;simp(disch:=omega);apply Z;refine zI ?_ ?_<;>intro c3<;>try simp at c3
  .refine zk [0,1,5,12,13] ?_;refine bB fun _ _ Z=>?_;simp(disch:=omega);apply Z;apply aC;simp [aH];intro e;subst e;exact c3 rfl
  apply mS;refine zk [0,1,5,12,13] ?_;refine pF fun _ _ Z=>?_;simp(disch:=omega);and_intros<;>(try omega);apply Z;refine zq (k+1) ?_ ?_ ?_
  .exact⟨by omega,by rw [bL a k (by omega),bL b k (by omega),hh];simp [*]⟩
  .try dsimp only
   omega
  simp(disch:=omega)
 apply zE;refine bB fun _ _ Z=>?_;simp(disch:=omega);apply Z;apply aC;simp [aH]
 rwa [bZ (by omega),bZ (by omega)] at hh
end Go.Proofs.YtbgfljpnhhdkoaaGreat
