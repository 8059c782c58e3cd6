import Derived.Test.YtbgfljpnhhdkoaaGreatWkAr5
set_option maxRecDepth 20000
set_option linter.all false
set_option maxHeartbeats 8000000
open Go.Proofs.Tryz
namespace Go.Proofs.YtbgfljpnhhdkoaaGreat
open Go Go.Vm
variable {c:ByteArray}{j k:Nat}{l:List PI}
section
variable {o:List AT} {b:Bool} {x p:AT}
theorem Eg(hb:b=false)(h:Op.bytesLess x.name.toList p.name.toList=false)(e:x.name=p.name):mZ nA p (o,b) x=(o++ [p],true):=by
 have e':nA x=nA p:=e;have h2:b=false/\eF (nA x) (nA p)=false:=⟨hb,h⟩;unfold mZ;dsimp only;rw [if_pos e',if_pos h2]
theorem Fp(hb:b=false)(h:Op.bytesLess x.name.toList p.name.toList=false)(e:¬x.name=p.name):mZ nA p (o,b) x=(o++ [p]++ [x],true):=by
 have e':¬nA x=nA p:=e;have h2:b=false/\eF (nA x) (nA p)=false:=⟨hb,h⟩;unfold mZ;dsimp only;rw [if_neg e',if_pos h2]
theorem Gn(h:Op.bytesLess x.name.toList p.name.toList=true)(e:x.name=p.name):mZ nA p (o,b) x=(o,b):=by
 have e':nA x=nA p:=e;have h2:¬(b=false/\eF (nA x) (nA p)=false):=fun q=>by have h3:eF (nA x) (nA p)=true:=h;rw [h3] at q;cases q.2
 unfold mZ;dsimp only;rw [if_pos e',if_neg h2]
theorem Eh(h:Op.bytesLess x.name.toList p.name.toList=true)(e:¬x.name=p.name):mZ nA p (o,b) x=(o++ [x],b):=by
 have e':¬nA x=nA p:=e;have h2:¬(b=false/\eF (nA x) (nA p)=false):=fun q=>by have h3:eF (nA x) (nA p)=true:=h;rw [h3] at q;cases q.2
 unfold mZ;dsimp only;rw [if_neg e',if_neg h2]
theorem Fg(h:b=true)(e:x.name=p.name):mZ nA p (o,b) x=(o,b):=by
 have e':nA x=nA p:=e;have h2:¬(b=false/\eF (nA x) (nA p)=false):=fun q=>by rw [h] at q;cases q.1
 unfold mZ;dsimp only;rw [if_pos e',if_neg h2]
theorem Eu(h:b=true)(e:¬x.name=p.name):mZ nA p (o,b) x=(o++ [x],b):=by
 have e':¬nA x=nA p:=e;have h2:¬(b=false/\eF (nA x) (nA p)=false):=fun q=>by rw [h] at q;cases q.1
 unfold mZ;dsimp only;rw [if_neg e',if_neg h2]
end
@[simp] abbrev q36_1:Cfg:=⟨[4,5,25,34,41,45],[],[],[],[]⟩
theorem Vh(l:List AT)(p:AT)(σ:List (List D))(hl:l.length<=99999)(hs:Sorted nA l):Ct prog 72 [.sl false (l.map dU),dU p] σ (fun r σ'=>r= .sl true ((gS nA l p).map dU)/\σ'=σ):=by
 refine zf func72 ?_;refine zr q36_1 fun _ _ Z=>?_;simp(disch:=omega)[aB,aA];apply Z;refine zr q36_1 fun _ _ Z=>?_;simp(disch:=omega)[aB,aA];and_intros<;>(try omega);apply Z;refine zr q36_1 fun _ _ Z=>?_;simp(disch:=omega)[aB,aA];apply Z;apply aF;refine zr q36_1 fun _ _ Z=>?_;simp(disch:=omega)[aB,aA];and_intros<;>(try omega);apply Z;apply aS;refine zk [3,4,5,6,10,11,12] ?_;refine aZ (fun(k:Nat)=> [(12,.d (.v (.int .i64 (k:Int)))),(5,.d (.sl true ((rV nA (l.take k) p).1.map dU))),(6,.d (.bool (rV nA (l.take k) p).2))]) [5,6,8,12,13,14,15,16,17,18,19,20,21,22,23,24,25,26,27,28,29,30,31,32,33,34,35,36,37,38] (fun(k:Nat)=>k<=l.length) (fun(k:Nat)=>l.length - k) (0) (by simp <;> rfl) ?_ ?_ ?_
 .simp [rV]
 .simp
 rintro k hk;simp only [aP,aN];have hpl:=aEs nA (l.take k) p;simp only [bF] at hpl;generalize hps:rV nA (l.take k) p=s at hpl |-;obtain⟨o,b⟩:=s;have hpl2:o.length<=k+1:=by simp only at hpl;split at hpl <;> omega
 dsimp only;refine zr q36_1 fun _ _ Z=>?_;simp(disch:=omega)[aB,aA];apply Z;apply aF;refine zI ?_ ?_<;>intro c1<;>try simp at c1
 .apply kR;refine zr q36_1 fun _ _ Z=>?_;simp(disch:=omega)[aB,aA];and_intros<;>(try omega);apply Z;apply aF;refine pB q36_1 fun all hall _ Z=>?_;have ga2:aT all 2=some 18:=hall 2;refine zs 3 fun _ Y=>?_;simp(disch:=omega)[aB,aA,ga2];apply Y;refine zb 18 ?_ ?_<;>intro g2<;>try simp at g2
  .simp(disch:=omega)[aB,aA,ga2];apply Z;refine zI ?_ ?_<;>intro c3<;>try simp at c3
   .refine zk [3,4,5,6,8,10,11,12] ?_;refine zr q36_1 fun _ _ Z=>?_;simp(disch:=omega)[aB,aA];and_intros<;>(try omega);apply Z;refine zk [3,4,5,6,8,10,11,12] ?_;refine zt q36_1 fun _ _ Z=>?_;simp(disch:=omega)[aB,aA];apply Z;apply gI;refine zr q36_1 fun _ _ Z=>?_;simp(disch:=omega)[aB,aA];apply Z;refine zI ?_ ?_<;>intro c4<;>try simp at c4
    .refine zk [3,4,5,6,8,10,11,12] ?_;refine zt q36_1 fun _ _ Z=>?_;simp(disch:=omega)[aB,aA];and_intros<;>(try omega);apply Z;apply zB;refine zk [3,4,5,6,10,11,12] ?_;refine zt q36_1 fun _ _ Z=>?_;simp(disch:=omega)[aB,aA];and_intros<;>(try omega);apply Z;refine zq (k+1) ?_ ?_ ?_
     .omega
     .try dsimp only
      omega
     rw [qH nA l p k (by omega),hps];first | rw [Eg (by assumption) (by assumption) (by assumption)] | rw [Fp (by assumption) (by assumption) (by assumption)] | rw [Gn (by assumption) (by assumption)] | rw [Eh (by assumption) (by assumption)] | rw [Fg (by first | assumption | simpa using g2) (by assumption)] | rw [Eu (by first | assumption | simpa using g2) (by assumption)]
     simp [*]
    apply mM;refine zk [3,4,5,6,10,11,12] ?_;refine zt q36_1 fun _ _ Z=>?_;simp(disch:=omega)[aB,aA];and_intros<;>(try omega);apply Z;refine zq (k+1) ?_ ?_ ?_
    .omega
    .try dsimp only
     omega
    rw [qH nA l p k (by omega),hps];first | rw [Eg (by assumption) (by assumption) (by assumption)] | rw [Fp (by assumption) (by assumption) (by assumption)] | rw [Gn (by assumption) (by assumption)] | rw [Eh (by assumption) (by assumption)] | rw [Fg (by first | assumption | simpa using g2) (by assumption)] | rw [Eu (by first | assumption | simpa using g2) (by assumption)]
    simp [*]
   apply zA;refine zk [3,4,5,6,8,10,11,12] ?_;refine zr q36_1 fun _ _ Z=>?_;simp(disch:=omega)[aB,aA];apply Z;refine zI ?_ ?_<;>intro c5<;>try simp at c5
   .refine zk [3,4,5,6,8,10,11,12] ?_;refine zt q36_1 fun _ _ Z=>?_;simp(disch:=omega)[aB,aA];and_intros<;>(try omega);apply Z;apply zB;refine zk [3,4,5,6,10,11,12] ?_;refine zt q36_1 fun _ _ Z=>?_;simp(disch:=omega)[aB,aA];and_intros<;>(try omega);apply Z;refine zq (k+1) ?_ ?_ ?_
    .omega
    .try dsimp only
     omega
    rw [qH nA l p k (by omega),hps];first | rw [Eg (by assumption) (by assumption) (by assumption)] | rw [Fp (by assumption) (by assumption) (by assumption)] | rw [Gn (by assumption) (by assumption)] | rw [Eh (by assumption) (by assumption)] | rw [Fg (by first | assumption | simpa using g2) (by assumption)] | rw [Eu (by first | assumption | simpa using g2) (by assumption)]
    simp [*]
   apply mM;refine zk [3,4,5,6,10,11,12] ?_;refine zt q36_1 fun _ _ Z=>?_;simp(disch:=omega)[aB,aA];and_intros<;>(try omega);apply Z;refine zq (k+1) ?_ ?_ ?_
   .omega
   .try dsimp only
    omega
   rw [qH nA l p k (by omega),hps];first | rw [Eg (by assumption) (by assumption) (by assumption)] | rw [Fp (by assumption) (by assumption) (by assumption)] | rw [Gn (by assumption) (by assumption)] | rw [Eh (by assumption) (by assumption)] | rw [Fg (by first | assumption | simpa using g2) (by assumption)] | rw [Eu (by first | assumption | simpa using g2) (by assumption)]
   simp [*]
  simp(disch:=omega)[aB,aA,ga2];apply Z;refine bS (t:=false) (by simp) (fun h=>by cases h) (fun _=>?_);apply zA;refine zk [3,4,5,6,8,10,11,12] ?_;refine zr q36_1 fun _ _ Z=>?_;simp(disch:=omega)[aB,aA];apply Z;refine zI ?_ ?_<;>intro c6<;>try simp at c6
  .refine zk [3,4,5,6,8,10,11,12] ?_;refine zt q36_1 fun _ _ Z=>?_;simp(disch:=omega)[aB,aA];and_intros<;>(try omega);apply Z;apply zB;refine zk [3,4,5,6,10,11,12] ?_;refine zt q36_1 fun _ _ Z=>?_;simp(disch:=omega)[aB,aA];and_intros<;>(try omega);apply Z;refine zq (k+1) ?_ ?_ ?_
   .omega
   .try dsimp only
    omega
   rw [qH nA l p k (by omega),hps];first | rw [Eg (by assumption) (by assumption) (by assumption)] | rw [Fp (by assumption) (by assumption) (by assumption)] | rw [Gn (by assumption) (by assumption)] | rw [Eh (by assumption) (by assumption)] | rw [Fg (by first | assumption | simpa using g2) (by assumption)] | rw [Eu (by first | assumption | simpa using g2) (by assumption)]
   simp [*]
  apply mM;refine zk [3,4,5,6,10,11,12] ?_;refine zt q36_1 fun _ _ Z=>?_;simp(disch:=omega)[aB,aA];and_intros<;>(try omega);apply Z;refine zq (k+1) ?_ ?_ ?_
  .omega
  .try dsimp only
   omega
  rw [qH nA l p k (by omega),hps];first | rw [Eg (by assumption) (by assumption) (by assumption)] | rw [Fp (by assumption) (by assumption) (by assumption)] | rw [Gn (by assumption) (by assumption)] | rw [Eh (by assumption) (by assumption)] | rw [Fg (by first | assumption | simpa using g2) (by assumption)] | rw [Eu (by first | assumption | simpa using g2) (by assumption)]
  simp [*]
 obtain rfl:k=l.length:=by omega
 rw [eH] at hps;apply zE;apply aF;refine zr q36_1 fun _ _ Z=>?_;simp(disch:=omega)[aB,aA];apply Z;refine zI ?_ ?_<;>intro c7<;>try simp at c7
 .refine zt q36_1 fun _ _ Z=>?_;simp(disch:=omega)[aB,aA];and_intros<;>(try omega);apply Z;apply gI;refine zk [4,5] ?_;refine zr q36_1 fun _ _ Z=>?_;simp(disch:=omega)[aB,aA];apply Z;apply aD;simp [aK];rw [<- Qs nA hs p,hps];simp [aHx, *]
 apply zA;refine zr q36_1 fun _ _ Z=>?_;simp(disch:=omega)[aB,aA];apply Z;apply aD;simp [aK];rw [<- Qs nA hs p,hps];simp [aHx, *]
def Ub(l:List PI)(k j:Nat):Option PI:=Oc nP (l.take j) ((fY nP l).take k)
def pC(l:List PI)(k j:Nat):PI:=(Ub l k j).getD ⟨⟨#[]⟩,0⟩
def ahd(l:List PI)(k:Nat)(c:ByteArray):Bool:=rS nP ((fY nP l).take k) c
theorem aWt(l:List PI)(k:Nat)(c:ByteArray)(h:k<(fY nP l).length):ahd l (k+1) c=eF (fY nP l)[k].name c:=by
 unfold ahd rS;rw [bK (fY nP l) k h,List.getLast?_concat]
theorem Db(l:List PI)(k j:Nat)(h:j<l.length):Ub l k (j+1)=if ahd l k l[j].name=true then(match Ub l k j with | none=>some l[j] | some q=>if eF (nP q) (nP l[j])=true then some q else some l[j])else Ub l k j:=by
 have e:=aFl nP l ((fY nP l).take k) j h;unfold Ub ahd;rw [e];cases Oc nP (l.take j) ((fY nP l).take k) <;> rfl
theorem lB (g:¬k=0)(hk:k<=(fY nP l).length)(c:ByteArray):ahd l k c=eF ((fY nP l)[k - 1]'(by omega)).name c:=by
 obtain⟨m,rfl⟩:∃m,k=m+1:=⟨k - 1,by omega⟩;exact aWt l m c (by omega)
theorem cH(l:List PI)(k:Nat):(∀d:D,d∈List.take k (List.map cM l)->d.ncells=2)↔True:=by
 refine⟨fun _=>trivial,fun _ d hd=>?_⟩;obtain⟨a,_,rfl⟩:=aX.1 (oZ hd);rfl
theorem mX (h:j<l.length)(ha:ahd l k l[j].name=true)(hc:(Ub l k j).isSome=false\/eF (pC l k j).name l[j].name=false):Ub l k (j+1)=some l[j]:=by
 rw [Db l k j h,aI ha];unfold pC at hc;cases hq:Ub l k j with
 | none=>rfl
 | some q=>
  rw [hq] at hc;have:eF (nP q) (nP l[j])=false:=by simpa using hc
  simp [this]
theorem mY (h:j<l.length)(ha:ahd l k l[j].name=false):Ub l k (j+1)=Ub l k j:=by
 rw [Db l k j h,aC (by rw [ha];simp)]
theorem nC (h:j<l.length)(h1:(Ub l k j).isSome=true)(h2:eF (pC l k j).name l[j].name=true):Ub l k (j+1)=Ub l k j:=by
 by_cases ha:ahd l k l[j].name=true
 .rw [Db l k j h,aI ha];unfold pC at h2;cases hq:Ub l k j with
  | none=>rw [hq] at h1;cases h1
  | some q=>
   rw [hq] at h2;have:eF (nP q) (nP l[j])=true:=h2;simp [this]
 rw [Db l k j h,aC ha]
theorem aCh (hk:k<=(fY nP l).length):Ub l k l.length=(fY nP l)[k]?:=by
 unfold Ub;rw [eH];exact aIg nP l k hk
theorem aC0(l:List PI)(k:Nat):Ub l k 0=none:=aUn nP l _
@[simp] abbrev q36_2:Cfg:=⟨[2,3,48,49],[],[],[],[]⟩
theorem Np(l:List PI)(σ:List (List D))(hl:l.length<=99999):Ct prog 73 [.sl false (l.map cM)] σ (fun r σ'=>r= .sl true ((fY nP l).map cM)/\σ'=σ):=by
 refine zf func73 ?_;refine zr q36_2 fun _ _ Z=>?_;simp(disch:=omega)[aB,aA,cH];apply Z;refine zr q36_2 fun _ _ Z=>?_;simp(disch:=omega)[aB,aA,cH];and_intros<;>(try omega);apply Z;apply aS;refine zk [0,2,3] ?_;refine aZ (fun(k:Nat)=> [(3,.d (.sl true (((fY nP l).take k).map cM)))]) [2,3,4,5,7,8,10,11,12,13,14,15,16,17,18,19,20,21,22,23,24,25,26,27,28,29,30,31,32,33,34,35,36,37,38,39,40,41,42,43,44,45,46,47,48,49,50,51,52] (fun(k:Nat)=>k<=(fY nP l).length) (fun(k:Nat)=>(fY nP l).length - k) (0) (by simp <;> rfl) ?_ ?_ ?_
 .simp
 .simp
 rintro k hk;simp only [aP,aN];have hol:=gZ nP l;have hlk:((fY nP l).take k).length=k:=by simp;omega
 apply aS;refine zr q36_2 fun _ _ Z=>?_;simp(disch:=omega)[aB,aA,cH];apply Z;refine zr q36_2 fun _ _ Z=>?_;simp(disch:=omega)[aB,aA,cH];apply Z;apply aF;refine zr q36_2 fun _ _ Z=>?_;simp(disch:=omega)[aB,aA,cH];and_intros<;>(try omega);apply Z;apply aS;refine zk [0,3,4,5,11,12,13] ?_;refine qB (fun(j:Nat)=> [(13,.d (.v (.int .i64 (j:Int)))),(4,.d (.bool (Ub l k j).isSome)),(8,.d (.any))]) (fun(j:Nat)=> [(0, [.v (.string ((pC l k j).name)),.v (.int .i64 ((pC l k j).value))])]) (fun(j:Nat)=> []) [4,7,8,13,14,15,16,17,18,19,20,21,22,23,24,25,26,27,28,29,30,31,32,33,34,35,36,37,38,39,40,41,42,43,44,45] (fun(j:Nat)=>j<=l.length) (fun(j:Nat)=>l.length - j) (0) (by simp <;> rfl) ?_ (by simp [pC,aC0]) (by simp) ?_ ?_
 .simp [aC0,pC]
 .simp
 rintro j hj;simp only [aP,aN,rK,oS,eQ,gR];refine zr q36_2 fun _ _ Z=>?_;simp(disch:=omega)[aB,aA,cH];apply Z;apply aF;refine zI ?_ ?_<;>intro c1<;>try simp at c1
 .apply kR;refine zr q36_2 fun _ _ Z=>?_;simp(disch:=omega)[aB,aA,cH];and_intros<;>(try omega);apply Z;refine zk [0,3,4,5,7,8,11,12,13] ?_;refine zd q36_2 [.op {},.op {},.op {},.op {},.op {},.op {rL:=true},.op {},.op {},.op {},.op {},.op {},.op {},.op {},.op {},.op {},.op {}] fun all hall _ Z=>?_;have ga3:aT all 3=some 20:=hall 3;refine iU 4 fun _ Y=>?_;simp(disch:=omega)[aB,aA,cH,ga3];and_intros<;>(try omega);apply Y;refine Yg 20 ?_ ?_<;>intro g2<;>try simp at g2
  .refine iU 8 fun _ Y=>?_;simp(disch:=omega)[aB,aA,cH,ga3];and_intros<;>(try omega);apply Y;simp(disch:=omega)[aB,aA,cH,ga3];apply Z;refine zk [0,3,4,5,7,8,11,12,13] ?_;refine pB q36_2 fun all hall _ Z=>?_;have ga1:aT all 1=some 33:=hall 1;have ga4:aT all 4=some 36:=hall 4;refine zs 2 fun _ Y=>?_;simp(disch:=omega)[aB,aA,cH,ga1,ga4];apply Y;refine zs 3 fun _ Y=>?_;simp(disch:=omega)[aB,aA,cH,ga1,ga4];apply Y;refine zb 36 ?_ ?_<;>intro g3<;>try simp at g3
   .simp(disch:=omega)[aB,aA,cH,ga1,ga4];apply Z;refine bS (t:=true) (by simp) (fun _=>?_) (fun h=>by cases h);refine zk [0,3,4,5,7,8,11,12,13] ?_;refine zr q36_2 fun _ _ Z=>?_;simp(disch:=omega)[aB,aA,cH];apply Z;refine zt q36_2 fun _ _ Z=>?_;simp(disch:=omega)[aB,aA,cH];apply Z;apply zB;refine zt q36_2 fun _ _ Z=>?_;simp(disch:=omega)[aB,aA,cH];and_intros<;>(try omega);apply Z;first | have hcn:=mX (k:=k) c1 (by first | (rw [show k=0 from g2];rfl) | (rw [lB g2 hk];exact g5)) (by first | exact .inl (by rw [g3];rfl) | exact .inl (by rw [g6];rfl) | exact .inr c4 | exact .inr c7) | have hcn:=nC (k:=k) c1 (by first | exact g3 | exact g6) (by first | exact c4 | exact c7) | have hcn:=mY (k:=k) c1 (by rw [lB g2 hk];exact g5)
    refine eX (j+1) ?_ ?_ (dX rfl ?_ (by simp [pC,hcn]) (by simp))
    .omega
    .try dsimp only
     omega
    simp(disch:=omega)[aB,aA,cH,hcn]
   simp(disch:=omega)[aB,aA,cH,ga1,ga4];apply Z;refine zI ?_ ?_<;>intro c4<;>try simp at c4
   .refine zk [0,3,4,5,7,8,11,12,13] ?_;refine zr q36_2 fun _ _ Z=>?_;simp(disch:=omega)[aB,aA,cH];apply Z;refine zt q36_2 fun _ _ Z=>?_;simp(disch:=omega)[aB,aA,cH];apply Z;apply zB;refine zt q36_2 fun _ _ Z=>?_;simp(disch:=omega)[aB,aA,cH];and_intros<;>(try omega);apply Z;first | have hcn:=mX (k:=k) c1 (by first | (rw [show k=0 from g2];rfl) | (rw [lB g2 hk];exact g5)) (by first | exact .inl (by rw [g3];rfl) | exact .inl (by rw [g6];rfl) | exact .inr c4 | exact .inr c7) | have hcn:=nC (k:=k) c1 (by first | exact g3 | exact g6) (by first | exact c4 | exact c7) | have hcn:=mY (k:=k) c1 (by rw [lB g2 hk];exact g5)
    refine eX (j+1) ?_ ?_ (dX rfl ?_ (by simp [pC,hcn]) (by simp))
    .omega
    .try dsimp only
     omega
    simp(disch:=omega)[aB,aA,cH,hcn]
   apply mM;refine zk [0,3,4,5,8,11,12,13] ?_;refine zt q36_2 fun _ _ Z=>?_;simp(disch:=omega)[aB,aA,cH];and_intros<;>(try omega);apply Z;first | have hcn:=mX (k:=k) c1 (by first | (rw [show k=0 from g2];rfl) | (rw [lB g2 hk];exact g5)) (by first | exact .inl (by rw [g3];rfl) | exact .inl (by rw [g6];rfl) | exact .inr c4 | exact .inr c7) | have hcn:=nC (k:=k) c1 (by first | exact g3 | exact g6) (by first | exact c4 | exact c7) | have hcn:=mY (k:=k) c1 (by rw [lB g2 hk];exact g5)
   refine eX (j+1) ?_ ?_ (dX rfl ?_ (by simp [pC,hcn]) (by simp))
   .omega
   .try dsimp only
    omega
   simp(disch:=omega)[aB,aA,cH,hcn]
  refine iU 8 fun _ Y=>?_;simp(disch:=omega)[aB,aA,cH,ga3];and_intros<;>(try omega);apply Y;simp(disch:=omega)[aB,aA,cH,ga3];apply Z;refine zk [0,3,4,5,7,8,11,12,13] ?_;refine pB q36_2 fun all hall _ Z=>?_;have ga1:aT all 1=some 33:=hall 1;have ga4:aT all 4=some 36:=hall 4;refine zs 2 fun _ Y=>?_;simp(disch:=omega)[aB,aA,cH,ga1,ga4];apply Y;refine zb 33 ?_ ?_<;>intro g5<;>try simp at g5
  .refine zs 3 fun _ Y=>?_;simp(disch:=omega)[aB,aA,cH,ga1,ga4];apply Y;refine zb 36 ?_ ?_<;>intro g6<;>try simp at g6
   .simp(disch:=omega)[aB,aA,cH,ga1,ga4];apply Z;refine bS (t:=true) (by simp) (fun _=>?_) (fun h=>by cases h);refine zk [0,3,4,5,7,8,11,12,13] ?_;refine zr q36_2 fun _ _ Z=>?_;simp(disch:=omega)[aB,aA,cH];apply Z;refine zt q36_2 fun _ _ Z=>?_;simp(disch:=omega)[aB,aA,cH];apply Z;apply zB;refine zt q36_2 fun _ _ Z=>?_;simp(disch:=omega)[aB,aA,cH];and_intros<;>(try omega);apply Z;first | have hcn:=mX (k:=k) c1 (by first | (rw [show k=0 from g2];rfl) | (rw [lB g2 hk];exact g5)) (by first | exact .inl (by rw [g3];rfl) | exact .inl (by rw [g6];rfl) | exact .inr c4 | exact .inr c7) | have hcn:=nC (k:=k) c1 (by first | exact g3 | exact g6) (by first | exact c4 | exact c7) | have hcn:=mY (k:=k) c1 (by rw [lB g2 hk];exact g5)
    refine eX (j+1) ?_ ?_ (dX rfl ?_ (by simp [pC,hcn]) (by simp))
    .omega
    .try dsimp only
     omega
    simp(disch:=omega)[aB,aA,cH,hcn]
   simp(disch:=omega)[aB,aA,cH,ga1,ga4];apply Z;refine zI ?_ ?_<;>intro c7<;>try simp at c7
   .refine zk [0,3,4,5,7,8,11,12,13] ?_;refine zr q36_2 fun _ _ Z=>?_;simp(disch:=omega)[aB,aA,cH];apply Z;refine zt q36_2 fun _ _ Z=>?_;simp(disch:=omega)[aB,aA,cH];apply Z;apply zB;refine zt q36_2 fun _ _ Z=>?_;simp(disch:=omega)[aB,aA,cH];and_intros<;>(try omega);apply Z;first | have hcn:=mX (k:=k) c1 (by first | (rw [show k=0 from g2];rfl) | (rw [lB g2 hk];exact g5)) (by first | exact .inl (by rw [g3];rfl) | exact .inl (by rw [g6];rfl) | exact .inr c4 | exact .inr c7) | have hcn:=nC (k:=k) c1 (by first | exact g3 | exact g6) (by first | exact c4 | exact c7) | have hcn:=mY (k:=k) c1 (by rw [lB g2 hk];exact g5)
    refine eX (j+1) ?_ ?_ (dX rfl ?_ (by simp [pC,hcn]) (by simp))
    .omega
    .try dsimp only
     omega
    simp(disch:=omega)[aB,aA,cH,hcn]
   apply mM;refine zk [0,3,4,5,8,11,12,13] ?_;refine zt q36_2 fun _ _ Z=>?_;simp(disch:=omega)[aB,aA,cH];and_intros<;>(try omega);apply Z;first | have hcn:=mX (k:=k) c1 (by first | (rw [show k=0 from g2];rfl) | (rw [lB g2 hk];exact g5)) (by first | exact .inl (by rw [g3];rfl) | exact .inl (by rw [g6];rfl) | exact .inr c4 | exact .inr c7) | have hcn:=nC (k:=k) c1 (by first | exact g3 | exact g6) (by first | exact c4 | exact c7) | have hcn:=mY (k:=k) c1 (by rw [lB g2 hk];exact g5)
   refine eX (j+1) ?_ ?_ (dX rfl ?_ (by simp [pC,hcn]) (by simp))
   .omega
   .try dsimp only
    omega
   simp(disch:=omega)[aB,aA,cH,hcn]
  refine zs 8 fun _ Y=>?_;simp(disch:=omega)[aB,aA,cH,ga1,ga4];and_intros<;>(try omega);apply Y;simp(disch:=omega)[aB,aA,cH,ga1,ga4];apply Z;refine bS (t:=false) (by simp) (fun h=>by cases h) (fun _=>?_);apply mM;refine zk [0,3,4,5,8,11,12,13] ?_;refine zt q36_2 fun _ _ Z=>?_;simp(disch:=omega)[aB,aA,cH];and_intros<;>(try omega);apply Z;first | have hcn:=mX (k:=k) c1 (by first | (rw [show k=0 from g2];rfl) | (rw [lB g2 hk];exact g5)) (by first | exact .inl (by rw [g3];rfl) | exact .inl (by rw [g6];rfl) | exact .inr c4 | exact .inr c7) | have hcn:=nC (k:=k) c1 (by first | exact g3 | exact g6) (by first | exact c4 | exact c7) | have hcn:=mY (k:=k) c1 (by rw [lB g2 hk];exact g5)
  refine eX (j+1) ?_ ?_ (dX rfl ?_ (by simp [pC,hcn]) (by simp))
  .omega
  .try dsimp only
   omega
  simp(disch:=omega)[aB,aA,cH,hcn]
 obtain rfl:j=l.length:=by omega
 have hce:=aCh hk;apply zE;apply aF;refine zr q36_2 fun _ _ Z=>?_;simp(disch:=omega)[aB,aA,cH];apply Z;refine zI ?_ ?_<;>intro c8<;>try simp at c8
 .refine zr q36_2 fun _ _ Z=>?_;simp(disch:=omega)[aB,aA,cH];apply Z;apply aD;simp [aK];rw [hce] at c8;rw [bL (by simpa using List.getElem?_eq_none_iff.1 c8)]
 have hk2:k<(fY nP l).length:=by
   rcases qD k (fY nP l).length with h | h
   .exact h
   rw [hce,iZ h] at c8;exact absurd c8 (by simp)
 have hcd:pC l k l.length=(fY nP l)[k]:=by unfold pC;rw [hce,aQ hk2];rfl
 have htk:List.take (k+1) (List.map cM (fY nP l))=List.take k (List.map cM (fY nP l))++ [cM (fY nP l)[k]]:=by rw [bK _ k (by simpa using hk2),jM]
 apply zA;refine zt q36_2 fun _ _ Z=>?_;simp(disch:=omega)[aB,aA,cH];and_intros<;>(try omega);apply Z;apply gQ;refine zq (k+1) ?_ ?_ ?_
 .omega
 .try dsimp only
  omega
 simp(disch:=omega)[aB,aA,cH,hcd,htk]
@[simp] abbrev q36_3:Cfg:=⟨[4,5,20,25],[],[],[],[]⟩
theorem aHp(l:List PI)(c:ByteArray)(σ:List (List D))(hl:l.length<=99999)(hs:Sorted nP l):Ct prog 76 [.sl false (l.map cM),D.str c] σ (fun r σ'=>r= .sl true ((lN nP l c).map cM)/\σ'=σ):=by
 refine zf func76 ?_;refine zr q36_3 fun _ _ Z=>?_;simp(disch:=omega);apply Z;refine zr q36_3 fun _ _ Z=>?_;simp(disch:=omega);and_intros<;>(try omega);apply Z;apply aF;refine zr q36_3 fun _ _ Z=>?_;refine zs 1 fun _ Y=>?_;simp(disch:=omega);apply Y;refine aE fun _ Y=>?_;simp(disch:=omega);refine cB (Np l _ hl) ?_;rw [rT nP hs];apply Y;simp(disch:=omega);and_intros<;>(try omega);apply Z;apply aS;refine zk [1,4,5,10,11,12] ?_;refine aZ (fun(k:Nat)=> [(12,.d (.v (.int .i64 (k:Int)))),(5,.d (.sl true ((lN nP (l.take k) c).map cM)))]) [5,7,12,13,14,15,16,17,18,19,20,21,22,23,24] (fun(k:Nat)=>k<=l.length) (fun(k:Nat)=>l.length - k) (0) (by simp <;> rfl) ?_ ?_ ?_
 .simp [lN]
 .simp
 rintro k hk;simp only [aP,aN];have hdl:=Dr nP (l.take k) c;simp only [bF] at hdl;refine zr q36_3 fun _ _ Z=>?_;simp(disch:=omega);apply Z;apply aF;refine zI ?_ ?_<;>intro c1<;>try simp at c1
 .apply kR;refine zr q36_3 fun _ _ Z=>?_;simp(disch:=omega);and_intros<;>(try omega);apply Z;refine zr q36_3 fun _ _ Z=>?_;simp(disch:=omega);apply Z;refine zI ?_ ?_<;>intro c2<;>try simp at c2
  .refine zk [1,4,5,7,10,11,12] ?_;refine zt q36_3 fun _ _ Z=>?_;simp(disch:=omega);and_intros<;>(try omega);apply Z;apply zB;refine zk [1,4,5,10,11,12] ?_;refine zt q36_3 fun _ _ Z=>?_;simp(disch:=omega);and_intros<;>(try omega);apply Z;refine zq (k+1) ?_ ?_ ?_
   .omega
   .try dsimp only
    omega
   simp(disch:=omega)[zQ, *]
  apply mM;refine zk [1,4,5,10,11,12] ?_;refine zt q36_3 fun _ _ Z=>?_;simp(disch:=omega);and_intros<;>(try omega);apply Z;refine zq (k+1) ?_ ?_ ?_
  .omega
  .try dsimp only
   omega
  simp(disch:=omega)[zQ, *]
 apply zE;refine zr q36_3 fun _ _ Z=>?_;simp(disch:=omega);apply Z;apply aD;simp [aK];rw [bL (by omega)]
theorem Jn :jJ nP l c=true↔∃j,∃h:j<l.length,l[j].name=c:=by
 unfold jJ;rw [lU];constructor
 .rintro⟨x,hx,e⟩;obtain⟨j,hj,rfl⟩:=kN hx;exact⟨j,hj,by simpa using e⟩
 rintro⟨j,hj,e⟩;exact⟨l[j],cN hj,by simpa using e⟩
theorem Jy (hh:∀j (h:j<l.length),k<=j->l[j].name≠c) {hk:k - 1<l.length} (c2:¬l[k - 1].name=c)(h:j<l.length)(h2:k - 1<=j):l[j].name≠c:=by
 rcases qD j k with h3 | h3
 .obtain rfl:j=k - 1:=by omega
  exact c2
 exact hh j h h3
theorem aL2 (h:∀j (h:j<l.length),0<=j->l[j].name≠c):jJ nP l c=false:=by
 rw [<- Gu,Jn];rintro⟨j,hj,e⟩;exact h j hj (gD _) e
theorem aJs(l:List PI)(c:ByteArray)(σ:List (List D))(hl:l.length<=99999):Ct prog 75 [.sl false (l.map cM),D.str c] σ (fun r σ'=>(∃v:Int,r= .tup [D.int v,.bool (jJ nP l c)])/\σ'=σ):=by
 refine zf func75 ?_;refine bE fun _ _ Z=>?_;simp(disch:=omega)[jO];apply Z;apply aF;refine bE fun _ _ Z=>?_;simp(disch:=omega)[jO];and_intros<;>(try omega);apply Z;apply aS;refine zk [0,1,4,5,6] ?_;refine aZ (fun(k:Nat)=> [(6,.d (.int ((k:Int) - 1)))]) [4,5,6,10,11,12,13,14,15,16,17,18,19,20,21,22,23,24,25] (fun(k:Nat)=>k<=l.length/\∀j (h:j<l.length),k<=j->l[j].name≠c) (fun(k:Nat)=>k) (l.length) (by simp <;> rfl) ?_ ?_ ?_
 .simp
 .exact⟨aV _,fun j h h2=>by omega⟩
 rintro k ⟨hk,hh⟩;simp only [aP,aN];have htn:1<=k->((k:Int) - 1).toNat=k - 1:=fun h=>by omega
 apply aF;refine bE fun _ _ Z=>?_;simp(disch:=omega)[jO];apply Z;refine zI ?_ ?_<;>intro c1<;>try simp at c1
 .have hk1:1<=k:=by omega
  have htn1:=htn hk1;apply kR;refine bE fun _ _ Z=>?_;simp(disch:=omega)[jO];and_intros<;>(try omega);apply Z;refine zI ?_ ?_<;>intro c2<;>try simp at c2
  .refine zk [0,1,6] ?_;refine bE fun _ _ Z=>?_;simp(disch:=omega)[jO];and_intros<;>(try omega);apply Z;apply aD;simp [aK];exact Jn.2 ⟨k - 1,by omega,c2⟩
  apply mM;refine zk [0,1,6] ?_;refine rB fun _ _ Z=>?_;simp(disch:=omega)[jO];and_intros<;>(try omega);apply Z;refine zq (k - 1) ?_ ?_ ?_
  .exact⟨by omega,fun j h h2=>Jy hh c2 h h2⟩
  .try dsimp only
   omega
  simp [Mh];omega
 apply zE;refine bE fun _ _ Z=>?_;simp(disch:=omega)[jO];apply Z;apply aD;simp [aK];exact aL2 fun j h _=>hh j h (by omega)
theorem Tf(l:List Int)(k:Nat):(∀d:D,d∈List.take k (List.map D.int l)->d.ncells=1)↔True:=by
 refine⟨fun _=>trivial,fun _ d hd=>?_⟩;obtain⟨a,_,rfl⟩:=aX.1 (oZ hd);rfl
theorem Sk(l:List Int)(k:Nat):(∀d:D,d∈List.drop k (List.map D.int l)->d.ncells=1)↔True:=by
 refine⟨fun _=>trivial,fun _ d hd=>?_⟩;obtain⟨a,_,rfl⟩:=aX.1 (yT hd);rfl
theorem aIb(l:List Int)(x:Int):(l.filter fun y=> !decide (y=x)).length<=l.length:=gE _ _
def iK(l:List Int)(x:Int):List Int:=l.filter fun y=> !decide (y=x)
theorem Qm(l:List Int)(x:Int)(k:Nat)(h:k<l.length):iK (l.take (k+1)) x=iK (l.take k) x++if l[k]=x then [] else [l[k]]:=by
 unfold iK;rw [bK l k h,eP,gJ];by_cases e:l[k]=x <;> simp [e]
@[simp] abbrev q36_4:Cfg:=⟨[6,7,13,17],[],[],[],[]⟩
theorem aCi(l:List Int)(i:Nat)(x:Int)(σ:List (List D))(hl:l.length<=99999)(hi:i<=l.length):Ct prog 206 [.sl false (l.map D.int),D.int i,D.int x] σ (fun r σ'=>r= .sl true ((fV l i x).map D.int)/\σ'=σ):=by
 refine zf func206 ?_;have htl:List.take l.length (List.map D.int l)=List.map D.int l:=bL (by simp);refine zr q36_4 fun _ _ Z=>?_;simp[Tf,Sk,aB,aA,htl];apply Z;refine zr q36_4 fun _ _ Z=>?_;simp[Tf,Sk,aB,aA,htl];and_intros<;>(try omega);apply Z;refine zr q36_4 fun _ _ Z=>?_;simp[Tf,Sk,aB,aA,htl];and_intros<;>(try omega);apply Z;refine zk [0,1,6,7] ?_;refine zr q36_4 fun _ _ Z=>?_;simp[Tf,Sk,aB,aA,htl];and_intros<;>(try omega);apply Z;apply aD;simp [aK,fV]
@[simp] abbrev q36_5:Cfg:=⟨[4,5,18,23],[],[],[],[]⟩
theorem Ii(l:List Int)(x:Int)(σ:List (List D))(hl:l.length<=99999):Ct prog 208 [.sl false (l.map D.int),D.int x] σ (fun r σ'=>r= .sl true ((iK l x).map D.int)/\σ'=σ):=by
 refine zf func208 ?_;refine zr q36_5 fun _ _ Z=>?_;simp(disch:=omega);apply Z;refine zr q36_5 fun _ _ Z=>?_;simp(disch:=omega);and_intros<;>(try omega);apply Z;apply aF;refine zr q36_5 fun _ _ Z=>?_;simp(disch:=omega);and_intros<;>(try omega);apply Z;apply aS;refine zk [1,4,5,9,10,11] ?_;refine aZ (fun(k:Nat)=> [(11,.d (.v (.int .i64 (k:Int)))),(5,.d (.sl true ((iK (l.take k) x).map D.int)))]) [5,7,11,12,13,14,15,16,17,18,19,20,21,22] (fun(k:Nat)=>k<=l.length) (fun(k:Nat)=>l.length - k) (0) (by simp <;> rfl) ?_ ?_ ?_
 .simp [iK]
 .simp
 rintro k hk;simp only [aP,aN];have hdl:=aIb (l.take k) x;simp only [bF] at hdl;have hdl2:(iK (l.take k) x).length<=k:=by unfold iK;omega
 refine zr q36_5 fun _ _ Z=>?_;simp(disch:=omega);apply Z;apply aF;refine zI ?_ ?_<;>intro c1<;>try simp at c1
 .apply kR;refine zr q36_5 fun _ _ Z=>?_;simp(disch:=omega);and_intros<;>(try omega);apply Z;refine zr q36_5 fun _ _ Z=>?_;simp(disch:=omega);apply Z;refine zI ?_ ?_<;>intro c2<;>try simp at c2
  .refine zk [1,4,5,7,9,10,11] ?_;refine zt q36_5 fun _ _ Z=>?_;simp(disch:=omega);and_intros<;>(try omega);apply Z;apply zB;refine zk [1,4,5,9,10,11] ?_;refine zt q36_5 fun _ _ Z=>?_;simp(disch:=omega);and_intros<;>(try omega);apply Z;refine zq (k+1) ?_ ?_ ?_
   .omega
   .try dsimp only
    omega
   simp(disch:=omega)[Qm, *]
  apply mM;refine zk [1,4,5,9,10,11] ?_;refine zt q36_5 fun _ _ Z=>?_;simp(disch:=omega);and_intros<;>(try omega);apply Z;refine zq (k+1) ?_ ?_ ?_
  .omega
  .try dsimp only
   omega
  simp(disch:=omega)[Qm, *]
 apply zE;refine zr q36_5 fun _ _ Z=>?_;simp(disch:=omega);apply Z;apply aD;simp [aK];rw [bL (by omega)]
theorem Nd(a b:List Int)(σ:List (List D))(ha:a.length<=9223372036854775807)(hb:b.length<=9223372036854775807):Ct prog 17 [.sl false (a.map D.int),.sl false (b.map D.int)] σ (fun r σ'=>r= .bool (decide (a=b))/\σ'=σ):=by
 refine zf func17 ?_;refine bE fun _ _ Z=>?_;simp(disch:=omega);apply Z;apply aF;refine bE fun _ _ Z=>?_;simp(disch:=omega);and_intros<;>(try omega);apply Z;refine zI ?_ ?_<;>intro c1<;>try simp at c1
 .refine bE fun _ _ Z=>?_;simp(disch:=omega);apply Z;apply aD;simp [aK];intro e;subst e;exact absurd rfl c1
 apply zA;apply aF;refine bE fun _ _ Z=>?_;simp(disch:=omega);and_intros<;>(try omega);apply Z;apply aS;refine zk [0,1,4,12,13] ?_;refine aZ (fun(k:Nat)=> [(13,.d (.int k)),(5,.d (.any))]) [4,5,13,14,15,16,17,18,19,20,21,22,23,24,25] (fun(k:Nat)=>k<=a.length/\a.take k=b.take k) (fun(k:Nat)=>a.length - k) (0) (by simp <;> rfl) ?_ ?_ ?_
 .simp
 .simp
 rintro k ⟨hk,hh⟩;simp only [aP,aN];refine bE fun _ _ Z=>?_;simp(disch:=omega);apply Z;apply aF;refine zI ?_ ?_<;>intro c2<;>try simp at c2
 .apply kR;refine bE fun _ _ Z=>?_;simp(disch:=omega);apply Z;refine zd ⟨[],[],[],[],[]⟩ [.op {},.op {},.op {},.op {},.op {},.op {},.op {},.op {},.op {}] fun all hall _ Z=>?_;refine iU 8 fun _ Y=>?_;simp(disch:=omega);and_intros<;>(try omega);apply Y;simp(disch:=omega);apply Z;refine zI ?_ ?_<;>intro c3<;>try simp at c3
  .refine zk [0,1,5,12,13] ?_;refine bE fun _ _ Z=>?_;simp(disch:=omega);apply Z;apply aD;simp [aK];intro e;subst e;exact c3 rfl
  apply mM;refine zk [0,1,5,12,13] ?_;refine rB fun _ _ Z=>?_;simp(disch:=omega);and_intros<;>(try omega);apply Z;refine zq (k+1) ?_ ?_ ?_
  .exact⟨by omega,by rw [bK a k (by omega),bK b k (by omega),hh];simp [*]⟩
  .try dsimp only
   omega
  simp(disch:=omega)
 apply zE;refine bE fun _ _ Z=>?_;simp(disch:=omega);apply Z;apply aD;simp [aK]
 rwa [bL (by omega),bL (by omega)] at hh
end Go.Proofs.YtbgfljpnhhdkoaaGreat
