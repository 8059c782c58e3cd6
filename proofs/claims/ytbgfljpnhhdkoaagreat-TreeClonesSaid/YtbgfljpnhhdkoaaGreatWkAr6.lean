import Derived.Test.YtbgfljpnhhdkoaaGreatWkAr5
set_option maxRecDepth 20000
set_option linter.all false
set_option maxHeartbeats 8000000
open Go.Proofs.Tryz
namespace Go.Proofs.YtbgfljpnhhdkoaaGreat
open Go Go.Vm
variable {c:ByteArray}{j k:Nat}{l:List PI}
section
variable {o:List AT} {b:Bool} {x p:AT}
theorem Ei(hb:b=false)(h:Op.bytesLess x.name.toList p.name.toList=false)(e:x.name=p.name):mJ nA p (o,b) x=(o++ [p],true):=by
 have e':nA x=nA p:=e;have h2:b=false/\dQ (nA x) (nA p)=false:=⟨hb,h⟩;unfold mJ;dsimp only;rw [if_pos e',if_pos h2]
theorem Fe(hb:b=false)(h:Op.bytesLess x.name.toList p.name.toList=false)(e:¬x.name=p.name):mJ nA p (o,b) x=(o++ [p]++ [x],true):=by
 have e':¬nA x=nA p:=e;have h2:b=false/\dQ (nA x) (nA p)=false:=⟨hb,h⟩;unfold mJ;dsimp only;rw [if_neg e',if_pos h2]
theorem Gc(h:Op.bytesLess x.name.toList p.name.toList=true)(e:x.name=p.name):mJ nA p (o,b) x=(o,b):=by
 have e':nA x=nA p:=e;have h2:¬(b=false/\dQ (nA x) (nA p)=false):=fun q=>by have h3:dQ (nA x) (nA p)=true:=h;rw [h3] at q;cases q.2
 unfold mJ;dsimp only;rw [if_pos e',if_neg h2]
theorem Er(h:Op.bytesLess x.name.toList p.name.toList=true)(e:¬x.name=p.name):mJ nA p (o,b) x=(o++ [x],b):=by
 have e':¬nA x=nA p:=e;have h2:¬(b=false/\dQ (nA x) (nA p)=false):=fun q=>by have h3:dQ (nA x) (nA p)=true:=h;rw [h3] at q;cases q.2
 unfold mJ;dsimp only;rw [if_neg e',if_neg h2]
theorem Ds(h:b=true)(e:x.name=p.name):mJ nA p (o,b) x=(o,b):=by
 have e':nA x=nA p:=e;have h2:¬(b=false/\dQ (nA x) (nA p)=false):=fun q=>by rw [h] at q;cases q.1
 unfold mJ;dsimp only;rw [if_pos e',if_neg h2]
theorem Ef(h:b=true)(e:¬x.name=p.name):mJ nA p (o,b) x=(o++ [x],b):=by
 have e':¬nA x=nA p:=e;have h2:¬(b=false/\dQ (nA x) (nA p)=false):=fun q=>by rw [h] at q;cases q.1
 unfold mJ;dsimp only;rw [if_neg e',if_neg h2]
end
@[simp] abbrev q32_1:Cfg:=⟨[4,5,25,34,41,45],[],[],[],[]⟩
theorem Uv(l:List AT)(p:AT)(σ:List (List D))(hl:l.length<=99999)(hs:Sorted nA l):Ct prog 72 [.sl false (l.map cY),cY p] σ (fun r σ'=>r= .sl true ((fQ nA l p).map cY)/\σ'=σ):=by
 refine zf func72 ?_;refine zr q32_1 fun _ _ Z=>?_;simp(disch:=omega)[aB,aA];apply Z;refine zr q32_1 fun _ _ Z=>?_;simp(disch:=omega)[aB,aA];and_intros<;>(try omega);apply Z;refine zr q32_1 fun _ _ Z=>?_;simp(disch:=omega)[aB,aA];apply Z;apply aE;refine zr q32_1 fun _ _ Z=>?_;simp(disch:=omega)[aB,aA];and_intros<;>(try omega);apply Z;apply aR;refine zk [3,4,5,6,10,11,12] ?_;refine bA (fun(k:Nat)=> [(12,.d (.v (.int .i64 (k:Int)))),(5,.d (.sl true ((rN nA (l.take k) p).1.map cY))),(6,.d (.bool (rN nA (l.take k) p).2))]) [5,6,8,12,13,14,15,16,17,18,19,20,21,22,23,24,25,26,27,28,29,30,31,32,33,34,35,36,37,38] (fun(k:Nat)=>k<=l.length) (fun(k:Nat)=>l.length - k) (0) (by simp <;> rfl) ?_ ?_ ?_
 .simp [rN]
 .simp
 rintro k hk;simp only [aQ,aP];have hpl:=aDm nA (l.take k) p;simp only [bG] at hpl;generalize hps:rN nA (l.take k) p=s at hpl |-;obtain⟨o,b⟩:=s;have hpl2:o.length<=k+1:=by simp only at hpl;split at hpl <;> omega
 dsimp only;refine zr q32_1 fun _ _ Z=>?_;simp(disch:=omega)[aB,aA];apply Z;apply aE;refine zI ?_ ?_<;>intro c1<;>try simp at c1
 .apply kP;refine zr q32_1 fun _ _ Z=>?_;simp(disch:=omega)[aB,aA];and_intros<;>(try omega);apply Z;apply aE;refine mK q32_1 fun all hall _ Z=>?_;have ga2:aO all 2=some 18:=hall 2;refine zs 3 fun _ Y=>?_;simp(disch:=omega)[aB,aA,ga2];apply Y;refine zb 18 ?_ ?_<;>intro g2<;>try simp at g2
  .simp(disch:=omega)[aB,aA,ga2];apply Z;refine zI ?_ ?_<;>intro c3<;>try simp at c3
   .refine zk [3,4,5,6,8,10,11,12] ?_;refine zr q32_1 fun _ _ Z=>?_;simp(disch:=omega)[aB,aA];and_intros<;>(try omega);apply Z;refine zk [3,4,5,6,8,10,11,12] ?_;refine zt q32_1 fun _ _ Z=>?_;simp(disch:=omega)[aB,aA];apply Z;apply fV;refine zr q32_1 fun _ _ Z=>?_;simp(disch:=omega)[aB,aA];apply Z;refine zI ?_ ?_<;>intro c4<;>try simp at c4
    .refine zk [3,4,5,6,8,10,11,12] ?_;refine zt q32_1 fun _ _ Z=>?_;simp(disch:=omega)[aB,aA];and_intros<;>(try omega);apply Z;apply zB;refine zk [3,4,5,6,10,11,12] ?_;refine zt q32_1 fun _ _ Z=>?_;simp(disch:=omega)[aB,aA];and_intros<;>(try omega);apply Z;refine zq (k+1) ?_ ?_ ?_
     .omega
     .try dsimp only
      omega
     rw [pW nA l p k (by omega),hps];first | rw [Ei (by assumption) (by assumption) (by assumption)] | rw [Fe (by assumption) (by assumption) (by assumption)] | rw [Gc (by assumption) (by assumption)] | rw [Er (by assumption) (by assumption)] | rw [Ds (by first | assumption | simpa using g2) (by assumption)] | rw [Ef (by first | assumption | simpa using g2) (by assumption)]
     simp [*]
    apply nS;refine zk [3,4,5,6,10,11,12] ?_;refine zt q32_1 fun _ _ Z=>?_;simp(disch:=omega)[aB,aA];and_intros<;>(try omega);apply Z;refine zq (k+1) ?_ ?_ ?_
    .omega
    .try dsimp only
     omega
    rw [pW nA l p k (by omega),hps];first | rw [Ei (by assumption) (by assumption) (by assumption)] | rw [Fe (by assumption) (by assumption) (by assumption)] | rw [Gc (by assumption) (by assumption)] | rw [Er (by assumption) (by assumption)] | rw [Ds (by first | assumption | simpa using g2) (by assumption)] | rw [Ef (by first | assumption | simpa using g2) (by assumption)]
    simp [*]
   apply zA;refine zk [3,4,5,6,8,10,11,12] ?_;refine zr q32_1 fun _ _ Z=>?_;simp(disch:=omega)[aB,aA];apply Z;refine zI ?_ ?_<;>intro c5<;>try simp at c5
   .refine zk [3,4,5,6,8,10,11,12] ?_;refine zt q32_1 fun _ _ Z=>?_;simp(disch:=omega)[aB,aA];and_intros<;>(try omega);apply Z;apply zB;refine zk [3,4,5,6,10,11,12] ?_;refine zt q32_1 fun _ _ Z=>?_;simp(disch:=omega)[aB,aA];and_intros<;>(try omega);apply Z;refine zq (k+1) ?_ ?_ ?_
    .omega
    .try dsimp only
     omega
    rw [pW nA l p k (by omega),hps];first | rw [Ei (by assumption) (by assumption) (by assumption)] | rw [Fe (by assumption) (by assumption) (by assumption)] | rw [Gc (by assumption) (by assumption)] | rw [Er (by assumption) (by assumption)] | rw [Ds (by first | assumption | simpa using g2) (by assumption)] | rw [Ef (by first | assumption | simpa using g2) (by assumption)]
    simp [*]
   apply nS;refine zk [3,4,5,6,10,11,12] ?_;refine zt q32_1 fun _ _ Z=>?_;simp(disch:=omega)[aB,aA];and_intros<;>(try omega);apply Z;refine zq (k+1) ?_ ?_ ?_
   .omega
   .try dsimp only
    omega
   rw [pW nA l p k (by omega),hps];first | rw [Ei (by assumption) (by assumption) (by assumption)] | rw [Fe (by assumption) (by assumption) (by assumption)] | rw [Gc (by assumption) (by assumption)] | rw [Er (by assumption) (by assumption)] | rw [Ds (by first | assumption | simpa using g2) (by assumption)] | rw [Ef (by first | assumption | simpa using g2) (by assumption)]
   simp [*]
  simp(disch:=omega)[aB,aA,ga2];apply Z;refine aZ (t:=false) (by simp) (fun h=>by cases h) (fun _=>?_);apply zA;refine zk [3,4,5,6,8,10,11,12] ?_;refine zr q32_1 fun _ _ Z=>?_;simp(disch:=omega)[aB,aA];apply Z;refine zI ?_ ?_<;>intro c6<;>try simp at c6
  .refine zk [3,4,5,6,8,10,11,12] ?_;refine zt q32_1 fun _ _ Z=>?_;simp(disch:=omega)[aB,aA];and_intros<;>(try omega);apply Z;apply zB;refine zk [3,4,5,6,10,11,12] ?_;refine zt q32_1 fun _ _ Z=>?_;simp(disch:=omega)[aB,aA];and_intros<;>(try omega);apply Z;refine zq (k+1) ?_ ?_ ?_
   .omega
   .try dsimp only
    omega
   rw [pW nA l p k (by omega),hps];first | rw [Ei (by assumption) (by assumption) (by assumption)] | rw [Fe (by assumption) (by assumption) (by assumption)] | rw [Gc (by assumption) (by assumption)] | rw [Er (by assumption) (by assumption)] | rw [Ds (by first | assumption | simpa using g2) (by assumption)] | rw [Ef (by first | assumption | simpa using g2) (by assumption)]
   simp [*]
  apply nS;refine zk [3,4,5,6,10,11,12] ?_;refine zt q32_1 fun _ _ Z=>?_;simp(disch:=omega)[aB,aA];and_intros<;>(try omega);apply Z;refine zq (k+1) ?_ ?_ ?_
  .omega
  .try dsimp only
   omega
  rw [pW nA l p k (by omega),hps];first | rw [Ei (by assumption) (by assumption) (by assumption)] | rw [Fe (by assumption) (by assumption) (by assumption)] | rw [Gc (by assumption) (by assumption)] | rw [Er (by assumption) (by assumption)] | rw [Ds (by first | assumption | simpa using g2) (by assumption)] | rw [Ef (by first | assumption | simpa using g2) (by assumption)]
  simp [*]
 obtain rfl:k=l.length:=by omega
 rw [eP] at hps;apply zE;apply aE;refine zr q32_1 fun _ _ Z=>?_;simp(disch:=omega)[aB,aA];apply Z;refine zI ?_ ?_<;>intro c7<;>try simp at c7
 .refine zt q32_1 fun _ _ Z=>?_;simp(disch:=omega)[aB,aA];and_intros<;>(try omega);apply Z;apply fV;refine zk [4,5] ?_;refine zr q32_1 fun _ _ Z=>?_;simp(disch:=omega)[aB,aA];apply Z;apply aC;simp [aH];rw [<- Of nA hs p,hps];simp [aCm, *]
 apply zA;refine zr q32_1 fun _ _ Z=>?_;simp(disch:=omega)[aB,aA];apply Z;apply aC;simp [aH];rw [<- Of nA hs p,hps];simp [aCm, *]
def Sp(l:List PI)(k j:Nat):Option PI:=Md nP (l.take j) ((iB nP l).take k)
def xE(l:List PI)(k j:Nat):PI:=(Sp l k j).getD ⟨⟨#[]⟩,0⟩
def ahd(l:List PI)(k:Nat)(c:ByteArray):Bool:=rK nP ((iB nP l).take k) c
theorem aWi(l:List PI)(k:Nat)(c:ByteArray)(h:k<(iB nP l).length):ahd l (k+1) c=dQ (iB nP l)[k].name c:=by
 unfold ahd rK;rw [bS (iB nP l) k h,List.getLast?_concat]
theorem Dd(l:List PI)(k j:Nat)(h:j<l.length):Sp l k (j+1)=if ahd l k l[j].name=true then(match Sp l k j with | none=>some l[j] | some q=>if dQ (nP q) (nP l[j])=true then some q else some l[j])else Sp l k j:=by
 have e:=aD4 nP l ((iB nP l).take k) j h;unfold Sp ahd;rw [e];cases Md nP (l.take j) ((iB nP l).take k) <;> rfl
theorem tC (g:¬k=0)(hk:k<=(iB nP l).length)(c:ByteArray):ahd l k c=dQ ((iB nP l)[k - 1]'(by omega)).name c:=by
 obtain⟨m,rfl⟩:∃m,k=m+1:=⟨k - 1,by omega⟩;exact aWi l m c (by omega)
theorem fT(l:List PI)(k:Nat):(∀d:D,d∈List.take k (List.map cQ l)->d.ncells=2)↔True:=by
 refine⟨fun _=>trivial,fun _ d hd=>?_⟩;obtain⟨a,_,rfl⟩:=aX.1 (mD hd);rfl
theorem vG (h:j<l.length)(ha:ahd l k l[j].name=true)(hc:(Sp l k j).isSome=false\/dQ (xE l k j).name l[j].name=false):Sp l k (j+1)=some l[j]:=by
 rw [Dd l k j h,aL ha];unfold xE at hc;cases hq:Sp l k j with
 | none=>rfl
 | some q=>
  rw [hq] at hc;have:dQ (nP q) (nP l[j])=false:=by simpa using hc
  simp [this]
theorem vJ (h:j<l.length)(ha:ahd l k l[j].name=false):Sp l k (j+1)=Sp l k j:=by
 rw [Dd l k j h,aD (by rw [ha];simp)]
theorem vS (h:j<l.length)(h1:(Sp l k j).isSome=true)(h2:dQ (xE l k j).name l[j].name=true):Sp l k (j+1)=Sp l k j:=by
 by_cases ha:ahd l k l[j].name=true
 .rw [Dd l k j h,aL ha];unfold xE at h2;cases hq:Sp l k j with
  | none=>rw [hq] at h1;cases h1
  | some q=>
   rw [hq] at h2;have:dQ (nP q) (nP l[j])=true:=h2;simp [this]
 rw [Dd l k j h,aD ha]
theorem aPs (hk:k<=(iB nP l).length):Sp l k l.length=(iB nP l)[k]?:=by
 unfold Sp;rw [eP];exact aJo nP l k hk
theorem aRe(l:List PI)(k:Nat):Sp l k 0=none:=aSo nP l _
@[simp] abbrev q32_2:Cfg:=⟨[2,3,48,49],[],[],[],[]⟩
theorem Qx(l:List PI)(σ:List (List D))(hl:l.length<=99999):Ct prog 73 [.sl false (l.map cQ)] σ (fun r σ'=>r= .sl true ((iB nP l).map cQ)/\σ'=σ):=by
 refine zf func73 ?_;refine zr q32_2 fun _ _ Z=>?_;simp(disch:=omega)[aB,aA,fT];apply Z;refine zr q32_2 fun _ _ Z=>?_;simp(disch:=omega)[aB,aA,fT];and_intros<;>(try omega);apply Z;apply aR;refine zk [0,2,3] ?_;refine bA (fun(k:Nat)=> [(3,.d (.sl true (((iB nP l).take k).map cQ)))]) [2,3,4,5,7,8,10,11,12,13,14,15,16,17,18,19,20,21,22,23,24,25,26,27,28,29,30,31,32,33,34,35,36,37,38,39,40,41,42,43,44,45,46,47,48,49,50,51,52] (fun(k:Nat)=>k<=(iB nP l).length) (fun(k:Nat)=>(iB nP l).length - k) (0) (by simp <;> rfl) ?_ ?_ ?_
 .simp
 .simp
 rintro k hk;simp only [aQ,aP];have hol:=jC nP l;have hlk:((iB nP l).take k).length=k:=by simp;omega
 apply aR;refine zr q32_2 fun _ _ Z=>?_;simp(disch:=omega)[aB,aA,fT];apply Z;refine zr q32_2 fun _ _ Z=>?_;simp(disch:=omega)[aB,aA,fT];apply Z;apply aE;refine zr q32_2 fun _ _ Z=>?_;simp(disch:=omega)[aB,aA,fT];and_intros<;>(try omega);apply Z;apply aR;refine zk [0,3,4,5,11,12,13] ?_;refine oL (fun(j:Nat)=> [(13,.d (.v (.int .i64 (j:Int)))),(4,.d (.bool (Sp l k j).isSome)),(8,.d (.any))]) (fun(j:Nat)=> [(0, [.v (.string ((xE l k j).name)),.v (.int .i64 ((xE l k j).value))])]) (fun(j:Nat)=> []) [4,7,8,13,14,15,16,17,18,19,20,21,22,23,24,25,26,27,28,29,30,31,32,33,34,35,36,37,38,39,40,41,42,43,44,45] (fun(j:Nat)=>j<=l.length) (fun(j:Nat)=>l.length - j) (0) (by simp <;> rfl) ?_ (by simp [xE,aRe]) (by simp) ?_ ?_
 .simp [aRe,xE]
 .simp
 rintro j hj;simp only [aQ,aP,oY,nC,iY,iQ];refine zr q32_2 fun _ _ Z=>?_;simp(disch:=omega)[aB,aA,fT];apply Z;apply aE;refine zI ?_ ?_<;>intro c1<;>try simp at c1
 .apply kP;refine zr q32_2 fun _ _ Z=>?_;simp(disch:=omega)[aB,aA,fT];and_intros<;>(try omega);apply Z;refine zk [0,3,4,5,7,8,11,12,13] ?_;refine zd q32_2 [.op {},.op {},.op {},.op {},.op {},.op {rL:=true},.op {},.op {},.op {},.op {},.op {},.op {},.op {},.op {},.op {},.op {}] fun all hall _ Z=>?_;have ga3:aO all 3=some 20:=hall 3;refine lN 4 fun _ Y=>?_;simp(disch:=omega)[aB,aA,fT,ga3];and_intros<;>(try omega);apply Y;refine zbD 20 ?_ ?_<;>intro g2<;>try simp at g2
  .refine lN 8 fun _ Y=>?_;simp(disch:=omega)[aB,aA,fT,ga3];and_intros<;>(try omega);apply Y;simp(disch:=omega)[aB,aA,fT,ga3];apply Z;refine zk [0,3,4,5,7,8,11,12,13] ?_;refine mK q32_2 fun all hall _ Z=>?_;have ga1:aO all 1=some 33:=hall 1;have ga4:aO all 4=some 36:=hall 4;refine zs 2 fun _ Y=>?_;simp(disch:=omega)[aB,aA,fT,ga1,ga4];apply Y;refine zs 3 fun _ Y=>?_;simp(disch:=omega)[aB,aA,fT,ga1,ga4];apply Y;refine zb 36 ?_ ?_<;>intro g3<;>try simp at g3
   .simp(disch:=omega)[aB,aA,fT,ga1,ga4];apply Z;refine aZ (t:=true) (by simp) (fun _=>?_) (fun h=>by cases h);refine zk [0,3,4,5,7,8,11,12,13] ?_;refine zr q32_2 fun _ _ Z=>?_;simp(disch:=omega)[aB,aA,fT];apply Z;refine zt q32_2 fun _ _ Z=>?_;simp(disch:=omega)[aB,aA,fT];apply Z;apply zB;refine zt q32_2 fun _ _ Z=>?_;simp(disch:=omega)[aB,aA,fT];and_intros<;>(try omega);apply Z;first | have hcn:=vG (k:=k) c1 (by first | (rw [show k=0 from g2];rfl) | (rw [tC g2 hk];exact g5)) (by first | exact .inl (by rw [g3];rfl) | exact .inl (by rw [g6];rfl) | exact .inr c4 | exact .inr c7) | have hcn:=vS (k:=k) c1 (by first | exact g3 | exact g6) (by first | exact c4 | exact c7) | have hcn:=vJ (k:=k) c1 (by rw [tC g2 hk];exact g5)
    refine fU (j+1) ?_ ?_ (eN rfl ?_ (by simp [xE,hcn]) (by simp))
    .omega
    .try dsimp only
     omega
    simp(disch:=omega)[aB,aA,fT,hcn]
   simp(disch:=omega)[aB,aA,fT,ga1,ga4];apply Z;refine zI ?_ ?_<;>intro c4<;>try simp at c4
   .refine zk [0,3,4,5,7,8,11,12,13] ?_;refine zr q32_2 fun _ _ Z=>?_;simp(disch:=omega)[aB,aA,fT];apply Z;refine zt q32_2 fun _ _ Z=>?_;simp(disch:=omega)[aB,aA,fT];apply Z;apply zB;refine zt q32_2 fun _ _ Z=>?_;simp(disch:=omega)[aB,aA,fT];and_intros<;>(try omega);apply Z;first | have hcn:=vG (k:=k) c1 (by first | (rw [show k=0 from g2];rfl) | (rw [tC g2 hk];exact g5)) (by first | exact .inl (by rw [g3];rfl) | exact .inl (by rw [g6];rfl) | exact .inr c4 | exact .inr c7) | have hcn:=vS (k:=k) c1 (by first | exact g3 | exact g6) (by first | exact c4 | exact c7) | have hcn:=vJ (k:=k) c1 (by rw [tC g2 hk];exact g5)
    refine fU (j+1) ?_ ?_ (eN rfl ?_ (by simp [xE,hcn]) (by simp))
    .omega
    .try dsimp only
     omega
    simp(disch:=omega)[aB,aA,fT,hcn]
   apply nS;refine zk [0,3,4,5,8,11,12,13] ?_;refine zt q32_2 fun _ _ Z=>?_;simp(disch:=omega)[aB,aA,fT];and_intros<;>(try omega);apply Z;first | have hcn:=vG (k:=k) c1 (by first | (rw [show k=0 from g2];rfl) | (rw [tC g2 hk];exact g5)) (by first | exact .inl (by rw [g3];rfl) | exact .inl (by rw [g6];rfl) | exact .inr c4 | exact .inr c7) | have hcn:=vS (k:=k) c1 (by first | exact g3 | exact g6) (by first | exact c4 | exact c7) | have hcn:=vJ (k:=k) c1 (by rw [tC g2 hk];exact g5)
   refine fU (j+1) ?_ ?_ (eN rfl ?_ (by simp [xE,hcn]) (by simp))
   .omega
   .try dsimp only
    omega
   simp(disch:=omega)[aB,aA,fT,hcn]
  refine lN 8 fun _ Y=>?_;simp(disch:=omega)[aB,aA,fT,ga3];and_intros<;>(try omega);apply Y;simp(disch:=omega)[aB,aA,fT,ga3];apply Z;refine zk [0,3,4,5,7,8,11,12,13] ?_;refine mK q32_2 fun all hall _ Z=>?_;have ga1:aO all 1=some 33:=hall 1;have ga4:aO all 4=some 36:=hall 4;refine zs 2 fun _ Y=>?_;simp(disch:=omega)[aB,aA,fT,ga1,ga4];apply Y;refine zb 33 ?_ ?_<;>intro g5<;>try simp at g5
  .refine zs 3 fun _ Y=>?_;simp(disch:=omega)[aB,aA,fT,ga1,ga4];apply Y;refine zb 36 ?_ ?_<;>intro g6<;>try simp at g6
   .simp(disch:=omega)[aB,aA,fT,ga1,ga4];apply Z;refine aZ (t:=true) (by simp) (fun _=>?_) (fun h=>by cases h);refine zk [0,3,4,5,7,8,11,12,13] ?_;refine zr q32_2 fun _ _ Z=>?_;simp(disch:=omega)[aB,aA,fT];apply Z;refine zt q32_2 fun _ _ Z=>?_;simp(disch:=omega)[aB,aA,fT];apply Z;apply zB;refine zt q32_2 fun _ _ Z=>?_;simp(disch:=omega)[aB,aA,fT];and_intros<;>(try omega);apply Z;first | have hcn:=vG (k:=k) c1 (by first | (rw [show k=0 from g2];rfl) | (rw [tC g2 hk];exact g5)) (by first | exact .inl (by rw [g3];rfl) | exact .inl (by rw [g6];rfl) | exact .inr c4 | exact .inr c7) | have hcn:=vS (k:=k) c1 (by first | exact g3 | exact g6) (by first | exact c4 | exact c7) | have hcn:=vJ (k:=k) c1 (by rw [tC g2 hk];exact g5)
    refine fU (j+1) ?_ ?_ (eN rfl ?_ (by simp [xE,hcn]) (by simp))
    .omega
    .try dsimp only
     omega
    simp(disch:=omega)[aB,aA,fT,hcn]
   simp(disch:=omega)[aB,aA,fT,ga1,ga4];apply Z;refine zI ?_ ?_<;>intro c7<;>try simp at c7
   .refine zk [0,3,4,5,7,8,11,12,13] ?_;refine zr q32_2 fun _ _ Z=>?_;simp(disch:=omega)[aB,aA,fT];apply Z;refine zt q32_2 fun _ _ Z=>?_;simp(disch:=omega)[aB,aA,fT];apply Z;apply zB;refine zt q32_2 fun _ _ Z=>?_;simp(disch:=omega)[aB,aA,fT];and_intros<;>(try omega);apply Z;first | have hcn:=vG (k:=k) c1 (by first | (rw [show k=0 from g2];rfl) | (rw [tC g2 hk];exact g5)) (by first | exact .inl (by rw [g3];rfl) | exact .inl (by rw [g6];rfl) | exact .inr c4 | exact .inr c7) | have hcn:=vS (k:=k) c1 (by first | exact g3 | exact g6) (by first | exact c4 | exact c7) | have hcn:=vJ (k:=k) c1 (by rw [tC g2 hk];exact g5)
    refine fU (j+1) ?_ ?_ (eN rfl ?_ (by simp [xE,hcn]) (by simp))
    .omega
    .try dsimp only
     omega
    simp(disch:=omega)[aB,aA,fT,hcn]
   apply nS;refine zk [0,3,4,5,8,11,12,13] ?_;refine zt q32_2 fun _ _ Z=>?_;simp(disch:=omega)[aB,aA,fT];and_intros<;>(try omega);apply Z;first | have hcn:=vG (k:=k) c1 (by first | (rw [show k=0 from g2];rfl) | (rw [tC g2 hk];exact g5)) (by first | exact .inl (by rw [g3];rfl) | exact .inl (by rw [g6];rfl) | exact .inr c4 | exact .inr c7) | have hcn:=vS (k:=k) c1 (by first | exact g3 | exact g6) (by first | exact c4 | exact c7) | have hcn:=vJ (k:=k) c1 (by rw [tC g2 hk];exact g5)
   refine fU (j+1) ?_ ?_ (eN rfl ?_ (by simp [xE,hcn]) (by simp))
   .omega
   .try dsimp only
    omega
   simp(disch:=omega)[aB,aA,fT,hcn]
  refine zs 8 fun _ Y=>?_;simp(disch:=omega)[aB,aA,fT,ga1,ga4];and_intros<;>(try omega);apply Y;simp(disch:=omega)[aB,aA,fT,ga1,ga4];apply Z;refine aZ (t:=false) (by simp) (fun h=>by cases h) (fun _=>?_);apply nS;refine zk [0,3,4,5,8,11,12,13] ?_;refine zt q32_2 fun _ _ Z=>?_;simp(disch:=omega)[aB,aA,fT];and_intros<;>(try omega);apply Z;first | have hcn:=vG (k:=k) c1 (by first | (rw [show k=0 from g2];rfl) | (rw [tC g2 hk];exact g5)) (by first | exact .inl (by rw [g3];rfl) | exact .inl (by rw [g6];rfl) | exact .inr c4 | exact .inr c7) | have hcn:=vS (k:=k) c1 (by first | exact g3 | exact g6) (by first | exact c4 | exact c7) | have hcn:=vJ (k:=k) c1 (by rw [tC g2 hk];exact g5)
  refine fU (j+1) ?_ ?_ (eN rfl ?_ (by simp [xE,hcn]) (by simp))
  .omega
  .try dsimp only
   omega
  simp(disch:=omega)[aB,aA,fT,hcn]
 obtain rfl:j=l.length:=by omega
 have hce:=aPs hk;apply zE;apply aE;refine zr q32_2 fun _ _ Z=>?_;simp(disch:=omega)[aB,aA,fT];apply Z;refine zI ?_ ?_<;>intro c8<;>try simp at c8
 .refine zr q32_2 fun _ _ Z=>?_;simp(disch:=omega)[aB,aA,fT];apply Z;apply aC;simp [aH];rw [hce] at c8;rw [cC (by simpa using List.getElem?_eq_none_iff.1 c8)]
 have hk2:k<(iB nP l).length:=by
   rcases uN k (iB nP l).length with h | h
   .exact h
   rw [hce,gQ h] at c8;exact absurd c8 (by simp)
 have hcd:xE l k l.length=(iB nP l)[k]:=by unfold xE;rw [hce,aS hk2];rfl
 have htk:List.take (k+1) (List.map cQ (iB nP l))=List.take k (List.map cQ (iB nP l))++ [cQ (iB nP l)[k]]:=by rw [bS _ k (by simpa using hk2),kE]
 apply zA;refine zt q32_2 fun _ _ Z=>?_;simp(disch:=omega)[aB,aA,fT];and_intros<;>(try omega);apply Z;apply kV;refine zq (k+1) ?_ ?_ ?_
 .omega
 .try dsimp only
  omega
 simp(disch:=omega)[aB,aA,fT,hcd,htk]
@[simp] abbrev q32_3:Cfg:=⟨[4,5,20,25],[],[],[],[]⟩
theorem aDa(l:List PI)(c:ByteArray)(σ:List (List D))(hl:l.length<=99999)(hs:Sorted nP l):Ct prog 76 [.sl false (l.map cQ),D.str c] σ (fun r σ'=>r= .sl true ((lA nP l c).map cQ)/\σ'=σ):=by
 refine zf func76 ?_;refine zr q32_3 fun _ _ Z=>?_;simp(disch:=omega);apply Z;refine zr q32_3 fun _ _ Z=>?_;simp(disch:=omega);and_intros<;>(try omega);apply Z;apply aE;refine zr q32_3 fun _ _ Z=>?_;refine zs 1 fun _ Y=>?_;simp(disch:=omega);apply Y;refine aF fun _ Y=>?_;simp(disch:=omega);refine cU (Qx l _ hl) ?_;rw [rE nP hs];apply Y;simp(disch:=omega);and_intros<;>(try omega);apply Z;apply aR;refine zk [1,4,5,10,11,12] ?_;refine bA (fun(k:Nat)=> [(12,.d (.v (.int .i64 (k:Int)))),(5,.d (.sl true ((lA nP (l.take k) c).map cQ)))]) [5,7,12,13,14,15,16,17,18,19,20,21,22,23,24] (fun(k:Nat)=>k<=l.length) (fun(k:Nat)=>l.length - k) (0) (by simp <;> rfl) ?_ ?_ ?_
 .simp [lA]
 .simp
 rintro k hk;simp only [aQ,aP];have hdl:=Ch nP (l.take k) c;simp only [bG] at hdl;refine zr q32_3 fun _ _ Z=>?_;simp(disch:=omega);apply Z;apply aE;refine zI ?_ ?_<;>intro c1<;>try simp at c1
 .apply kP;refine zr q32_3 fun _ _ Z=>?_;simp(disch:=omega);and_intros<;>(try omega);apply Z;refine zr q32_3 fun _ _ Z=>?_;simp(disch:=omega);apply Z;refine zI ?_ ?_<;>intro c2<;>try simp at c2
  .refine zk [1,4,5,7,10,11,12] ?_;refine zt q32_3 fun _ _ Z=>?_;simp(disch:=omega);and_intros<;>(try omega);apply Z;apply zB;refine zk [1,4,5,10,11,12] ?_;refine zt q32_3 fun _ _ Z=>?_;simp(disch:=omega);and_intros<;>(try omega);apply Z;refine zq (k+1) ?_ ?_ ?_
   .omega
   .try dsimp only
    omega
   simp(disch:=omega)[xO, *]
  apply nS;refine zk [1,4,5,10,11,12] ?_;refine zt q32_3 fun _ _ Z=>?_;simp(disch:=omega);and_intros<;>(try omega);apply Z;refine zq (k+1) ?_ ?_ ?_
  .omega
  .try dsimp only
   omega
  simp(disch:=omega)[xO, *]
 apply zE;refine zr q32_3 fun _ _ Z=>?_;simp(disch:=omega);apply Z;apply aC;simp [aH];rw [cC (by omega)]
theorem Wq :lQ nP l c=true↔∃j,∃h:j<l.length,l[j].name=c:=by
 unfold lQ;rw [oE];constructor
 .rintro⟨x,hx,e⟩;obtain⟨j,hj,rfl⟩:=jA hx;exact⟨j,hj,by simpa using e⟩
 rintro⟨j,hj,e⟩;exact⟨l[j],bP hj,by simpa using e⟩
theorem aAh (hh:∀j (h:j<l.length),k<=j->l[j].name≠c) {hk:k - 1<l.length} (c2:¬l[k - 1].name=c)(h:j<l.length)(h2:k - 1<=j):l[j].name≠c:=by
 rcases uN j k with h3 | h3
 .obtain rfl:j=k - 1:=by omega
  exact c2
 exact hh j h h3
theorem aSj (h:∀j (h:j<l.length),0<=j->l[j].name≠c):lQ nP l c=false:=by
 rw [<- zC,Wq];rintro⟨j,hj,e⟩;exact h j hj (iI _) e
theorem aJv(l:List PI)(c:ByteArray)(σ:List (List D))(hl:l.length<=99999):Ct prog 75 [.sl false (l.map cQ),D.str c] σ (fun r σ'=>(∃v:Int,r= .tup [D.int v,.bool (lQ nP l c)])/\σ'=σ):=by
 refine zf func75 ?_;refine bF fun _ _ Z=>?_;simp(disch:=omega)[pP];apply Z;apply aE;refine bF fun _ _ Z=>?_;simp(disch:=omega)[pP];and_intros<;>(try omega);apply Z;apply aR;refine zk [0,1,4,5,6] ?_;refine bA (fun(k:Nat)=> [(6,.d (.int ((k:Int) - 1)))]) [4,5,6,10,11,12,13,14,15,16,17,18,19,20,21,22,23,24,25] (fun(k:Nat)=>k<=l.length/\∀j (h:j<l.length),k<=j->l[j].name≠c) (fun(k:Nat)=>k) (l.length) (by simp <;> rfl) ?_ ?_ ?_
 .simp
 .exact⟨aV _,fun j h h2=>by omega⟩
 rintro k ⟨hk,hh⟩;simp only [aQ,aP];have htn:1<=k->((k:Int) - 1).toNat=k - 1:=fun h=>by omega
 apply aE;refine bF fun _ _ Z=>?_;simp(disch:=omega)[pP];apply Z;refine zI ?_ ?_<;>intro c1<;>try simp at c1
 .have hk1:1<=k:=by omega
  have htn1:=htn hk1;apply kP;refine bF fun _ _ Z=>?_;simp(disch:=omega)[pP];and_intros<;>(try omega);apply Z;refine zI ?_ ?_<;>intro c2<;>try simp at c2
  .refine zk [0,1,6] ?_;refine bF fun _ _ Z=>?_;simp(disch:=omega)[pP];and_intros<;>(try omega);apply Z;apply aC;simp [aH];exact Wq.2 ⟨k - 1,by omega,c2⟩
  apply nS;refine zk [0,1,6] ?_;refine qJ fun _ _ Z=>?_;simp(disch:=omega)[pP];and_intros<;>(try omega);apply Z;refine zq (k - 1) ?_ ?_ ?_
  .exact⟨by omega,fun j h h2=>aAh hh c2 h h2⟩
  .try dsimp only
   omega
  simp [Sn];omega
 apply zE;refine bF fun _ _ Z=>?_;simp(disch:=omega)[pP];apply Z;apply aC;simp [aH];exact aSj fun j h _=>hh j h (by omega)
theorem Pu(l:List Int)(k:Nat):(∀d:D,d∈List.take k (List.map D.int l)->d.ncells=1)↔True:=by
 refine⟨fun _=>trivial,fun _ d hd=>?_⟩;obtain⟨a,_,rfl⟩:=aX.1 (mD hd);rfl
theorem Sa(l:List Int)(k:Nat):(∀d:D,d∈List.drop k (List.map D.int l)->d.ncells=1)↔True:=by
 refine⟨fun _=>trivial,fun _ d hd=>?_⟩;obtain⟨a,_,rfl⟩:=aX.1 (yG hd);rfl
theorem aKo(l:List Int)(x:Int):(l.filter fun y=> !decide (y=x)).length<=l.length:=kH _ _
def kQ(l:List Int)(x:Int):List Int:=l.filter fun y=> !decide (y=x)
theorem Oz(l:List Int)(x:Int)(k:Nat)(h:k<l.length):kQ (l.take (k+1)) x=kQ (l.take k) x++if l[k]=x then [] else [l[k]]:=by
 unfold kQ;rw [bS l k h,fY,gP];by_cases e:l[k]=x <;> simp [e]
@[simp] abbrev q32_4:Cfg:=⟨[6,7,13,17],[],[],[],[]⟩
theorem aA6(l:List Int)(i:Nat)(x:Int)(σ:List (List D))(hl:l.length<=99999)(hi:i<=l.length):Ct prog 206 [.sl false (l.map D.int),D.int i,D.int x] σ (fun r σ'=>r= .sl true ((fL l i x).map D.int)/\σ'=σ):=by
 refine zf func206 ?_;have htl:List.take l.length (List.map D.int l)=List.map D.int l:=cC (by simp);refine zr q32_4 fun _ _ Z=>?_;simp[Pu,Sa,aB,aA,htl];apply Z;refine zr q32_4 fun _ _ Z=>?_;simp[Pu,Sa,aB,aA,htl];and_intros<;>(try omega);apply Z;refine zr q32_4 fun _ _ Z=>?_;simp[Pu,Sa,aB,aA,htl];and_intros<;>(try omega);apply Z;refine zk [0,1,6,7] ?_;refine zr q32_4 fun _ _ Z=>?_;simp[Pu,Sa,aB,aA,htl];and_intros<;>(try omega);apply Z;apply aC;simp [aH,fL]
@[simp] abbrev q32_5:Cfg:=⟨[4,5,18,23],[],[],[],[]⟩
theorem Hg(l:List Int)(x:Int)(σ:List (List D))(hl:l.length<=99999):Ct prog 208 [.sl false (l.map D.int),D.int x] σ (fun r σ'=>r= .sl true ((kQ l x).map D.int)/\σ'=σ):=by
 refine zf func208 ?_;refine zr q32_5 fun _ _ Z=>?_;simp(disch:=omega);apply Z;refine zr q32_5 fun _ _ Z=>?_;simp(disch:=omega);and_intros<;>(try omega);apply Z;apply aE;refine zr q32_5 fun _ _ Z=>?_;simp(disch:=omega);and_intros<;>(try omega);apply Z;apply aR;refine zk [1,4,5,9,10,11] ?_;refine bA (fun(k:Nat)=> [(11,.d (.v (.int .i64 (k:Int)))),(5,.d (.sl true ((kQ (l.take k) x).map D.int)))]) [5,7,11,12,13,14,15,16,17,18,19,20,21,22] (fun(k:Nat)=>k<=l.length) (fun(k:Nat)=>l.length - k) (0) (by simp <;> rfl) ?_ ?_ ?_
 .simp [kQ]
 .simp
 rintro k hk;simp only [aQ,aP];have hdl:=aKo (l.take k) x;simp only [bG] at hdl;have hdl2:(kQ (l.take k) x).length<=k:=by unfold kQ;omega
 refine zr q32_5 fun _ _ Z=>?_;simp(disch:=omega);apply Z;apply aE;refine zI ?_ ?_<;>intro c1<;>try simp at c1
 .apply kP;refine zr q32_5 fun _ _ Z=>?_;simp(disch:=omega);and_intros<;>(try omega);apply Z;refine zr q32_5 fun _ _ Z=>?_;simp(disch:=omega);apply Z;refine zI ?_ ?_<;>intro c2<;>try simp at c2
  .refine zk [1,4,5,7,9,10,11] ?_;refine zt q32_5 fun _ _ Z=>?_;simp(disch:=omega);and_intros<;>(try omega);apply Z;apply zB;refine zk [1,4,5,9,10,11] ?_;refine zt q32_5 fun _ _ Z=>?_;simp(disch:=omega);and_intros<;>(try omega);apply Z;refine zq (k+1) ?_ ?_ ?_
   .omega
   .try dsimp only
    omega
   simp(disch:=omega)[Oz, *]
  apply nS;refine zk [1,4,5,9,10,11] ?_;refine zt q32_5 fun _ _ Z=>?_;simp(disch:=omega);and_intros<;>(try omega);apply Z;refine zq (k+1) ?_ ?_ ?_
  .omega
  .try dsimp only
   omega
  simp(disch:=omega)[Oz, *]
 apply zE;refine zr q32_5 fun _ _ Z=>?_;simp(disch:=omega);apply Z;apply aC;simp [aH];rw [cC (by omega)]
end Go.Proofs.YtbgfljpnhhdkoaaGreat
