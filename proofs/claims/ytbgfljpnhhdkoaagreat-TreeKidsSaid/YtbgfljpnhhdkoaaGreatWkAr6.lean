import Derived.Test.YtbgfljpnhhdkoaaGreatWkAr5
set_option maxRecDepth 20000
set_option linter.all false
set_option maxHeartbeats 8000000
open Go.Proofs.Tryz
namespace Go.Proofs.YtbgfljpnhhdkoaaGreat
open Go Go.Vm
variable {c:ByteArray}{j k:Nat}{l:List PI}
section
variable {o:List AT} {b:Bool} {x p:AT}
theorem Dk(hb:b=false)(h:Op.bytesLess x.name.toList p.name.toList=false)(e:x.name=p.name):mD nA p (o,b) x=(o++ [p],true):=by
 have e':nA x=nA p:=e;have h2:b=false/\dM (nA x) (nA p)=false:=⟨hb,h⟩;unfold mD;dsimp only;rw [if_pos e',if_pos h2]
theorem Dd(hb:b=false)(h:Op.bytesLess x.name.toList p.name.toList=false)(e:¬x.name=p.name):mD nA p (o,b) x=(o++ [p]++ [x],true):=by
 have e':¬nA x=nA p:=e;have h2:b=false/\dM (nA x) (nA p)=false:=⟨hb,h⟩;unfold mD;dsimp only;rw [if_neg e',if_pos h2]
theorem Db(h:Op.bytesLess x.name.toList p.name.toList=true)(e:x.name=p.name):mD nA p (o,b) x=(o,b):=by
 have e':nA x=nA p:=e;have h2:¬(b=false/\dM (nA x) (nA p)=false):=fun q=>by have h3:dM (nA x) (nA p)=true:=h;rw [h3] at q;cases q.2
 unfold mD;dsimp only;rw [if_pos e',if_neg h2]
theorem Gi(h:Op.bytesLess x.name.toList p.name.toList=true)(e:¬x.name=p.name):mD nA p (o,b) x=(o++ [x],b):=by
 have e':¬nA x=nA p:=e;have h2:¬(b=false/\dM (nA x) (nA p)=false):=fun q=>by have h3:dM (nA x) (nA p)=true:=h;rw [h3] at q;cases q.2
 unfold mD;dsimp only;rw [if_neg e',if_neg h2]
theorem Dm(h:b=true)(e:x.name=p.name):mD nA p (o,b) x=(o,b):=by
 have e':nA x=nA p:=e;have h2:¬(b=false/\dM (nA x) (nA p)=false):=fun q=>by rw [h] at q;cases q.1
 unfold mD;dsimp only;rw [if_pos e',if_neg h2]
theorem Dv(h:b=true)(e:¬x.name=p.name):mD nA p (o,b) x=(o++ [x],b):=by
 have e':¬nA x=nA p:=e;have h2:¬(b=false/\dM (nA x) (nA p)=false):=fun q=>by rw [h] at q;cases q.1
 unfold mD;dsimp only;rw [if_neg e',if_neg h2]
end
@[simp] abbrev q30_1:Cfg:=⟨[4,5,25,34,41,45],[],[],[],[]⟩
theorem Ts(l:List AT)(p:AT)(σ:List (List D))(hl:l.length<=99999)(hs:Sorted nA l):Ct prog 72 [.sl false (l.map cZ),cZ p] σ (fun r σ'=>r= .sl true ((fU nA l p).map cZ)/\σ'=σ):=by
 refine zf func72 ?_;refine zr q30_1 fun _ _ Z=>?_;simp(disch:=omega)[aA,aB];apply Z;refine zr q30_1 fun _ _ Z=>?_;simp(disch:=omega)[aA,aB];and_intros<;>(try omega);apply Z;refine zr q30_1 fun _ _ Z=>?_;simp(disch:=omega)[aA,aB];apply Z;apply aE;refine zr q30_1 fun _ _ Z=>?_;simp(disch:=omega)[aA,aB];and_intros<;>(try omega);apply Z;apply aR;refine zk [3,4,5,6,10,11,12] ?_;refine aY (fun(k:Nat)=> [(12,.d (.v (.int .i64 (k:Int)))),(5,.d (.sl true ((rE nA (l.take k) p).1.map cZ))),(6,.d (.bool (rE nA (l.take k) p).2))]) [5,6,8,12,13,14,15,16,17,18,19,20,21,22,23,24,25,26,27,28,29,30,31,32,33,34,35,36,37,38] (fun(k:Nat)=>k<=l.length) (fun(k:Nat)=>l.length - k) (0) (by simp <;> rfl) ?_ ?_ ?_
 .simp [rE]
 .simp
 rintro k hk;simp only [aQ,aP];have hpl:=aDe nA (l.take k) p;simp only [bF] at hpl;generalize hps:rE nA (l.take k) p=s at hpl |-;obtain⟨o,b⟩:=s;have hpl2:o.length<=k+1:=by simp only at hpl;split at hpl <;> omega
 dsimp only;refine zr q30_1 fun _ _ Z=>?_;simp(disch:=omega)[aA,aB];apply Z;apply aE;refine zI ?_ ?_<;>intro c1<;>try simp at c1
 .apply kO;refine zr q30_1 fun _ _ Z=>?_;simp(disch:=omega)[aA,aB];and_intros<;>(try omega);apply Z;apply aE;refine mE q30_1 fun all hall _ Z=>?_;have ga2:aO all 2=some 18:=hall 2;refine zs 3 fun _ Y=>?_;simp(disch:=omega)[aA,aB,ga2];apply Y;refine zb 18 ?_ ?_<;>intro g2<;>try simp at g2
  .simp(disch:=omega)[aA,aB,ga2];apply Z;refine zI ?_ ?_<;>intro c3<;>try simp at c3
   .refine zk [3,4,5,6,8,10,11,12] ?_;refine zr q30_1 fun _ _ Z=>?_;simp(disch:=omega)[aA,aB];and_intros<;>(try omega);apply Z;refine zk [3,4,5,6,8,10,11,12] ?_;refine zt q30_1 fun _ _ Z=>?_;simp(disch:=omega)[aA,aB];apply Z;apply dV;refine zr q30_1 fun _ _ Z=>?_;simp(disch:=omega)[aA,aB];apply Z;refine zI ?_ ?_<;>intro c4<;>try simp at c4
    .refine zk [3,4,5,6,8,10,11,12] ?_;refine zt q30_1 fun _ _ Z=>?_;simp(disch:=omega)[aA,aB];and_intros<;>(try omega);apply Z;apply zB;refine zk [3,4,5,6,10,11,12] ?_;refine zt q30_1 fun _ _ Z=>?_;simp(disch:=omega)[aA,aB];and_intros<;>(try omega);apply Z;refine zq (k+1) ?_ ?_ ?_
     .omega
     .try dsimp only
      omega
     rw [pE nA l p k (by omega),hps];first | rw [Dk (by assumption) (by assumption) (by assumption)] | rw [Dd (by assumption) (by assumption) (by assumption)] | rw [Db (by assumption) (by assumption)] | rw [Gi (by assumption) (by assumption)] | rw [Dm (by first | assumption | simpa using g2) (by assumption)] | rw [Dv (by first | assumption | simpa using g2) (by assumption)]
     simp [*]
    apply nM;refine zk [3,4,5,6,10,11,12] ?_;refine zt q30_1 fun _ _ Z=>?_;simp(disch:=omega)[aA,aB];and_intros<;>(try omega);apply Z;refine zq (k+1) ?_ ?_ ?_
    .omega
    .try dsimp only
     omega
    rw [pE nA l p k (by omega),hps];first | rw [Dk (by assumption) (by assumption) (by assumption)] | rw [Dd (by assumption) (by assumption) (by assumption)] | rw [Db (by assumption) (by assumption)] | rw [Gi (by assumption) (by assumption)] | rw [Dm (by first | assumption | simpa using g2) (by assumption)] | rw [Dv (by first | assumption | simpa using g2) (by assumption)]
    simp [*]
   apply zA;refine zk [3,4,5,6,8,10,11,12] ?_;refine zr q30_1 fun _ _ Z=>?_;simp(disch:=omega)[aA,aB];apply Z;refine zI ?_ ?_<;>intro c5<;>try simp at c5
   .refine zk [3,4,5,6,8,10,11,12] ?_;refine zt q30_1 fun _ _ Z=>?_;simp(disch:=omega)[aA,aB];and_intros<;>(try omega);apply Z;apply zB;refine zk [3,4,5,6,10,11,12] ?_;refine zt q30_1 fun _ _ Z=>?_;simp(disch:=omega)[aA,aB];and_intros<;>(try omega);apply Z;refine zq (k+1) ?_ ?_ ?_
    .omega
    .try dsimp only
     omega
    rw [pE nA l p k (by omega),hps];first | rw [Dk (by assumption) (by assumption) (by assumption)] | rw [Dd (by assumption) (by assumption) (by assumption)] | rw [Db (by assumption) (by assumption)] | rw [Gi (by assumption) (by assumption)] | rw [Dm (by first | assumption | simpa using g2) (by assumption)] | rw [Dv (by first | assumption | simpa using g2) (by assumption)]
    simp [*]
   apply nM;refine zk [3,4,5,6,10,11,12] ?_;refine zt q30_1 fun _ _ Z=>?_;simp(disch:=omega)[aA,aB];and_intros<;>(try omega);apply Z;refine zq (k+1) ?_ ?_ ?_
   .omega
   .try dsimp only
    omega
   rw [pE nA l p k (by omega),hps];first | rw [Dk (by assumption) (by assumption) (by assumption)] | rw [Dd (by assumption) (by assumption) (by assumption)] | rw [Db (by assumption) (by assumption)] | rw [Gi (by assumption) (by assumption)] | rw [Dm (by first | assumption | simpa using g2) (by assumption)] | rw [Dv (by first | assumption | simpa using g2) (by assumption)]
   simp [*]
  simp(disch:=omega)[aA,aB,ga2];apply Z;refine aZ (t:=false) (by simp) (fun h=>by cases h) (fun _=>?_);apply zA;refine zk [3,4,5,6,8,10,11,12] ?_;refine zr q30_1 fun _ _ Z=>?_;simp(disch:=omega)[aA,aB];apply Z;refine zI ?_ ?_<;>intro c6<;>try simp at c6
  .refine zk [3,4,5,6,8,10,11,12] ?_;refine zt q30_1 fun _ _ Z=>?_;simp(disch:=omega)[aA,aB];and_intros<;>(try omega);apply Z;apply zB;refine zk [3,4,5,6,10,11,12] ?_;refine zt q30_1 fun _ _ Z=>?_;simp(disch:=omega)[aA,aB];and_intros<;>(try omega);apply Z;refine zq (k+1) ?_ ?_ ?_
   .omega
   .try dsimp only
    omega
   rw [pE nA l p k (by omega),hps];first | rw [Dk (by assumption) (by assumption) (by assumption)] | rw [Dd (by assumption) (by assumption) (by assumption)] | rw [Db (by assumption) (by assumption)] | rw [Gi (by assumption) (by assumption)] | rw [Dm (by first | assumption | simpa using g2) (by assumption)] | rw [Dv (by first | assumption | simpa using g2) (by assumption)]
   simp [*]
  apply nM;refine zk [3,4,5,6,10,11,12] ?_;refine zt q30_1 fun _ _ Z=>?_;simp(disch:=omega)[aA,aB];and_intros<;>(try omega);apply Z;refine zq (k+1) ?_ ?_ ?_
  .omega
  .try dsimp only
   omega
  rw [pE nA l p k (by omega),hps];first | rw [Dk (by assumption) (by assumption) (by assumption)] | rw [Dd (by assumption) (by assumption) (by assumption)] | rw [Db (by assumption) (by assumption)] | rw [Gi (by assumption) (by assumption)] | rw [Dm (by first | assumption | simpa using g2) (by assumption)] | rw [Dv (by first | assumption | simpa using g2) (by assumption)]
  simp [*]
 obtain rfl:k=l.length:=by omega
 rw [fJ] at hps;apply zE;apply aE;refine zr q30_1 fun _ _ Z=>?_;simp(disch:=omega)[aA,aB];apply Z;refine zI ?_ ?_<;>intro c7<;>try simp at c7
 .refine zt q30_1 fun _ _ Z=>?_;simp(disch:=omega)[aA,aB];and_intros<;>(try omega);apply Z;apply dV;refine zk [4,5] ?_;refine zr q30_1 fun _ _ Z=>?_;simp(disch:=omega)[aA,aB];apply Z;apply aC;simp [aG];rw [<- Pd nA hs p,hps];simp [aDx, *]
 apply zA;refine zr q30_1 fun _ _ Z=>?_;simp(disch:=omega)[aA,aB];apply Z;apply aC;simp [aG];rw [<- Pd nA hs p,hps];simp [aDx, *]
def Rz(l:List PI)(k j:Nat):Option PI:=Lq nP (l.take j) ((iP nP l).take k)
def vW(l:List PI)(k j:Nat):PI:=(Rz l k j).getD ⟨⟨#[]⟩,0⟩
def ahd(l:List PI)(k:Nat)(c:ByteArray):Bool:=rB nP ((iP nP l).take k) c
theorem aU4(l:List PI)(k:Nat)(c:ByteArray)(h:k<(iP nP l).length):ahd l (k+1) c=dM (iP nP l)[k].name c:=by
 unfold ahd rB;rw [bR (iP nP l) k h,List.getLast?_concat]
theorem Bp(l:List PI)(k j:Nat)(h:j<l.length):Rz l k (j+1)=if ahd l k l[j].name=true then(match Rz l k j with | none=>some l[j] | some q=>if dM (nP q) (nP l[j])=true then some q else some l[j])else Rz l k j:=by
 have e:=aCn nP l ((iP nP l).take k) j h;unfold Rz ahd;rw [e];cases Lq nP (l.take j) ((iP nP l).take k) <;> rfl
theorem sZ (g:¬k=0)(hk:k<=(iP nP l).length)(c:ByteArray):ahd l k c=dM ((iP nP l)[k - 1]'(by omega)).name c:=by
 obtain⟨m,rfl⟩:∃m,k=m+1:=⟨k - 1,by omega⟩;exact aU4 l m c (by omega)
theorem fM(l:List PI)(k:Nat):(∀d:D,d∈List.take k (List.map cL l)->d.ncells=2)↔True:=by
 refine⟨fun _=>trivial,fun _ d hd=>?_⟩;obtain⟨a,_,rfl⟩:=aW.1 (nE hd);rfl
theorem uU (h:j<l.length)(ha:ahd l k l[j].name=true)(hc:(Rz l k j).isSome=false\/dM (vW l k j).name l[j].name=false):Rz l k (j+1)=some l[j]:=by
 rw [Bp l k j h,aJ ha];unfold vW at hc;cases hq:Rz l k j with
 | none=>rfl
 | some q=>
  rw [hq] at hc;have:dM (nP q) (nP l[j])=false:=by simpa using hc
  simp [this]
theorem vF (h:j<l.length)(ha:ahd l k l[j].name=false):Rz l k (j+1)=Rz l k j:=by
 rw [Bp l k j h,aD (by rw [ha];simp)]
theorem uW (h:j<l.length)(h1:(Rz l k j).isSome=true)(h2:dM (vW l k j).name l[j].name=true):Rz l k (j+1)=Rz l k j:=by
 by_cases ha:ahd l k l[j].name=true
 .rw [Bp l k j h,aJ ha];unfold vW at h2;cases hq:Rz l k j with
  | none=>rw [hq] at h1;cases h1
  | some q=>
   rw [hq] at h2;have:dM (nP q) (nP l[j])=true:=h2;simp [this]
 rw [Bp l k j h,aD ha]
theorem aNq (hk:k<=(iP nP l).length):Rz l k l.length=(iP nP l)[k]?:=by
 unfold Rz;rw [fJ];exact aJz nP l k hk
theorem aQe(l:List PI)(k:Nat):Rz l k 0=none:=aRp nP l _
@[simp] abbrev q30_2:Cfg:=⟨[2,3,48,49],[],[],[],[]⟩
theorem aKv(l:List PI)(σ:List (List D))(hl:l.length<=99999):Ct prog 73 [.sl false (l.map cL)] σ (fun r σ'=>r= .sl true ((iP nP l).map cL)/\σ'=σ):=by
 refine zf func73 ?_;refine zr q30_2 fun _ _ Z=>?_;simp(disch:=omega)[aA,aB,fM];apply Z;refine zr q30_2 fun _ _ Z=>?_;simp(disch:=omega)[aA,aB,fM];and_intros<;>(try omega);apply Z;apply aR;refine zk [0,2,3] ?_;refine aY (fun(k:Nat)=> [(3,.d (.sl true (((iP nP l).take k).map cL)))]) [2,3,4,5,7,8,10,11,12,13,14,15,16,17,18,19,20,21,22,23,24,25,26,27,28,29,30,31,32,33,34,35,36,37,38,39,40,41,42,43,44,45,46,47,48,49,50,51,52] (fun(k:Nat)=>k<=(iP nP l).length) (fun(k:Nat)=>(iP nP l).length - k) (0) (by simp <;> rfl) ?_ ?_ ?_
 .simp
 .simp
 rintro k hk;simp only [aQ,aP];have hol:=iX nP l;have hlk:((iP nP l).take k).length=k:=by simp;omega
 apply aR;refine zr q30_2 fun _ _ Z=>?_;simp(disch:=omega)[aA,aB,fM];apply Z;refine zr q30_2 fun _ _ Z=>?_;simp(disch:=omega)[aA,aB,fM];apply Z;apply aE;refine zr q30_2 fun _ _ Z=>?_;simp(disch:=omega)[aA,aB,fM];and_intros<;>(try omega);apply Z;apply aR;refine zk [0,3,4,5,11,12,13] ?_;refine oB (fun(j:Nat)=> [(13,.d (.v (.int .i64 (j:Int)))),(4,.d (.bool (Rz l k j).isSome)),(8,.d (.any))]) (fun(j:Nat)=> [(0, [.v (.string ((vW l k j).name)),.v (.int .i64 ((vW l k j).value))])]) (fun(j:Nat)=> []) [4,7,8,13,14,15,16,17,18,19,20,21,22,23,24,25,26,27,28,29,30,31,32,33,34,35,36,37,38,39,40,41,42,43,44,45] (fun(j:Nat)=>j<=l.length) (fun(j:Nat)=>l.length - j) (0) (by simp <;> rfl) ?_ (by simp [vW,aQe]) (by simp) ?_ ?_
 .simp [aQe,vW]
 .simp
 rintro j hj;simp only [aQ,aP,oU,mT,jE,iR];refine zr q30_2 fun _ _ Z=>?_;simp(disch:=omega)[aA,aB,fM];apply Z;apply aE;refine zI ?_ ?_<;>intro c1<;>try simp at c1
 .apply kO;refine zr q30_2 fun _ _ Z=>?_;simp(disch:=omega)[aA,aB,fM];and_intros<;>(try omega);apply Z;refine zk [0,3,4,5,7,8,11,12,13] ?_;refine zd q30_2 [.op {},.op {},.op {},.op {},.op {},.op {rL:=true},.op {},.op {},.op {},.op {},.op {},.op {},.op {},.op {},.op {},.op {}] fun all hall _ Z=>?_;have ga3:aO all 3=some 20:=hall 3;refine nI 4 fun _ Y=>?_;simp(disch:=omega)[aA,aB,fM,ga3];and_intros<;>(try omega);apply Y;refine zbD 20 ?_ ?_<;>intro g2<;>try simp at g2
  .refine nI 8 fun _ Y=>?_;simp(disch:=omega)[aA,aB,fM,ga3];and_intros<;>(try omega);apply Y;simp(disch:=omega)[aA,aB,fM,ga3];apply Z;refine zk [0,3,4,5,7,8,11,12,13] ?_;refine mE q30_2 fun all hall _ Z=>?_;have ga1:aO all 1=some 33:=hall 1;have ga4:aO all 4=some 36:=hall 4;refine zs 2 fun _ Y=>?_;simp(disch:=omega)[aA,aB,fM,ga1,ga4];apply Y;refine zs 3 fun _ Y=>?_;simp(disch:=omega)[aA,aB,fM,ga1,ga4];apply Y;refine zb 36 ?_ ?_<;>intro g3<;>try simp at g3
   .simp(disch:=omega)[aA,aB,fM,ga1,ga4];apply Z;refine aZ (t:=true) (by simp) (fun _=>?_) (fun h=>by cases h);refine zk [0,3,4,5,7,8,11,12,13] ?_;refine zr q30_2 fun _ _ Z=>?_;simp(disch:=omega)[aA,aB,fM];apply Z;refine zt q30_2 fun _ _ Z=>?_;simp(disch:=omega)[aA,aB,fM];apply Z;apply zB;refine zt q30_2 fun _ _ Z=>?_;simp(disch:=omega)[aA,aB,fM];and_intros<;>(try omega);apply Z;first | have hcn:=uU (k:=k) c1 (by first | (rw [show k=0 from g2];rfl) | (rw [sZ g2 hk];exact g5)) (by first | exact .inl (by rw [g3];rfl) | exact .inl (by rw [g6];rfl) | exact .inr c4 | exact .inr c7) | have hcn:=uW (k:=k) c1 (by first | exact g3 | exact g6) (by first | exact c4 | exact c7) | have hcn:=vF (k:=k) c1 (by rw [sZ g2 hk];exact g5)
    refine fP (j+1) ?_ ?_ (eG rfl ?_ (by simp [vW,hcn]) (by simp))
    .omega
    .try dsimp only
     omega
    simp(disch:=omega)[aA,aB,fM,hcn]
   simp(disch:=omega)[aA,aB,fM,ga1,ga4];apply Z;refine zI ?_ ?_<;>intro c4<;>try simp at c4
   .refine zk [0,3,4,5,7,8,11,12,13] ?_;refine zr q30_2 fun _ _ Z=>?_;simp(disch:=omega)[aA,aB,fM];apply Z;refine zt q30_2 fun _ _ Z=>?_;simp(disch:=omega)[aA,aB,fM];apply Z;apply zB;refine zt q30_2 fun _ _ Z=>?_;simp(disch:=omega)[aA,aB,fM];and_intros<;>(try omega);apply Z;first | have hcn:=uU (k:=k) c1 (by first | (rw [show k=0 from g2];rfl) | (rw [sZ g2 hk];exact g5)) (by first | exact .inl (by rw [g3];rfl) | exact .inl (by rw [g6];rfl) | exact .inr c4 | exact .inr c7) | have hcn:=uW (k:=k) c1 (by first | exact g3 | exact g6) (by first | exact c4 | exact c7) | have hcn:=vF (k:=k) c1 (by rw [sZ g2 hk];exact g5)
    refine fP (j+1) ?_ ?_ (eG rfl ?_ (by simp [vW,hcn]) (by simp))
    .omega
    .try dsimp only
     omega
    simp(disch:=omega)[aA,aB,fM,hcn]
   apply nM;refine zk [0,3,4,5,8,11,12,13] ?_;refine zt q30_2 fun _ _ Z=>?_;simp(disch:=omega)[aA,aB,fM];and_intros<;>(try omega);apply Z;first | have hcn:=uU (k:=k) c1 (by first | (rw [show k=0 from g2];rfl) | (rw [sZ g2 hk];exact g5)) (by first | exact .inl (by rw [g3];rfl) | exact .inl (by rw [g6];rfl) | exact .inr c4 | exact .inr c7) | have hcn:=uW (k:=k) c1 (by first | exact g3 | exact g6) (by first | exact c4 | exact c7) | have hcn:=vF (k:=k) c1 (by rw [sZ g2 hk];exact g5)
   refine fP (j+1) ?_ ?_ (eG rfl ?_ (by simp [vW,hcn]) (by simp))
   .omega
   .try dsimp only
    omega
   simp(disch:=omega)[aA,aB,fM,hcn]
  refine nI 8 fun _ Y=>?_;simp(disch:=omega)[aA,aB,fM,ga3];and_intros<;>(try omega);apply Y;simp(disch:=omega)[aA,aB,fM,ga3];apply Z;refine zk [0,3,4,5,7,8,11,12,13] ?_;refine mE q30_2 fun all hall _ Z=>?_;have ga1:aO all 1=some 33:=hall 1;have ga4:aO all 4=some 36:=hall 4;refine zs 2 fun _ Y=>?_;simp(disch:=omega)[aA,aB,fM,ga1,ga4];apply Y;refine zb 33 ?_ ?_<;>intro g5<;>try simp at g5
  .refine zs 3 fun _ Y=>?_;simp(disch:=omega)[aA,aB,fM,ga1,ga4];apply Y;refine zb 36 ?_ ?_<;>intro g6<;>try simp at g6
   .simp(disch:=omega)[aA,aB,fM,ga1,ga4];apply Z;refine aZ (t:=true) (by simp) (fun _=>?_) (fun h=>by cases h);refine zk [0,3,4,5,7,8,11,12,13] ?_;refine zr q30_2 fun _ _ Z=>?_;simp(disch:=omega)[aA,aB,fM];apply Z;refine zt q30_2 fun _ _ Z=>?_;simp(disch:=omega)[aA,aB,fM];apply Z;apply zB;refine zt q30_2 fun _ _ Z=>?_;simp(disch:=omega)[aA,aB,fM];and_intros<;>(try omega);apply Z;first | have hcn:=uU (k:=k) c1 (by first | (rw [show k=0 from g2];rfl) | (rw [sZ g2 hk];exact g5)) (by first | exact .inl (by rw [g3];rfl) | exact .inl (by rw [g6];rfl) | exact .inr c4 | exact .inr c7) | have hcn:=uW (k:=k) c1 (by first | exact g3 | exact g6) (by first | exact c4 | exact c7) | have hcn:=vF (k:=k) c1 (by rw [sZ g2 hk];exact g5)
    refine fP (j+1) ?_ ?_ (eG rfl ?_ (by simp [vW,hcn]) (by simp))
    .omega
    .try dsimp only
     omega
    simp(disch:=omega)[aA,aB,fM,hcn]
   simp(disch:=omega)[aA,aB,fM,ga1,ga4];apply Z;refine zI ?_ ?_<;>intro c7<;>try simp at c7
   .refine zk [0,3,4,5,7,8,11,12,13] ?_;refine zr q30_2 fun _ _ Z=>?_;simp(disch:=omega)[aA,aB,fM];apply Z;refine zt q30_2 fun _ _ Z=>?_;simp(disch:=omega)[aA,aB,fM];apply Z;apply zB;refine zt q30_2 fun _ _ Z=>?_;simp(disch:=omega)[aA,aB,fM];and_intros<;>(try omega);apply Z;first | have hcn:=uU (k:=k) c1 (by first | (rw [show k=0 from g2];rfl) | (rw [sZ g2 hk];exact g5)) (by first | exact .inl (by rw [g3];rfl) | exact .inl (by rw [g6];rfl) | exact .inr c4 | exact .inr c7) | have hcn:=uW (k:=k) c1 (by first | exact g3 | exact g6) (by first | exact c4 | exact c7) | have hcn:=vF (k:=k) c1 (by rw [sZ g2 hk];exact g5)
    refine fP (j+1) ?_ ?_ (eG rfl ?_ (by simp [vW,hcn]) (by simp))
    .omega
    .try dsimp only
     omega
    simp(disch:=omega)[aA,aB,fM,hcn]
   apply nM;refine zk [0,3,4,5,8,11,12,13] ?_;refine zt q30_2 fun _ _ Z=>?_;simp(disch:=omega)[aA,aB,fM];and_intros<;>(try omega);apply Z;first | have hcn:=uU (k:=k) c1 (by first | (rw [show k=0 from g2];rfl) | (rw [sZ g2 hk];exact g5)) (by first | exact .inl (by rw [g3];rfl) | exact .inl (by rw [g6];rfl) | exact .inr c4 | exact .inr c7) | have hcn:=uW (k:=k) c1 (by first | exact g3 | exact g6) (by first | exact c4 | exact c7) | have hcn:=vF (k:=k) c1 (by rw [sZ g2 hk];exact g5)
   refine fP (j+1) ?_ ?_ (eG rfl ?_ (by simp [vW,hcn]) (by simp))
   .omega
   .try dsimp only
    omega
   simp(disch:=omega)[aA,aB,fM,hcn]
  refine zs 8 fun _ Y=>?_;simp(disch:=omega)[aA,aB,fM,ga1,ga4];and_intros<;>(try omega);apply Y;simp(disch:=omega)[aA,aB,fM,ga1,ga4];apply Z;refine aZ (t:=false) (by simp) (fun h=>by cases h) (fun _=>?_);apply nM;refine zk [0,3,4,5,8,11,12,13] ?_;refine zt q30_2 fun _ _ Z=>?_;simp(disch:=omega)[aA,aB,fM];and_intros<;>(try omega);apply Z;first | have hcn:=uU (k:=k) c1 (by first | (rw [show k=0 from g2];rfl) | (rw [sZ g2 hk];exact g5)) (by first | exact .inl (by rw [g3];rfl) | exact .inl (by rw [g6];rfl) | exact .inr c4 | exact .inr c7) | have hcn:=uW (k:=k) c1 (by first | exact g3 | exact g6) (by first | exact c4 | exact c7) | have hcn:=vF (k:=k) c1 (by rw [sZ g2 hk];exact g5)
  refine fP (j+1) ?_ ?_ (eG rfl ?_ (by simp [vW,hcn]) (by simp))
  .omega
  .try dsimp only
   omega
  simp(disch:=omega)[aA,aB,fM,hcn]
 obtain rfl:j=l.length:=by omega
 have hce:=aNq hk;apply zE;apply aE;refine zr q30_2 fun _ _ Z=>?_;simp(disch:=omega)[aA,aB,fM];apply Z;refine zI ?_ ?_<;>intro c8<;>try simp at c8
 .refine zr q30_2 fun _ _ Z=>?_;simp(disch:=omega)[aA,aB,fM];apply Z;apply aC;simp [aG];rw [hce] at c8;rw [bV (by simpa using List.getElem?_eq_none_iff.1 c8)]
 have hk2:k<(iP nP l).length:=by
   rcases uN k (iP nP l).length with h | h
   .exact h
   rw [hce,iG h] at c8;exact absurd c8 (by simp)
 have hcd:vW l k l.length=(iP nP l)[k]:=by unfold vW;rw [hce,aT hk2];rfl
 have htk:List.take (k+1) (List.map cL (iP nP l))=List.take k (List.map cL (iP nP l))++ [cL (iP nP l)[k]]:=by rw [bR _ k (by simpa using hk2),jU]
 apply zA;refine zt q30_2 fun _ _ Z=>?_;simp(disch:=omega)[aA,aB,fM];and_intros<;>(try omega);apply Z;apply kT;refine zq (k+1) ?_ ?_ ?_
 .omega
 .try dsimp only
  omega
 simp(disch:=omega)[aA,aB,fM,hcd,htk]
@[simp] abbrev q30_3:Cfg:=⟨[4,5,20,25],[],[],[],[]⟩
theorem aFo(l:List PI)(c:ByteArray)(σ:List (List D))(hl:l.length<=99999)(hs:Sorted nP l):Ct prog 76 [.sl false (l.map cL),D.str c] σ (fun r σ'=>r= .sl true ((kP nP l c).map cL)/\σ'=σ):=by
 refine zf func76 ?_;refine zr q30_3 fun _ _ Z=>?_;simp(disch:=omega);apply Z;refine zr q30_3 fun _ _ Z=>?_;simp(disch:=omega);and_intros<;>(try omega);apply Z;apply aE;refine zr q30_3 fun _ _ Z=>?_;refine zs 1 fun _ Y=>?_;simp(disch:=omega);apply Y;refine aF fun _ Y=>?_;simp(disch:=omega);refine cN (aKv l _ hl) ?_;rw [qV nP hs];apply Y;simp(disch:=omega);and_intros<;>(try omega);apply Z;apply aR;refine zk [1,4,5,10,11,12] ?_;refine aY (fun(k:Nat)=> [(12,.d (.v (.int .i64 (k:Int)))),(5,.d (.sl true ((kP nP (l.take k) c).map cL)))]) [5,7,12,13,14,15,16,17,18,19,20,21,22,23,24] (fun(k:Nat)=>k<=l.length) (fun(k:Nat)=>l.length - k) (0) (by simp <;> rfl) ?_ ?_ ?_
 .simp [kP]
 .simp
 rintro k hk;simp only [aQ,aP];have hdl:=Cj nP (l.take k) c;simp only [bF] at hdl;refine zr q30_3 fun _ _ Z=>?_;simp(disch:=omega);apply Z;apply aE;refine zI ?_ ?_<;>intro c1<;>try simp at c1
 .apply kO;refine zr q30_3 fun _ _ Z=>?_;simp(disch:=omega);and_intros<;>(try omega);apply Z;refine zr q30_3 fun _ _ Z=>?_;simp(disch:=omega);apply Z;refine zI ?_ ?_<;>intro c2<;>try simp at c2
  .refine zk [1,4,5,7,10,11,12] ?_;refine zt q30_3 fun _ _ Z=>?_;simp(disch:=omega);and_intros<;>(try omega);apply Z;apply zB;refine zk [1,4,5,10,11,12] ?_;refine zt q30_3 fun _ _ Z=>?_;simp(disch:=omega);and_intros<;>(try omega);apply Z;refine zq (k+1) ?_ ?_ ?_
   .omega
   .try dsimp only
    omega
   simp(disch:=omega)[xS, *]
  apply nM;refine zk [1,4,5,10,11,12] ?_;refine zt q30_3 fun _ _ Z=>?_;simp(disch:=omega);and_intros<;>(try omega);apply Z;refine zq (k+1) ?_ ?_ ?_
  .omega
  .try dsimp only
   omega
  simp(disch:=omega)[xS, *]
 apply zE;refine zr q30_3 fun _ _ Z=>?_;simp(disch:=omega);apply Z;apply aC;simp [aG];rw [bV (by omega)]
theorem Tu :lL nP l c=true↔∃j,∃h:j<l.length,l[j].name=c:=by
 unfold lL;rw [oI];constructor
 .rintro⟨x,hx,e⟩;obtain⟨j,hj,rfl⟩:=jX hx;exact⟨j,hj,by simpa using e⟩
 rintro⟨j,hj,e⟩;exact⟨l[j],cB hj,by simpa using e⟩
theorem Yj (hh:∀j (h:j<l.length),k<=j->l[j].name≠c) {hk:k - 1<l.length} (c2:¬l[k - 1].name=c)(h:j<l.length)(h2:k - 1<=j):l[j].name≠c:=by
 rcases uN j k with h3 | h3
 .obtain rfl:j=k - 1:=by omega
  exact c2
 exact hh j h h3
theorem aRf (h:∀j (h:j<l.length),0<=j->l[j].name≠c):lL nP l c=false:=by
 rw [<- xU,Tu];rintro⟨j,hj,e⟩;exact h j hj (iE _) e
theorem aLv(l:List PI)(c:ByteArray)(σ:List (List D))(hl:l.length<=99999):Ct prog 75 [.sl false (l.map cL),D.str c] σ (fun r σ'=>(∃v:Int,r= .tup [D.int v,.bool (lL nP l c)])/\σ'=σ):=by
 refine zf func75 ?_;refine bC fun _ _ Z=>?_;simp(disch:=omega)[pZ];apply Z;apply aE;refine bC fun _ _ Z=>?_;simp(disch:=omega)[pZ];and_intros<;>(try omega);apply Z;apply aR;refine zk [0,1,4,5,6] ?_;refine aY (fun(k:Nat)=> [(6,.d (.int ((k:Int) - 1)))]) [4,5,6,10,11,12,13,14,15,16,17,18,19,20,21,22,23,24,25] (fun(k:Nat)=>k<=l.length/\∀j (h:j<l.length),k<=j->l[j].name≠c) (fun(k:Nat)=>k) (l.length) (by simp <;> rfl) ?_ ?_ ?_
 .simp
 .exact⟨aX _,fun j h h2=>by omega⟩
 rintro k ⟨hk,hh⟩;simp only [aQ,aP];have htn:1<=k->((k:Int) - 1).toNat=k - 1:=fun h=>by omega
 apply aE;refine bC fun _ _ Z=>?_;simp(disch:=omega)[pZ];apply Z;refine zI ?_ ?_<;>intro c1<;>try simp at c1
 .have hk1:1<=k:=by omega
  have htn1:=htn hk1;apply kO;refine bC fun _ _ Z=>?_;simp(disch:=omega)[pZ];and_intros<;>(try omega);apply Z;refine zI ?_ ?_<;>intro c2<;>try simp at c2
  .refine zk [0,1,6] ?_;refine bC fun _ _ Z=>?_;simp(disch:=omega)[pZ];and_intros<;>(try omega);apply Z;apply aC;simp [aG];exact Tu.2 ⟨k - 1,by omega,c2⟩
  apply nM;refine zk [0,1,6] ?_;refine qF fun _ _ Z=>?_;simp(disch:=omega)[pZ];and_intros<;>(try omega);apply Z;refine zq (k - 1) ?_ ?_ ?_
  .exact⟨by omega,fun j h h2=>Yj hh c2 h h2⟩
  .try dsimp only
   omega
  simp [Rw];omega
 apply zE;refine bC fun _ _ Z=>?_;simp(disch:=omega)[pZ];apply Z;apply aC;simp [aG];exact aRf fun j h _=>hh j h (by omega)
theorem Qg(l:List Int)(k:Nat):(∀d:D,d∈List.take k (List.map D.int l)->d.ncells=1)↔True:=by
 refine⟨fun _=>trivial,fun _ d hd=>?_⟩;obtain⟨a,_,rfl⟩:=aW.1 (nE hd);rfl
theorem Qx(l:List Int)(k:Nat):(∀d:D,d∈List.drop k (List.map D.int l)->d.ncells=1)↔True:=by
 refine⟨fun _=>trivial,fun _ d hd=>?_⟩;obtain⟨a,_,rfl⟩:=aW.1 (wZ hd);rfl
theorem aGw(l:List Int)(x:Int):(l.filter fun y=> !decide (y=x)).length<=l.length:=kB _ _
def kJ(l:List Int)(x:Int):List Int:=l.filter fun y=> !decide (y=x)
theorem Oz(l:List Int)(x:Int)(k:Nat)(h:k<l.length):kJ (l.take (k+1)) x=kJ (l.take k) x++if l[k]=x then [] else [l[k]]:=by
 unfold kJ;rw [bR l k h,fS,gN];by_cases e:l[k]=x <;> simp [e]
@[simp] abbrev q30_4:Cfg:=⟨[6,7,13,17],[],[],[],[]⟩
theorem aAb(l:List Int)(i:Nat)(x:Int)(σ:List (List D))(hl:l.length<=99999)(hi:i<=l.length):Ct prog 206 [.sl false (l.map D.int),D.int i,D.int x] σ (fun r σ'=>r= .sl true ((fI l i x).map D.int)/\σ'=σ):=by
 refine zf func206 ?_;have htl:List.take l.length (List.map D.int l)=List.map D.int l:=bV (by simp);refine zr q30_4 fun _ _ Z=>?_;simp[Qg,Qx,aA,aB,htl];apply Z;refine zr q30_4 fun _ _ Z=>?_;simp[Qg,Qx,aA,aB,htl];and_intros<;>(try omega);apply Z;refine zr q30_4 fun _ _ Z=>?_;simp[Qg,Qx,aA,aB,htl];and_intros<;>(try omega);apply Z;refine zk [0,1,6,7] ?_;refine zr q30_4 fun _ _ Z=>?_;simp[Qg,Qx,aA,aB,htl];and_intros<;>(try omega);apply Z;apply aC;simp [aG,fI]
@[simp] abbrev q30_5:Cfg:=⟨[4,5,18,23],[],[],[],[]⟩
theorem Gk(l:List Int)(x:Int)(σ:List (List D))(hl:l.length<=99999):Ct prog 208 [.sl false (l.map D.int),D.int x] σ (fun r σ'=>r= .sl true ((kJ l x).map D.int)/\σ'=σ):=by
 refine zf func208 ?_;refine zr q30_5 fun _ _ Z=>?_;simp(disch:=omega);apply Z;refine zr q30_5 fun _ _ Z=>?_;simp(disch:=omega);and_intros<;>(try omega);apply Z;apply aE;refine zr q30_5 fun _ _ Z=>?_;simp(disch:=omega);and_intros<;>(try omega);apply Z;apply aR;refine zk [1,4,5,9,10,11] ?_;refine aY (fun(k:Nat)=> [(11,.d (.v (.int .i64 (k:Int)))),(5,.d (.sl true ((kJ (l.take k) x).map D.int)))]) [5,7,11,12,13,14,15,16,17,18,19,20,21,22] (fun(k:Nat)=>k<=l.length) (fun(k:Nat)=>l.length - k) (0) (by simp <;> rfl) ?_ ?_ ?_
 .simp [kJ]
 .simp
 rintro k hk;simp only [aQ,aP];have hdl:=aGw (l.take k) x;simp only [bF] at hdl;have hdl2:(kJ (l.take k) x).length<=k:=by unfold kJ;omega
 refine zr q30_5 fun _ _ Z=>?_;simp(disch:=omega);apply Z;apply aE;refine zI ?_ ?_<;>intro c1<;>try simp at c1
 .apply kO;refine zr q30_5 fun _ _ Z=>?_;simp(disch:=omega);and_intros<;>(try omega);apply Z;refine zr q30_5 fun _ _ Z=>?_;simp(disch:=omega);apply Z;refine zI ?_ ?_<;>intro c2<;>try simp at c2
  .refine zk [1,4,5,7,9,10,11] ?_;refine zt q30_5 fun _ _ Z=>?_;simp(disch:=omega);and_intros<;>(try omega);apply Z;apply zB;refine zk [1,4,5,9,10,11] ?_;refine zt q30_5 fun _ _ Z=>?_;simp(disch:=omega);and_intros<;>(try omega);apply Z;refine zq (k+1) ?_ ?_ ?_
   .omega
   .try dsimp only
    omega
   simp(disch:=omega)[Oz, *]
  apply nM;refine zk [1,4,5,9,10,11] ?_;refine zt q30_5 fun _ _ Z=>?_;simp(disch:=omega);and_intros<;>(try omega);apply Z;refine zq (k+1) ?_ ?_ ?_
  .omega
  .try dsimp only
   omega
  simp(disch:=omega)[Oz, *]
 apply zE;refine zr q30_5 fun _ _ Z=>?_;simp(disch:=omega);apply Z;apply aC;simp [aG];rw [bV (by omega)]
theorem Ac(a b:List Int)(σ:List (List D))(ha:a.length<=9223372036854775807)(hb:b.length<=9223372036854775807):Ct prog 17 [.sl false (a.map D.int),.sl false (b.map D.int)] σ (fun r σ'=>r= .bool (decide (a=b))/\σ'=σ):=by
 refine zf func17 ?_;refine bC fun _ _ Z=>?_;simp(disch:=omega);apply Z;apply aE;refine bC fun _ _ Z=>?_;simp(disch:=omega);and_intros<;>(try omega);apply Z;refine zI ?_ ?_<;>intro c1<;>try simp at c1
 .refine bC fun _ _ Z=>?_;simp(disch:=omega);apply Z;apply aC;simp [aG];intro e;subst e;exact absurd rfl c1
 apply zA;apply aE;refine bC fun _ _ Z=>?_;simp(disch:=omega);and_intros<;>(try omega);apply Z;apply aR;refine zk [0,1,4,12,13] ?_;refine aY (fun(k:Nat)=> [(13,.d (.int k)),(5,.d (.any))]) [4,5,13,14,15,16,17,18,19,20,21,22,23,24,25] (fun(k:Nat)=>k<=a.length/\a.take k=b.take k) (fun(k:Nat)=>a.length - k) (0) (by simp <;> rfl) ?_ ?_ ?_
 .simp
 .simp
 rintro k ⟨hk,hh⟩;simp only [aQ,aP];refine bC fun _ _ Z=>?_;simp(disch:=omega);apply Z;apply aE;refine zI ?_ ?_<;>intro c2<;>try simp at c2
 .apply kO;refine bC fun _ _ Z=>?_;simp(disch:=omega);apply Z;refine zd ⟨[],[],[],[],[]⟩ [.op {},.op {},.op {},.op {},.op {},.op {},.op {},.op {},.op {}] fun all hall _ Z=>?_;refine nI 8 fun _ Y=>?_;simp(disch:=omega);and_intros<;>(try omega);apply Y;simp(disch:=omega);apply Z;refine zI ?_ ?_<;>intro c3<;>try simp at c3
  .refine zk [0,1,5,12,13] ?_;refine bC fun _ _ Z=>?_;simp(disch:=omega);apply Z;apply aC;simp [aG];intro e;subst e;exact c3 rfl
  apply nM;refine zk [0,1,5,12,13] ?_;refine qF fun _ _ Z=>?_;simp(disch:=omega);and_intros<;>(try omega);apply Z;refine zq (k+1) ?_ ?_ ?_
  .exact⟨by omega,by rw [bR a k (by omega),bR b k (by omega),hh];simp [*]⟩
  .try dsimp only
   omega
  simp(disch:=omega)
 apply zE;refine bC fun _ _ Z=>?_;simp(disch:=omega);apply Z;apply aC;simp [aG]
 rwa [bV (by omega),bV (by omega)] at hh
end Go.Proofs.YtbgfljpnhhdkoaaGreat
