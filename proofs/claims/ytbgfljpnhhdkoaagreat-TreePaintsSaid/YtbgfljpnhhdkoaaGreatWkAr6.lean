import Derived.Test.YtbgfljpnhhdkoaaGreatWkAr5
set_option maxRecDepth 20000
set_option linter.all false
set_option maxHeartbeats 8000000
open Go.Proofs.Tryz
namespace Go.Proofs.YtbgfljpnhhdkoaaGreat
open Go Go.Vm
variable {c:ByteArray}{j k:Nat}{l:List PI}
section
variable {o:List AT} {b:Bool} {x p:AT}
theorem Gm(hb:b=false)(h:Op.bytesLess x.name.toList p.name.toList=false)(e:x.name=p.name):mW nA p (o,b) x=(o++ [p],true):=by
 have e':nA x=nA p:=e;have h2:b=false/\cT (nA x) (nA p)=false:=⟨hb,h⟩;unfold mW;dsimp only;rw [if_pos e',if_pos h2]
theorem Hh(hb:b=false)(h:Op.bytesLess x.name.toList p.name.toList=false)(e:¬x.name=p.name):mW nA p (o,b) x=(o++ [p]++ [x],true):=by
 have e':¬nA x=nA p:=e;have h2:b=false/\cT (nA x) (nA p)=false:=⟨hb,h⟩;unfold mW;dsimp only;rw [if_neg e',if_pos h2]
theorem Et(h:Op.bytesLess x.name.toList p.name.toList=true)(e:x.name=p.name):mW nA p (o,b) x=(o,b):=by
 have e':nA x=nA p:=e;have h2:¬(b=false/\cT (nA x) (nA p)=false):=fun q=>by have h3:cT (nA x) (nA p)=true:=h;rw [h3] at q;cases q.2
 unfold mW;dsimp only;rw [if_pos e',if_neg h2]
theorem Hd(h:Op.bytesLess x.name.toList p.name.toList=true)(e:¬x.name=p.name):mW nA p (o,b) x=(o++ [x],b):=by
 have e':¬nA x=nA p:=e;have h2:¬(b=false/\cT (nA x) (nA p)=false):=fun q=>by have h3:cT (nA x) (nA p)=true:=h;rw [h3] at q;cases q.2
 unfold mW;dsimp only;rw [if_neg e',if_neg h2]
theorem Eu(h:b=true)(e:x.name=p.name):mW nA p (o,b) x=(o,b):=by
 have e':nA x=nA p:=e;have h2:¬(b=false/\cT (nA x) (nA p)=false):=fun q=>by rw [h] at q;cases q.1
 unfold mW;dsimp only;rw [if_pos e',if_neg h2]
theorem Fh(h:b=true)(e:¬x.name=p.name):mW nA p (o,b) x=(o++ [x],b):=by
 have e':¬nA x=nA p:=e;have h2:¬(b=false/\cT (nA x) (nA p)=false):=fun q=>by rw [h] at q;cases q.1
 unfold mW;dsimp only;rw [if_neg e',if_neg h2]
end
@[simp] abbrev q30_1:Cfg:=⟨[4,5,25,34,41,45],[],[],[],[]⟩
theorem Wc(l:List AT)(p:AT)(σ:List (List D))(hl:l.length<=99999)(hs:Sorted nA l):Ct prog 72 [.sl false (l.map cY),cY p] σ (fun r σ'=>r= .sl true ((eO nA l p).map cY)/\σ'=σ):=by
 refine zf func72 ?_;refine zr q30_1 fun _ _ Z=>?_;simp(disch:=omega)[aB,aC];apply Z;refine zr q30_1 fun _ _ Z=>?_;simp(disch:=omega)[aB,aC];and_intros<;>(try omega);apply Z;refine zr q30_1 fun _ _ Z=>?_;simp(disch:=omega)[aB,aC];apply Z;apply aF;refine zr q30_1 fun _ _ Z=>?_;simp(disch:=omega)[aB,aC];and_intros<;>(try omega);apply Z;apply aR;refine zk [3,4,5,6,10,11,12] ?_;refine bA (fun(k:Nat)=> [(12,.d (.v (.int .i64 (k:Int)))),(5,.d (.sl true ((rX nA (l.take k) p).1.map cY))),(6,.d (.bool (rX nA (l.take k) p).2))]) [5,6,8,12,13,14,15,16,17,18,19,20,21,22,23,24,25,26,27,28,29,30,31,32,33,34,35,36,37,38] (fun(k:Nat)=>k<=l.length) (fun(k:Nat)=>l.length - k) (0) (by simp <;> rfl) ?_ ?_ ?_
 .simp [rX]
 .simp
 rintro k hk;simp only [aQ,aP];have hpl:=aF1 nA (l.take k) p;simp only [bG] at hpl;generalize hps:rX nA (l.take k) p=s at hpl |-;obtain⟨o,b⟩:=s;have hpl2:o.length<=k+1:=by simp only at hpl;split at hpl <;> omega
 dsimp only;refine zr q30_1 fun _ _ Z=>?_;simp(disch:=omega)[aB,aC];apply Z;apply aF;refine zI ?_ ?_<;>intro c1<;>try simp at c1
 .apply kB;refine zr q30_1 fun _ _ Z=>?_;simp(disch:=omega)[aB,aC];and_intros<;>(try omega);apply Z;apply aF;refine iU q30_1 fun all hall _ Z=>?_;have ga2:aK all 2=some 18:=hall 2;refine zs 3 fun _ Y=>?_;simp(disch:=omega)[aB,aC,ga2];apply Y;refine zb 18 ?_ ?_<;>intro g2<;>try simp at g2
  .simp(disch:=omega)[aB,aC,ga2];apply Z;refine zI ?_ ?_<;>intro c3<;>try simp at c3
   .refine zk [3,4,5,6,8,10,11,12] ?_;refine zr q30_1 fun _ _ Z=>?_;simp(disch:=omega)[aB,aC];and_intros<;>(try omega);apply Z;refine zk [3,4,5,6,8,10,11,12] ?_;refine zt q30_1 fun _ _ Z=>?_;simp(disch:=omega)[aB,aC];apply Z;apply bY;refine zr q30_1 fun _ _ Z=>?_;simp(disch:=omega)[aB,aC];apply Z;refine zI ?_ ?_<;>intro c4<;>try simp at c4
    .refine zk [3,4,5,6,8,10,11,12] ?_;refine zt q30_1 fun _ _ Z=>?_;simp(disch:=omega)[aB,aC];and_intros<;>(try omega);apply Z;apply zB;refine zk [3,4,5,6,10,11,12] ?_;refine zt q30_1 fun _ _ Z=>?_;simp(disch:=omega)[aB,aC];and_intros<;>(try omega);apply Z;refine zq (k+1) ?_ ?_ ?_
     .omega
     .try dsimp only
      omega
     rw [qA nA l p k (by omega),hps];first | rw [Gm (by assumption) (by assumption) (by assumption)] | rw [Hh (by assumption) (by assumption) (by assumption)] | rw [Et (by assumption) (by assumption)] | rw [Hd (by assumption) (by assumption)] | rw [Eu (by first | assumption | simpa using g2) (by assumption)] | rw [Fh (by first | assumption | simpa using g2) (by assumption)]
     simp [*]
    apply nD;refine zk [3,4,5,6,10,11,12] ?_;refine zt q30_1 fun _ _ Z=>?_;simp(disch:=omega)[aB,aC];and_intros<;>(try omega);apply Z;refine zq (k+1) ?_ ?_ ?_
    .omega
    .try dsimp only
     omega
    rw [qA nA l p k (by omega),hps];first | rw [Gm (by assumption) (by assumption) (by assumption)] | rw [Hh (by assumption) (by assumption) (by assumption)] | rw [Et (by assumption) (by assumption)] | rw [Hd (by assumption) (by assumption)] | rw [Eu (by first | assumption | simpa using g2) (by assumption)] | rw [Fh (by first | assumption | simpa using g2) (by assumption)]
    simp [*]
   apply zA;refine zk [3,4,5,6,8,10,11,12] ?_;refine zr q30_1 fun _ _ Z=>?_;simp(disch:=omega)[aB,aC];apply Z;refine zI ?_ ?_<;>intro c5<;>try simp at c5
   .refine zk [3,4,5,6,8,10,11,12] ?_;refine zt q30_1 fun _ _ Z=>?_;simp(disch:=omega)[aB,aC];and_intros<;>(try omega);apply Z;apply zB;refine zk [3,4,5,6,10,11,12] ?_;refine zt q30_1 fun _ _ Z=>?_;simp(disch:=omega)[aB,aC];and_intros<;>(try omega);apply Z;refine zq (k+1) ?_ ?_ ?_
    .omega
    .try dsimp only
     omega
    rw [qA nA l p k (by omega),hps];first | rw [Gm (by assumption) (by assumption) (by assumption)] | rw [Hh (by assumption) (by assumption) (by assumption)] | rw [Et (by assumption) (by assumption)] | rw [Hd (by assumption) (by assumption)] | rw [Eu (by first | assumption | simpa using g2) (by assumption)] | rw [Fh (by first | assumption | simpa using g2) (by assumption)]
    simp [*]
   apply nD;refine zk [3,4,5,6,10,11,12] ?_;refine zt q30_1 fun _ _ Z=>?_;simp(disch:=omega)[aB,aC];and_intros<;>(try omega);apply Z;refine zq (k+1) ?_ ?_ ?_
   .omega
   .try dsimp only
    omega
   rw [qA nA l p k (by omega),hps];first | rw [Gm (by assumption) (by assumption) (by assumption)] | rw [Hh (by assumption) (by assumption) (by assumption)] | rw [Et (by assumption) (by assumption)] | rw [Hd (by assumption) (by assumption)] | rw [Eu (by first | assumption | simpa using g2) (by assumption)] | rw [Fh (by first | assumption | simpa using g2) (by assumption)]
   simp [*]
  simp(disch:=omega)[aB,aC,ga2];apply Z;refine aV (t:=false) (by simp) (fun h=>by cases h) (fun _=>?_);apply zA;refine zk [3,4,5,6,8,10,11,12] ?_;refine zr q30_1 fun _ _ Z=>?_;simp(disch:=omega)[aB,aC];apply Z;refine zI ?_ ?_<;>intro c6<;>try simp at c6
  .refine zk [3,4,5,6,8,10,11,12] ?_;refine zt q30_1 fun _ _ Z=>?_;simp(disch:=omega)[aB,aC];and_intros<;>(try omega);apply Z;apply zB;refine zk [3,4,5,6,10,11,12] ?_;refine zt q30_1 fun _ _ Z=>?_;simp(disch:=omega)[aB,aC];and_intros<;>(try omega);apply Z;refine zq (k+1) ?_ ?_ ?_
   .omega
   .try dsimp only
    omega
   rw [qA nA l p k (by omega),hps];first | rw [Gm (by assumption) (by assumption) (by assumption)] | rw [Hh (by assumption) (by assumption) (by assumption)] | rw [Et (by assumption) (by assumption)] | rw [Hd (by assumption) (by assumption)] | rw [Eu (by first | assumption | simpa using g2) (by assumption)] | rw [Fh (by first | assumption | simpa using g2) (by assumption)]
   simp [*]
  apply nD;refine zk [3,4,5,6,10,11,12] ?_;refine zt q30_1 fun _ _ Z=>?_;simp(disch:=omega)[aB,aC];and_intros<;>(try omega);apply Z;refine zq (k+1) ?_ ?_ ?_
  .omega
  .try dsimp only
   omega
  rw [qA nA l p k (by omega),hps];first | rw [Gm (by assumption) (by assumption) (by assumption)] | rw [Hh (by assumption) (by assumption) (by assumption)] | rw [Et (by assumption) (by assumption)] | rw [Hd (by assumption) (by assumption)] | rw [Eu (by first | assumption | simpa using g2) (by assumption)] | rw [Fh (by first | assumption | simpa using g2) (by assumption)]
  simp [*]
 obtain rfl:k=l.length:=by omega
 rw [dX] at hps;apply zE;apply aF;refine zr q30_1 fun _ _ Z=>?_;simp(disch:=omega)[aB,aC];apply Z;refine zI ?_ ?_<;>intro c7<;>try simp at c7
 .refine zt q30_1 fun _ _ Z=>?_;simp(disch:=omega)[aB,aC];and_intros<;>(try omega);apply Z;apply bY;refine zk [4,5] ?_;refine zr q30_1 fun _ _ Z=>?_;simp(disch:=omega)[aB,aC];apply Z;apply aD;simp [aJ];rw [<- Ql nA hs p,hps];simp [aD2, *]
 apply zA;refine zr q30_1 fun _ _ Z=>?_;simp(disch:=omega)[aB,aC];apply Z;apply aD;simp [aJ];rw [<- Ql nA hs p,hps];simp [aD2, *]
def Tq(l:List PI)(k j:Nat):Option PI:=Nf nP (l.take j) ((iB nP l).take k)
def xA(l:List PI)(k j:Nat):PI:=(Tq l k j).getD ⟨⟨#[]⟩,0⟩
def ahd(l:List PI)(k:Nat)(c:ByteArray):Bool:=rU nP ((iB nP l).take k) c
theorem aXf(l:List PI)(k:Nat)(c:ByteArray)(h:k<(iB nP l).length):ahd l (k+1) c=cT (iB nP l)[k].name c:=by
 unfold ahd rU;rw [bJ (iB nP l) k h,List.getLast?_concat]
theorem Dv(l:List PI)(k j:Nat)(h:j<l.length):Tq l k (j+1)=if ahd l k l[j].name=true then(match Tq l k j with | none=>some l[j] | some q=>if cT (nP q) (nP l[j])=true then some q else some l[j])else Tq l k j:=by
 have e:=aFj nP l ((iB nP l).take k) j h;unfold Tq ahd;rw [e];cases Nf nP (l.take j) ((iB nP l).take k) <;> rfl
theorem tW (g:¬k=0)(hk:k<=(iB nP l).length)(c:ByteArray):ahd l k c=cT ((iB nP l)[k - 1]'(by omega)).name c:=by
 obtain⟨m,rfl⟩:∃m,k=m+1:=⟨k - 1,by omega⟩;exact aXf l m c (by omega)
theorem fU(l:List PI)(k:Nat):(∀d:D,d∈List.take k (List.map cR l)->d.ncells=2)↔True:=by
 refine⟨fun _=>trivial,fun _ d hd=>?_⟩;obtain⟨a,_,rfl⟩:=aX.1 (oD hd);rfl
theorem vV (h:j<l.length)(ha:ahd l k l[j].name=true)(hc:(Tq l k j).isSome=false\/cT (xA l k j).name l[j].name=false):Tq l k (j+1)=some l[j]:=by
 rw [Dv l k j h,aI ha];unfold xA at hc;cases hq:Tq l k j with
 | none=>rfl
 | some q=>
  rw [hq] at hc;have:cT (nP q) (nP l[j])=false:=by simpa using hc
  simp [this]
theorem wB (h:j<l.length)(ha:ahd l k l[j].name=false):Tq l k (j+1)=Tq l k j:=by
 rw [Dv l k j h,aA (by rw [ha];simp)]
theorem vR (h:j<l.length)(h1:(Tq l k j).isSome=true)(h2:cT (xA l k j).name l[j].name=true):Tq l k (j+1)=Tq l k j:=by
 by_cases ha:ahd l k l[j].name=true
 .rw [Dv l k j h,aI ha];unfold xA at h2;cases hq:Tq l k j with
  | none=>rw [hq] at h1;cases h1
  | some q=>
   rw [hq] at h2;have:cT (nP q) (nP l[j])=true:=h2;simp [this]
 rw [Dv l k j h,aA ha]
theorem aP0 (hk:k<=(iB nP l).length):Tq l k l.length=(iB nP l)[k]?:=by
 unfold Tq;rw [dX];exact aL3 nP l k hk
theorem aSe(l:List PI)(k:Nat):Tq l k 0=none:=aTz nP l _
@[simp] abbrev q30_2:Cfg:=⟨[2,3,48,49],[],[],[],[]⟩
theorem yE(l:List PI)(σ:List (List D))(hl:l.length<=99999):Ct prog 73 [.sl false (l.map cR)] σ (fun r σ'=>r= .sl true ((iB nP l).map cR)/\σ'=σ):=by
 refine zf func73 ?_;refine zr q30_2 fun _ _ Z=>?_;simp(disch:=omega)[aB,aC,fU];apply Z;refine zr q30_2 fun _ _ Z=>?_;simp(disch:=omega)[aB,aC,fU];and_intros<;>(try omega);apply Z;apply aR;refine zk [0,2,3] ?_;refine bA (fun(k:Nat)=> [(3,.d (.sl true (((iB nP l).take k).map cR)))]) [2,3,4,5,7,8,10,11,12,13,14,15,16,17,18,19,20,21,22,23,24,25,26,27,28,29,30,31,32,33,34,35,36,37,38,39,40,41,42,43,44,45,46,47,48,49,50,51,52] (fun(k:Nat)=>k<=(iB nP l).length) (fun(k:Nat)=>(iB nP l).length - k) (0) (by simp <;> rfl) ?_ ?_ ?_
 .simp
 .simp
 rintro k hk;simp only [aQ,aP];have hol:=iC nP l;have hlk:((iB nP l).take k).length=k:=by simp;omega
 apply aR;refine zr q30_2 fun _ _ Z=>?_;simp(disch:=omega)[aB,aC,fU];apply Z;refine zr q30_2 fun _ _ Z=>?_;simp(disch:=omega)[aB,aC,fU];apply Z;apply aF;refine zr q30_2 fun _ _ Z=>?_;simp(disch:=omega)[aB,aC,fU];and_intros<;>(try omega);apply Z;apply aR;refine zk [0,3,4,5,11,12,13] ?_;refine kS (fun(j:Nat)=> [(13,.d (.v (.int .i64 (j:Int)))),(4,.d (.bool (Tq l k j).isSome)),(8,.d (.any))]) (fun(j:Nat)=> [(0, [.v (.string ((xA l k j).name)),.v (.int .i64 ((xA l k j).value))])]) (fun(j:Nat)=> []) [4,7,8,13,14,15,16,17,18,19,20,21,22,23,24,25,26,27,28,29,30,31,32,33,34,35,36,37,38,39,40,41,42,43,44,45] (fun(j:Nat)=>j<=l.length) (fun(j:Nat)=>l.length - j) (0) (by simp <;> rfl) ?_ (by simp [xA,aSe]) (by simp) ?_ ?_
 .simp [aSe,xA]
 .simp
 rintro j hj;simp only [aQ,aP,lL,jP,gO,gA];refine zr q30_2 fun _ _ Z=>?_;simp(disch:=omega)[aB,aC,fU];apply Z;apply aF;refine zI ?_ ?_<;>intro c1<;>try simp at c1
 .apply kB;refine zr q30_2 fun _ _ Z=>?_;simp(disch:=omega)[aB,aC,fU];and_intros<;>(try omega);apply Z;refine zk [0,3,4,5,7,8,11,12,13] ?_;refine zd q30_2 [.op {},.op {},.op {},.op {},.op {},.op {rL:=true},.op {},.op {},.op {},.op {},.op {},.op {},.op {},.op {},.op {},.op {}] fun all hall _ Z=>?_;have ga3:aK all 3=some 20:=hall 3;refine lY 4 fun _ Y=>?_;simp(disch:=omega)[aB,aC,fU,ga3];and_intros<;>(try omega);apply Y;refine zbD 20 ?_ ?_<;>intro g2<;>try simp at g2
  .refine lY 8 fun _ Y=>?_;simp(disch:=omega)[aB,aC,fU,ga3];and_intros<;>(try omega);apply Y;simp(disch:=omega)[aB,aC,fU,ga3];apply Z;refine zk [0,3,4,5,7,8,11,12,13] ?_;refine iU q30_2 fun all hall _ Z=>?_;have ga1:aK all 1=some 33:=hall 1;have ga4:aK all 4=some 36:=hall 4;refine zs 2 fun _ Y=>?_;simp(disch:=omega)[aB,aC,fU,ga1,ga4];apply Y;refine zs 3 fun _ Y=>?_;simp(disch:=omega)[aB,aC,fU,ga1,ga4];apply Y;refine zb 36 ?_ ?_<;>intro g3<;>try simp at g3
   .simp(disch:=omega)[aB,aC,fU,ga1,ga4];apply Z;refine aV (t:=true) (by simp) (fun _=>?_) (fun h=>by cases h);refine zk [0,3,4,5,7,8,11,12,13] ?_;refine zr q30_2 fun _ _ Z=>?_;simp(disch:=omega)[aB,aC,fU];apply Z;refine zt q30_2 fun _ _ Z=>?_;simp(disch:=omega)[aB,aC,fU];apply Z;apply zB;refine zt q30_2 fun _ _ Z=>?_;simp(disch:=omega)[aB,aC,fU];and_intros<;>(try omega);apply Z;first | have hcn:=vV (k:=k) c1 (by first | (rw [show k=0 from g2];rfl) | (rw [tW g2 hk];exact g5)) (by first | exact .inl (by rw [g3];rfl) | exact .inl (by rw [g6];rfl) | exact .inr c4 | exact .inr c7) | have hcn:=vR (k:=k) c1 (by first | exact g3 | exact g6) (by first | exact c4 | exact c7) | have hcn:=wB (k:=k) c1 (by rw [tW g2 hk];exact g5)
    refine eG (j+1) ?_ ?_ (dT rfl ?_ (by simp [xA,hcn]) (by simp))
    .omega
    .try dsimp only
     omega
    simp(disch:=omega)[aB,aC,fU,hcn]
   simp(disch:=omega)[aB,aC,fU,ga1,ga4];apply Z;refine zI ?_ ?_<;>intro c4<;>try simp at c4
   .refine zk [0,3,4,5,7,8,11,12,13] ?_;refine zr q30_2 fun _ _ Z=>?_;simp(disch:=omega)[aB,aC,fU];apply Z;refine zt q30_2 fun _ _ Z=>?_;simp(disch:=omega)[aB,aC,fU];apply Z;apply zB;refine zt q30_2 fun _ _ Z=>?_;simp(disch:=omega)[aB,aC,fU];and_intros<;>(try omega);apply Z;first | have hcn:=vV (k:=k) c1 (by first | (rw [show k=0 from g2];rfl) | (rw [tW g2 hk];exact g5)) (by first | exact .inl (by rw [g3];rfl) | exact .inl (by rw [g6];rfl) | exact .inr c4 | exact .inr c7) | have hcn:=vR (k:=k) c1 (by first | exact g3 | exact g6) (by first | exact c4 | exact c7) | have hcn:=wB (k:=k) c1 (by rw [tW g2 hk];exact g5)
    refine eG (j+1) ?_ ?_ (dT rfl ?_ (by simp [xA,hcn]) (by simp))
    .omega
    .try dsimp only
     omega
    simp(disch:=omega)[aB,aC,fU,hcn]
   apply nD;refine zk [0,3,4,5,8,11,12,13] ?_;refine zt q30_2 fun _ _ Z=>?_;simp(disch:=omega)[aB,aC,fU];and_intros<;>(try omega);apply Z;first | have hcn:=vV (k:=k) c1 (by first | (rw [show k=0 from g2];rfl) | (rw [tW g2 hk];exact g5)) (by first | exact .inl (by rw [g3];rfl) | exact .inl (by rw [g6];rfl) | exact .inr c4 | exact .inr c7) | have hcn:=vR (k:=k) c1 (by first | exact g3 | exact g6) (by first | exact c4 | exact c7) | have hcn:=wB (k:=k) c1 (by rw [tW g2 hk];exact g5)
   refine eG (j+1) ?_ ?_ (dT rfl ?_ (by simp [xA,hcn]) (by simp))
   .omega
   .try dsimp only
    omega
   simp(disch:=omega)[aB,aC,fU,hcn]
  refine lY 8 fun _ Y=>?_;simp(disch:=omega)[aB,aC,fU,ga3];and_intros<;>(try omega);apply Y;simp(disch:=omega)[aB,aC,fU,ga3];apply Z;refine zk [0,3,4,5,7,8,11,12,13] ?_;refine iU q30_2 fun all hall _ Z=>?_;have ga1:aK all 1=some 33:=hall 1;have ga4:aK all 4=some 36:=hall 4;refine zs 2 fun _ Y=>?_;simp(disch:=omega)[aB,aC,fU,ga1,ga4];apply Y;refine zb 33 ?_ ?_<;>intro g5<;>try simp at g5
  .refine zs 3 fun _ Y=>?_;simp(disch:=omega)[aB,aC,fU,ga1,ga4];apply Y;refine zb 36 ?_ ?_<;>intro g6<;>try simp at g6
   .simp(disch:=omega)[aB,aC,fU,ga1,ga4];apply Z;refine aV (t:=true) (by simp) (fun _=>?_) (fun h=>by cases h);refine zk [0,3,4,5,7,8,11,12,13] ?_;refine zr q30_2 fun _ _ Z=>?_;simp(disch:=omega)[aB,aC,fU];apply Z;refine zt q30_2 fun _ _ Z=>?_;simp(disch:=omega)[aB,aC,fU];apply Z;apply zB;refine zt q30_2 fun _ _ Z=>?_;simp(disch:=omega)[aB,aC,fU];and_intros<;>(try omega);apply Z;first | have hcn:=vV (k:=k) c1 (by first | (rw [show k=0 from g2];rfl) | (rw [tW g2 hk];exact g5)) (by first | exact .inl (by rw [g3];rfl) | exact .inl (by rw [g6];rfl) | exact .inr c4 | exact .inr c7) | have hcn:=vR (k:=k) c1 (by first | exact g3 | exact g6) (by first | exact c4 | exact c7) | have hcn:=wB (k:=k) c1 (by rw [tW g2 hk];exact g5)
    refine eG (j+1) ?_ ?_ (dT rfl ?_ (by simp [xA,hcn]) (by simp))
    .omega
    .try dsimp only
     omega
    simp(disch:=omega)[aB,aC,fU,hcn]
   simp(disch:=omega)[aB,aC,fU,ga1,ga4];apply Z;refine zI ?_ ?_<;>intro c7<;>try simp at c7
   .refine zk [0,3,4,5,7,8,11,12,13] ?_;refine zr q30_2 fun _ _ Z=>?_;simp(disch:=omega)[aB,aC,fU];apply Z;refine zt q30_2 fun _ _ Z=>?_;simp(disch:=omega)[aB,aC,fU];apply Z;apply zB;refine zt q30_2 fun _ _ Z=>?_;simp(disch:=omega)[aB,aC,fU];and_intros<;>(try omega);apply Z;first | have hcn:=vV (k:=k) c1 (by first | (rw [show k=0 from g2];rfl) | (rw [tW g2 hk];exact g5)) (by first | exact .inl (by rw [g3];rfl) | exact .inl (by rw [g6];rfl) | exact .inr c4 | exact .inr c7) | have hcn:=vR (k:=k) c1 (by first | exact g3 | exact g6) (by first | exact c4 | exact c7) | have hcn:=wB (k:=k) c1 (by rw [tW g2 hk];exact g5)
    refine eG (j+1) ?_ ?_ (dT rfl ?_ (by simp [xA,hcn]) (by simp))
    .omega
    .try dsimp only
     omega
    simp(disch:=omega)[aB,aC,fU,hcn]
   apply nD;refine zk [0,3,4,5,8,11,12,13] ?_;refine zt q30_2 fun _ _ Z=>?_;simp(disch:=omega)[aB,aC,fU];and_intros<;>(try omega);apply Z;first | have hcn:=vV (k:=k) c1 (by first | (rw [show k=0 from g2];rfl) | (rw [tW g2 hk];exact g5)) (by first | exact .inl (by rw [g3];rfl) | exact .inl (by rw [g6];rfl) | exact .inr c4 | exact .inr c7) | have hcn:=vR (k:=k) c1 (by first | exact g3 | exact g6) (by first | exact c4 | exact c7) | have hcn:=wB (k:=k) c1 (by rw [tW g2 hk];exact g5)
   refine eG (j+1) ?_ ?_ (dT rfl ?_ (by simp [xA,hcn]) (by simp))
   .omega
   .try dsimp only
    omega
   simp(disch:=omega)[aB,aC,fU,hcn]
  refine zs 8 fun _ Y=>?_;simp(disch:=omega)[aB,aC,fU,ga1,ga4];and_intros<;>(try omega);apply Y;simp(disch:=omega)[aB,aC,fU,ga1,ga4];apply Z;refine aV (t:=false) (by simp) (fun h=>by cases h) (fun _=>?_);apply nD;refine zk [0,3,4,5,8,11,12,13] ?_;refine zt q30_2 fun _ _ Z=>?_;simp(disch:=omega)[aB,aC,fU];and_intros<;>(try omega);apply Z;first | have hcn:=vV (k:=k) c1 (by first | (rw [show k=0 from g2];rfl) | (rw [tW g2 hk];exact g5)) (by first | exact .inl (by rw [g3];rfl) | exact .inl (by rw [g6];rfl) | exact .inr c4 | exact .inr c7) | have hcn:=vR (k:=k) c1 (by first | exact g3 | exact g6) (by first | exact c4 | exact c7) | have hcn:=wB (k:=k) c1 (by rw [tW g2 hk];exact g5)
  refine eG (j+1) ?_ ?_ (dT rfl ?_ (by simp [xA,hcn]) (by simp))
  .omega
  .try dsimp only
   omega
  simp(disch:=omega)[aB,aC,fU,hcn]
 obtain rfl:j=l.length:=by omega
 have hce:=aP0 hk;apply zE;apply aF;refine zr q30_2 fun _ _ Z=>?_;simp(disch:=omega)[aB,aC,fU];apply Z;refine zI ?_ ?_<;>intro c8<;>try simp at c8
 .refine zr q30_2 fun _ _ Z=>?_;simp(disch:=omega)[aB,aC,fU];apply Z;apply aD;simp [aJ];rw [hce] at c8;rw [bZ (by simpa using List.getElem?_eq_none_iff.1 c8)]
 have hk2:k<(iB nP l).length:=by
   rcases uV k (iB nP l).length with h | h
   .exact h
   rw [hce,jD h] at c8;exact absurd c8 (by simp)
 have hcd:xA l k l.length=(iB nP l)[k]:=by unfold xA;rw [hce,aU hk2];rfl
 have htk:List.take (k+1) (List.map cR (iB nP l))=List.take k (List.map cR (iB nP l))++ [cR (iB nP l)[k]]:=by rw [bJ _ k (by simpa using hk2),kR]
 apply zA;refine zt q30_2 fun _ _ Z=>?_;simp(disch:=omega)[aB,aC,fU];and_intros<;>(try omega);apply Z;apply mP;refine zq (k+1) ?_ ?_ ?_
 .omega
 .try dsimp only
  omega
 simp(disch:=omega)[aB,aC,fU,hcd,htk]
@[simp] abbrev q30_3:Cfg:=⟨[4,5,20,25],[],[],[],[]⟩
theorem aFh(l:List PI)(c:ByteArray)(σ:List (List D))(hl:l.length<=99999)(hs:Sorted nP l):Ct prog 76 [.sl false (l.map cR),D.str c] σ (fun r σ'=>r= .sl true ((lP nP l c).map cR)/\σ'=σ):=by
 refine zf func76 ?_;refine zr q30_3 fun _ _ Z=>?_;simp(disch:=omega);apply Z;refine zr q30_3 fun _ _ Z=>?_;simp(disch:=omega);and_intros<;>(try omega);apply Z;apply aF;refine zr q30_3 fun _ _ Z=>?_;refine zs 1 fun _ Y=>?_;simp(disch:=omega);apply Y;refine aE fun _ Y=>?_;simp(disch:=omega);refine bS (yE l _ hl) ?_;rw [qK nP hs];apply Y;simp(disch:=omega);and_intros<;>(try omega);apply Z;apply aR;refine zk [1,4,5,10,11,12] ?_;refine bA (fun(k:Nat)=> [(12,.d (.v (.int .i64 (k:Int)))),(5,.d (.sl true ((lP nP (l.take k) c).map cR)))]) [5,7,12,13,14,15,16,17,18,19,20,21,22,23,24] (fun(k:Nat)=>k<=l.length) (fun(k:Nat)=>l.length - k) (0) (by simp <;> rfl) ?_ ?_ ?_
 .simp [lP]
 .simp
 rintro k hk;simp only [aQ,aP];have hdl:=Ea nP (l.take k) c;simp only [bG] at hdl;refine zr q30_3 fun _ _ Z=>?_;simp(disch:=omega);apply Z;apply aF;refine zI ?_ ?_<;>intro c1<;>try simp at c1
 .apply kB;refine zr q30_3 fun _ _ Z=>?_;simp(disch:=omega);and_intros<;>(try omega);apply Z;refine zr q30_3 fun _ _ Z=>?_;simp(disch:=omega);apply Z;refine zI ?_ ?_<;>intro c2<;>try simp at c2
  .refine zk [1,4,5,7,10,11,12] ?_;refine zt q30_3 fun _ _ Z=>?_;simp(disch:=omega);and_intros<;>(try omega);apply Z;apply zB;refine zk [1,4,5,10,11,12] ?_;refine zt q30_3 fun _ _ Z=>?_;simp(disch:=omega);and_intros<;>(try omega);apply Z;refine zq (k+1) ?_ ?_ ?_
   .omega
   .try dsimp only
    omega
   simp(disch:=omega)[Ad, *]
  apply nD;refine zk [1,4,5,10,11,12] ?_;refine zt q30_3 fun _ _ Z=>?_;simp(disch:=omega);and_intros<;>(try omega);apply Z;refine zq (k+1) ?_ ?_ ?_
  .omega
  .try dsimp only
   omega
  simp(disch:=omega)[Ad, *]
 apply zE;refine zr q30_3 fun _ _ Z=>?_;simp(disch:=omega);apply Z;apply aD;simp [aJ];rw [bZ (by omega)]
theorem Vc :mG nP l c=true↔∃j,∃h:j<l.length,l[j].name=c:=by
 unfold mG;rw [nN];constructor
 .rintro⟨x,hx,e⟩;obtain⟨j,hj,rfl⟩:=kT hx;exact⟨j,hj,by simpa using e⟩
 rintro⟨j,hj,e⟩;exact⟨l[j],cJ hj,by simpa using e⟩
theorem aAq (hh:∀j (h:j<l.length),k<=j->l[j].name≠c) {hk:k - 1<l.length} (c2:¬l[k - 1].name=c)(h:j<l.length)(h2:k - 1<=j):l[j].name≠c:=by
 rcases uV j k with h3 | h3
 .obtain rfl:j=k - 1:=by omega
  exact c2
 exact hh j h h3
theorem aTl (h:∀j (h:j<l.length),0<=j->l[j].name≠c):mG nP l c=false:=by
 rw [<- vE,Vc];rintro⟨j,hj,e⟩;exact h j hj (jA _) e
theorem aMx(l:List PI)(c:ByteArray)(σ:List (List D))(hl:l.length<=99999):Ct prog 75 [.sl false (l.map cR),D.str c] σ (fun r σ'=>(∃v:Int,r= .tup [D.int v,.bool (mG nP l c)])/\σ'=σ):=by
 refine zf func75 ?_;refine aZ fun _ _ Z=>?_;simp(disch:=omega)[qW];apply Z;apply aF;refine aZ fun _ _ Z=>?_;simp(disch:=omega)[qW];and_intros<;>(try omega);apply Z;apply aR;refine zk [0,1,4,5,6] ?_;refine bA (fun(k:Nat)=> [(6,.d (.int ((k:Int) - 1)))]) [4,5,6,10,11,12,13,14,15,16,17,18,19,20,21,22,23,24,25] (fun(k:Nat)=>k<=l.length/\∀j (h:j<l.length),k<=j->l[j].name≠c) (fun(k:Nat)=>k) (l.length) (by simp <;> rfl) ?_ ?_ ?_
 .simp
 .exact⟨aY _,fun j h h2=>by omega⟩
 rintro k ⟨hk,hh⟩;simp only [aQ,aP];have htn:1<=k->((k:Int) - 1).toNat=k - 1:=fun h=>by omega
 apply aF;refine aZ fun _ _ Z=>?_;simp(disch:=omega)[qW];apply Z;refine zI ?_ ?_<;>intro c1<;>try simp at c1
 .have hk1:1<=k:=by omega
  have htn1:=htn hk1;apply kB;refine aZ fun _ _ Z=>?_;simp(disch:=omega)[qW];and_intros<;>(try omega);apply Z;refine zI ?_ ?_<;>intro c2<;>try simp at c2
  .refine zk [0,1,6] ?_;refine aZ fun _ _ Z=>?_;simp(disch:=omega)[qW];and_intros<;>(try omega);apply Z;apply aD;simp [aJ];exact Vc.2 ⟨k - 1,by omega,c2⟩
  apply nD;refine zk [0,1,6] ?_;refine mD fun _ _ Z=>?_;simp(disch:=omega)[qW];and_intros<;>(try omega);apply Z;refine zq (k - 1) ?_ ?_ ?_
  .exact⟨by omega,fun j h h2=>aAq hh c2 h h2⟩
  .try dsimp only
   omega
  simp [Tu];omega
 apply zE;refine aZ fun _ _ Z=>?_;simp(disch:=omega)[qW];apply Z;apply aD;simp [aJ];exact aTl fun j h _=>hh j h (by omega)
theorem Ry(l:List Int)(k:Nat):(∀d:D,d∈List.take k (List.map D.int l)->d.ncells=1)↔True:=by
 refine⟨fun _=>trivial,fun _ d hd=>?_⟩;obtain⟨a,_,rfl⟩:=aX.1 (oD hd);rfl
theorem Rz(l:List Int)(k:Nat):(∀d:D,d∈List.drop k (List.map D.int l)->d.ncells=1)↔True:=by
 refine⟨fun _=>trivial,fun _ d hd=>?_⟩;obtain⟨a,_,rfl⟩:=aX.1 (Ac hd);rfl
theorem aM5(l:List Int)(x:Int):(l.filter fun y=> !decide (y=x)).length<=l.length:=kO _ _
def kZ(l:List Int)(x:Int):List Int:=l.filter fun y=> !decide (y=x)
theorem Qd(l:List Int)(x:Int)(k:Nat)(h:k<l.length):kZ (l.take (k+1)) x=kZ (l.take k) x++if l[k]=x then [] else [l[k]]:=by
 unfold kZ;rw [bJ l k h,fZ,gT];by_cases e:l[k]=x <;> simp [e]
@[simp] abbrev q30_4:Cfg:=⟨[6,7,13,17],[],[],[],[]⟩
theorem aBw(l:List Int)(i:Nat)(x:Int)(σ:List (List D))(hl:l.length<=99999)(hi:i<=l.length):Ct prog 206 [.sl false (l.map D.int),D.int i,D.int x] σ (fun r σ'=>r= .sl true ((fP l i x).map D.int)/\σ'=σ):=by
 refine zf func206 ?_;have htl:List.take l.length (List.map D.int l)=List.map D.int l:=bZ (by simp);refine zr q30_4 fun _ _ Z=>?_;simp[Ry,Rz,aB,aC,htl];apply Z;refine zr q30_4 fun _ _ Z=>?_;simp[Ry,Rz,aB,aC,htl];and_intros<;>(try omega);apply Z;refine zr q30_4 fun _ _ Z=>?_;simp[Ry,Rz,aB,aC,htl];and_intros<;>(try omega);apply Z;refine zk [0,1,6,7] ?_;refine zr q30_4 fun _ _ Z=>?_;simp[Ry,Rz,aB,aC,htl];and_intros<;>(try omega);apply Z;apply aD;simp [aJ,fP]
@[simp] abbrev q30_5:Cfg:=⟨[4,5,18,23],[],[],[],[]⟩
theorem Hz(l:List Int)(x:Int)(σ:List (List D))(hl:l.length<=99999):Ct prog 208 [.sl false (l.map D.int),D.int x] σ (fun r σ'=>r= .sl true ((kZ l x).map D.int)/\σ'=σ):=by
 refine zf func208 ?_;refine zr q30_5 fun _ _ Z=>?_;simp(disch:=omega);apply Z;refine zr q30_5 fun _ _ Z=>?_;simp(disch:=omega);and_intros<;>(try omega);apply Z;apply aF;refine zr q30_5 fun _ _ Z=>?_;simp(disch:=omega);and_intros<;>(try omega);apply Z;apply aR;refine zk [1,4,5,9,10,11] ?_;refine bA (fun(k:Nat)=> [(11,.d (.v (.int .i64 (k:Int)))),(5,.d (.sl true ((kZ (l.take k) x).map D.int)))]) [5,7,11,12,13,14,15,16,17,18,19,20,21,22] (fun(k:Nat)=>k<=l.length) (fun(k:Nat)=>l.length - k) (0) (by simp <;> rfl) ?_ ?_ ?_
 .simp [kZ]
 .simp
 rintro k hk;simp only [aQ,aP];have hdl:=aM5 (l.take k) x;simp only [bG] at hdl;have hdl2:(kZ (l.take k) x).length<=k:=by unfold kZ;omega
 refine zr q30_5 fun _ _ Z=>?_;simp(disch:=omega);apply Z;apply aF;refine zI ?_ ?_<;>intro c1<;>try simp at c1
 .apply kB;refine zr q30_5 fun _ _ Z=>?_;simp(disch:=omega);and_intros<;>(try omega);apply Z;refine zr q30_5 fun _ _ Z=>?_;simp(disch:=omega);apply Z;refine zI ?_ ?_<;>intro c2<;>try simp at c2
  .refine zk [1,4,5,7,9,10,11] ?_;refine zt q30_5 fun _ _ Z=>?_;simp(disch:=omega);and_intros<;>(try omega);apply Z;apply zB;refine zk [1,4,5,9,10,11] ?_;refine zt q30_5 fun _ _ Z=>?_;simp(disch:=omega);and_intros<;>(try omega);apply Z;refine zq (k+1) ?_ ?_ ?_
   .omega
   .try dsimp only
    omega
   simp(disch:=omega)[Qd, *]
  apply nD;refine zk [1,4,5,9,10,11] ?_;refine zt q30_5 fun _ _ Z=>?_;simp(disch:=omega);and_intros<;>(try omega);apply Z;refine zq (k+1) ?_ ?_ ?_
  .omega
  .try dsimp only
   omega
  simp(disch:=omega)[Qd, *]
 apply zE;refine zr q30_5 fun _ _ Z=>?_;simp(disch:=omega);apply Z;apply aD;simp [aJ];rw [bZ (by omega)]
end Go.Proofs.YtbgfljpnhhdkoaaGreat
