import Derived.Test.YtbgfljpnhhdkoaaGreatWkAr5
open Go.Proofs.Tryz
namespace Go.Proofs.YtbgfljpnhhdkoaaGreat
open Go Go.Vm
set_option maxRecDepth 20000
set_option linter.all false
set_option maxHeartbeats 8000000
section
variable {o:List AT} {b:Bool} {x p:AT}
theorem vK(hb:b=false)(h:Op.bytesLess x.name.toList p.name.toList=false)(e:x.name=p.name):iI nA p (o,b) x=(o++ [p],true):=by
 have e':nA x=nA p:=e;have h2:b=false∧cQ (nA x) (nA p)=false:=⟨hb,h⟩;unfold iI;dsimp only;rw [if_pos e',if_pos h2]
theorem wD(hb:b=false)(h:Op.bytesLess x.name.toList p.name.toList=false)(e:¬x.name=p.name):iI nA p (o,b) x=(o++ [p]++ [x],true):=by
 have e':¬nA x=nA p:=e;have h2:b=false∧cQ (nA x) (nA p)=false:=⟨hb,h⟩;unfold iI;dsimp only;rw [if_neg e',if_pos h2]
theorem wT(h:Op.bytesLess x.name.toList p.name.toList=true)(e:x.name=p.name):iI nA p (o,b) x=(o,b):=by
 have e':nA x=nA p:=e;have h2:¬(b=false∧cQ (nA x) (nA p)=false):=fun q=>by have h3:cQ (nA x) (nA p)=true:=h;rw [h3] at q;cases q.2
 unfold iI;dsimp only;rw [if_pos e',if_neg h2]
theorem wC(h:Op.bytesLess x.name.toList p.name.toList=true)(e:¬x.name=p.name):iI nA p (o,b) x=(o++ [x],b):=by
 have e':¬nA x=nA p:=e;have h2:¬(b=false∧cQ (nA x) (nA p)=false):=fun q=>by have h3:cQ (nA x) (nA p)=true:=h;rw [h3] at q;cases q.2
 unfold iI;dsimp only;rw [if_neg e',if_neg h2]
theorem vJ(h:b=true)(e:x.name=p.name):iI nA p (o,b) x=(o,b):=by
 have e':nA x=nA p:=e;have h2:¬(b=false∧cQ (nA x) (nA p)=false):=fun q=>by rw [h] at q;cases q.1
 unfold iI;dsimp only;rw [if_pos e',if_neg h2]
theorem vZ(h:b=true)(e:¬x.name=p.name):iI nA p (o,b) x=(o++ [x],b):=by
 have e':¬nA x=nA p:=e;have h2:¬(b=false∧cQ (nA x) (nA p)=false):=fun q=>by rw [h] at q;cases q.1
 unfold iI;dsimp only;rw [if_neg e',if_neg h2]
end
@[simp] abbrev qAr61:Cfg:=⟨[4,5,25,34,41,45],[],[],[],[]⟩
theorem Jv(l:List AT)(p:AT)(σ:List (List D))(hl:l.length≤99999)(hs:cG nA l):Ct prog 72 [.sl false (l.map cY),cY p] σ (fun r σ'=>r= .sl true ((fC nA l p).map cY)∧σ'=σ):=by
 refine zf (rs:=[.tmp 4]) func72 ntmps72 results72 ?_;simp only [aN];refine zr qAr61 fun _ _ Z=>?_;simp(disch:=omega)[or_imp,forall_and];apply Z;refine zr qAr61 fun _ _ Z=>?_;simp(disch:=omega)[or_imp,forall_and];and_intros<;>(try omega);apply Z;refine zr qAr61 fun _ _ Z=>?_;simp(disch:=omega)[or_imp,forall_and];apply Z;apply aB;refine zr qAr61 fun _ _ Z=>?_;simp(disch:=omega)[or_imp,forall_and];and_intros<;>(try omega);apply Z;apply aF;refine zk [3,4,5,6,10,11,12] ?_;refine bA (fun(k:Nat)=> [(12,.d (.v (.int .i64 (k:Int)))),(5,.d (.sl true ((lM nA (l.take k) p).1.map cY))),(6,.d (.bool (lM nA (l.take k) p).2))]) [5,6,8,12,13,14,15,16,17,18,19,20,21,22,23,24,25,26,27,28,29,30,31,32,33,34,35,36,37,38] (fun(k:Nat)=>k≤l.length) (fun(k:Nat)=>l.length - k) (0) (by simp <;> rfl) ?_ ?_ ?_
 ·simp [lM]
 ·simp
 rintro k hk;simp only [List.cons_append,List.nil_append];have hpl:=Sv nA (l.take k) p;simp only [List.length_take] at hpl;generalize hps:lM nA (l.take k) p=s at hpl ⊢;obtain⟨o,b⟩:=s;have hpl2:o.length≤k+1:=by simp only at hpl;split at hpl <;> omega
 dsimp only;refine zr qAr61 fun _ _ Z=>?_;simp(disch:=omega)[or_imp,forall_and];apply Z;apply aB;refine zi ?_;refine⟨fun c1=>?_,fun c1=>?_⟩
 ·try simp at c1
  apply aD;apply aA;apply aB;apply aF;refine zr qAr61 fun _ _ Z=>?_;simp(disch:=omega)[or_imp,forall_and];and_intros<;>(try omega);apply Z;apply aB;refine kX qAr61 fun all hall _ Z=>?_;have ga2:aO all 2=some 18:=hall 2;refine zs 3 fun _ Y=>?_;simp(disch:=omega)[or_imp,forall_and,ga2];apply Y;refine aS 18 (by simp <;> rfl) ?_;refine⟨fun g2=>?_,fun g2=>?_⟩
  ·try simp at g2
   simp(disch:=omega)[or_imp,forall_and,ga2];apply Z;refine zi ?_;refine⟨fun c3=>?_,fun c3=>?_⟩
   ·try simp at c3
    refine zk [3,4,5,6,8,10,11,12] ?_;refine zr qAr61 fun _ _ Z=>?_;simp(disch:=omega)[or_imp,forall_and];and_intros<;>(try omega);apply Z;refine zk [3,4,5,6,8,10,11,12] ?_;refine zt qAr61 fun _ _ Z=>?_;simp(disch:=omega)[or_imp,forall_and];apply Z;apply aA;refine zr qAr61 fun _ _ Z=>?_;simp(disch:=omega)[or_imp,forall_and];apply Z;refine zi ?_;refine⟨fun c4=>?_,fun c4=>?_⟩
    ·try simp at c4
     refine zk [3,4,5,6,8,10,11,12] ?_;refine zt qAr61 fun _ _ Z=>?_;simp(disch:=omega)[or_imp,forall_and];and_intros<;>(try omega);apply Z;apply aH;apply aA;refine zk [3,4,5,6,10,11,12] ?_;refine zt qAr61 fun _ _ Z=>?_;simp(disch:=omega)[or_imp,forall_and];and_intros<;>(try omega);apply Z;refine zq (k+1) ?_ ?_ ?_
     ·omega
     ·try dsimp only
      omega
     rw [kP nA l p k (by omega),hps];first | rw [vK (by assumption) (by assumption) (by assumption)] | rw [wD (by assumption) (by assumption) (by assumption)] | rw [wT (by assumption) (by assumption)] | rw [wC (by assumption) (by assumption)] | rw [vJ (by first | assumption | simpa using g2) (by assumption)] | rw [vZ (by first | assumption | simpa using g2) (by assumption)]
     simp [*]
    try simp at c4
    apply aD;apply aH;apply aA;refine zk [3,4,5,6,10,11,12] ?_;refine zt qAr61 fun _ _ Z=>?_;simp(disch:=omega)[or_imp,forall_and];and_intros<;>(try omega);apply Z;refine zq (k+1) ?_ ?_ ?_
    ·omega
    ·try dsimp only
     omega
    rw [kP nA l p k (by omega),hps];first | rw [vK (by assumption) (by assumption) (by assumption)] | rw [wD (by assumption) (by assumption) (by assumption)] | rw [wT (by assumption) (by assumption)] | rw [wC (by assumption) (by assumption)] | rw [vJ (by first | assumption | simpa using g2) (by assumption)] | rw [vZ (by first | assumption | simpa using g2) (by assumption)]
    simp [*]
   try simp at c3
   apply aD;apply aA;refine zk [3,4,5,6,8,10,11,12] ?_;refine zr qAr61 fun _ _ Z=>?_;simp(disch:=omega)[or_imp,forall_and];apply Z;refine zi ?_;refine⟨fun c5=>?_,fun c5=>?_⟩
   ·try simp at c5
    refine zk [3,4,5,6,8,10,11,12] ?_;refine zt qAr61 fun _ _ Z=>?_;simp(disch:=omega)[or_imp,forall_and];and_intros<;>(try omega);apply Z;apply aH;apply aA;refine zk [3,4,5,6,10,11,12] ?_;refine zt qAr61 fun _ _ Z=>?_;simp(disch:=omega)[or_imp,forall_and];and_intros<;>(try omega);apply Z;refine zq (k+1) ?_ ?_ ?_
    ·omega
    ·try dsimp only
     omega
    rw [kP nA l p k (by omega),hps];first | rw [vK (by assumption) (by assumption) (by assumption)] | rw [wD (by assumption) (by assumption) (by assumption)] | rw [wT (by assumption) (by assumption)] | rw [wC (by assumption) (by assumption)] | rw [vJ (by first | assumption | simpa using g2) (by assumption)] | rw [vZ (by first | assumption | simpa using g2) (by assumption)]
    simp [*]
   try simp at c5
   apply aD;apply aH;apply aA;refine zk [3,4,5,6,10,11,12] ?_;refine zt qAr61 fun _ _ Z=>?_;simp(disch:=omega)[or_imp,forall_and];and_intros<;>(try omega);apply Z;refine zq (k+1) ?_ ?_ ?_
   ·omega
   ·try dsimp only
    omega
   rw [kP nA l p k (by omega),hps];first | rw [vK (by assumption) (by assumption) (by assumption)] | rw [wD (by assumption) (by assumption) (by assumption)] | rw [wT (by assumption) (by assumption)] | rw [wC (by assumption) (by assumption)] | rw [vJ (by first | assumption | simpa using g2) (by assumption)] | rw [vZ (by first | assumption | simpa using g2) (by assumption)]
   simp [*]
  try simp at g2
  simp(disch:=omega)[or_imp,forall_and,ga2];apply Z;refine bD (t:=false) (by simp) (fun h=>by cases h) (fun _=>?_);apply aD;apply aA;refine zk [3,4,5,6,8,10,11,12] ?_;refine zr qAr61 fun _ _ Z=>?_;simp(disch:=omega)[or_imp,forall_and];apply Z;refine zi ?_;refine⟨fun c6=>?_,fun c6=>?_⟩
  ·try simp at c6
   refine zk [3,4,5,6,8,10,11,12] ?_;refine zt qAr61 fun _ _ Z=>?_;simp(disch:=omega)[or_imp,forall_and];and_intros<;>(try omega);apply Z;apply aH;apply aA;refine zk [3,4,5,6,10,11,12] ?_;refine zt qAr61 fun _ _ Z=>?_;simp(disch:=omega)[or_imp,forall_and];and_intros<;>(try omega);apply Z;refine zq (k+1) ?_ ?_ ?_
   ·omega
   ·try dsimp only
    omega
   rw [kP nA l p k (by omega),hps];first | rw [vK (by assumption) (by assumption) (by assumption)] | rw [wD (by assumption) (by assumption) (by assumption)] | rw [wT (by assumption) (by assumption)] | rw [wC (by assumption) (by assumption)] | rw [vJ (by first | assumption | simpa using g2) (by assumption)] | rw [vZ (by first | assumption | simpa using g2) (by assumption)]
   simp [*]
  try simp at c6
  apply aD;apply aH;apply aA;refine zk [3,4,5,6,10,11,12] ?_;refine zt qAr61 fun _ _ Z=>?_;simp(disch:=omega)[or_imp,forall_and];and_intros<;>(try omega);apply Z;refine zq (k+1) ?_ ?_ ?_
  ·omega
  ·try dsimp only
   omega
  rw [kP nA l p k (by omega),hps];first | rw [vK (by assumption) (by assumption) (by assumption)] | rw [wD (by assumption) (by assumption) (by assumption)] | rw [wT (by assumption) (by assumption)] | rw [wC (by assumption) (by assumption)] | rw [vJ (by first | assumption | simpa using g2) (by assumption)] | rw [vZ (by first | assumption | simpa using g2) (by assumption)]
  simp [*]
 try simp at c1
 obtain rfl:k=l.length:=by omega
 rw [List.take_length] at hps;apply aY;apply aX;apply aZ;apply aR;apply aA;apply aB;refine zr qAr61 fun _ _ Z=>?_;simp(disch:=omega)[or_imp,forall_and];apply Z;refine zi ?_;refine⟨fun c7=>?_,fun c7=>?_⟩
 ·try simp at c7
  refine zt qAr61 fun _ _ Z=>?_;simp(disch:=omega)[or_imp,forall_and];and_intros<;>(try omega);apply Z;apply aA;refine zk [4,5] ?_;refine zr qAr61 fun _ _ Z=>?_;simp(disch:=omega)[or_imp,forall_and];apply Z;apply aC;simp [aK];rw [← Cx nA hs p,hps];simp [Vf, *]
 try simp at c7
 apply aD;apply aA;refine zr qAr61 fun _ _ Z=>?_;simp(disch:=omega)[or_imp,forall_and];apply Z;apply aC;simp [aK];rw [← Cx nA hs p,hps];simp [Vf, *]
def Hq(l:List PI)(k j:Nat):Option PI:=Cg nP (l.take j) ((jL nP l).take k)
def qU(l:List PI)(k j:Nat):PI:=(Hq l k j).getD ⟨⟨#[]⟩,0⟩
def ahd(l:List PI)(k:Nat)(c:ByteArray):Bool:=lL nP ((jL nP l).take k) c
theorem aJ9(l:List PI)(k:Nat)(c:ByteArray)(h:k<(jL nP l).length):ahd l (k+1) c=cQ (jL nP l)[k].name c:=by
 unfold ahd lL;rw [cX (jL nP l) k h,List.getLast?_concat]
theorem tJ(l:List PI)(k j:Nat)(h:j<l.length):Hq l k (j+1)=if ahd l k l[j].name=true then(match Hq l k j with | none=>some l[j] | some q=>if cQ (nP q) (nP l[j])=true then some q else some l[j])else Hq l k j:=by
 have e:=Us nP l ((jL nP l).take k) j h;unfold Hq ahd;rw [e];cases Cg nP (l.take j) ((jL nP l).take k) <;> rfl
theorem nE {l:List PI} {k:Nat} (g:¬k=0)(hk:k≤(jL nP l).length)(c:ByteArray):ahd l k c=cQ ((jL nP l)[k - 1]'(by omega)).name c:=by
 obtain⟨m,rfl⟩:∃m,k=m+1:=⟨k - 1,by omega⟩;exact aJ9 l m c (by omega)
theorem dO(l:List PI)(k:Nat):(∀d:D,d∈List.take k (List.map cV l)→d.ncells=2)↔True:=by
 refine⟨fun _=>trivial,fun _ d hd=>?_⟩;obtain⟨a,_,rfl⟩:=List.mem_map.1 (List.mem_of_mem_take hd);rfl
theorem oW {l:List PI} {k j:Nat} (h:j<l.length)(ha:ahd l k l[j].name=true)(hc:(Hq l k j).isSome=false∨cQ (qU l k j).name l[j].name=false):Hq l k (j+1)=some l[j]:=by
 rw [tJ l k j h,if_pos ha];unfold qU at hc;cases hq:Hq l k j with
 | none=>rfl
 | some q=>
  rw [hq] at hc;have:cQ (nP q) (nP l[j])=false:=by simpa using hc
  simp [this]
theorem oP {l:List PI} {k j:Nat} (h:j<l.length)(ha:ahd l k l[j].name=false):Hq l k (j+1)=Hq l k j:=by
 rw [tJ l k j h,if_neg (by rw [ha];simp)]
theorem oQ {l:List PI} {k j:Nat} (h:j<l.length)(h1:(Hq l k j).isSome=true)(h2:cQ (qU l k j).name l[j].name=true):Hq l k (j+1)=Hq l k j:=by
 by_cases ha:ahd l k l[j].name=true
 ·rw [tJ l k j h,if_pos ha];unfold qU at h2;cases hq:Hq l k j with
  | none=>rw [hq] at h1;cases h1
  | some q=>
   rw [hq] at h2;have:cQ (nP q) (nP l[j])=true:=h2;simp [this]
 rw [tJ l k j h,if_neg ha]
theorem aEg {l:List PI} {k:Nat} (hk:k≤(jL nP l).length):Hq l k l.length=(jL nP l)[k]?:=by
 unfold Hq;rw [List.take_length];exact aDk nP l k hk
theorem aG1(l:List PI)(k:Nat):Hq l k 0=none:=aIs nP l _
@[simp] abbrev qAr62:Cfg:=⟨[2,3,48,49],[],[],[],[]⟩
theorem Xt(l:List PI)(σ:List (List D))(hl:l.length≤99999):Ct prog 73 [.sl false (l.map cV)] σ (fun r σ'=>r= .sl true ((jL nP l).map cV)∧σ'=σ):=by
 refine zf (rs:=[.tmp 2]) func73 ntmps73 results73 ?_;simp only [aN];refine zr qAr62 fun _ _ Z=>?_;simp(disch:=omega)[or_imp,forall_and,dO];apply Z;refine zr qAr62 fun _ _ Z=>?_;simp(disch:=omega)[or_imp,forall_and,dO];and_intros<;>(try omega);apply Z;apply aF;refine zk [0,2,3] ?_;refine bA (fun(k:Nat)=> [(3,.d (.sl true (((jL nP l).take k).map cV)))]) [2,3,4,5,7,8,10,11,12,13,14,15,16,17,18,19,20,21,22,23,24,25,26,27,28,29,30,31,32,33,34,35,36,37,38,39,40,41,42,43,44,45,46,47,48,49,50,51,52] (fun(k:Nat)=>k≤(jL nP l).length) (fun(k:Nat)=>(jL nP l).length - k) (0) (by simp <;> rfl) ?_ ?_ ?_
 ·simp
 ·simp
 rintro k hk;simp only [List.cons_append,List.nil_append];have hol:=lU nP l;have hlk:((jL nP l).take k).length=k:=by simp;omega
 apply aF;refine zr qAr62 fun _ _ Z=>?_;simp(disch:=omega)[or_imp,forall_and,dO];apply Z;refine zr qAr62 fun _ _ Z=>?_;simp(disch:=omega)[or_imp,forall_and,dO];apply Z;apply aB;refine zr qAr62 fun _ _ Z=>?_;simp(disch:=omega)[or_imp,forall_and,dO];and_intros<;>(try omega);apply Z;apply aF;refine zk [0,3,4,5,11,12,13] ?_;refine nS (fun(j:Nat)=> [(13,.d (.v (.int .i64 (j:Int)))),(4,.d (.bool (Hq l k j).isSome)),(8,.d (.any))]) (fun(j:Nat)=> [(0, [.v (.string ((qU l k j).name)),.v (.int .i64 ((qU l k j).value))])]) (fun(j:Nat)=> []) [4,7,8,13,14,15,16,17,18,19,20,21,22,23,24,25,26,27,28,29,30,31,32,33,34,35,36,37,38,39,40,41,42,43,44,45] (fun(j:Nat)=>j≤l.length) (fun(j:Nat)=>l.length - j) (0) (by simp <;> rfl) ?_ (by simp [qU,aG1]) (by simp) ?_ ?_
 ·simp [aG1,qU]
 ·simp
 rintro j hj;simp only [List.cons_append,List.nil_append,nU,mB,List.set_cons_zero,List.set_cons_succ];refine zr qAr62 fun _ _ Z=>?_;simp(disch:=omega)[or_imp,forall_and,dO];apply Z;apply aB;refine zi ?_;refine⟨fun c1=>?_,fun c1=>?_⟩
 ·try simp at c1
  apply aD;apply aA;apply aB;apply aF;refine zr qAr62 fun _ _ Z=>?_;simp(disch:=omega)[or_imp,forall_and,dO];and_intros<;>(try omega);apply Z;refine zk [0,3,4,5,7,8,11,12,13] ?_;refine zd qAr62 [.op {},.op {},.op {},.op {},.op {},.op {rL:=true},.op {},.op {},.op {},.op {},.op {},.op {},.op {},.op {},.op {},.op {}] fun all hall _ Z=>?_;have ga3:aO all 3=some 20:=hall 3;refine eR 4 fun _ Y=>?_;simp(disch:=omega)[or_imp,forall_and,dO,ga3];and_intros<;>(try omega);apply Y;refine dU 20 (by simp <;> rfl) ?_;refine⟨fun g2=>?_,fun g2=>?_⟩
  ·try simp at g2
   refine eR 8 fun _ Y=>?_;simp(disch:=omega)[or_imp,forall_and,dO,ga3];and_intros<;>(try omega);apply Y;simp(disch:=omega)[or_imp,forall_and,dO,ga3];apply Z;refine zk [0,3,4,5,7,8,11,12,13] ?_;refine kX qAr62 fun all hall _ Z=>?_;have ga1:aO all 1=some 33:=hall 1;have ga4:aO all 4=some 36:=hall 4;refine zs 2 fun _ Y=>?_;simp(disch:=omega)[or_imp,forall_and,dO,ga1,ga4];apply Y;refine zs 3 fun _ Y=>?_;simp(disch:=omega)[or_imp,forall_and,dO,ga1,ga4];apply Y;refine aS 36 (by simp <;> rfl) ?_;refine⟨fun g3=>?_,fun g3=>?_⟩
   ·try simp at g3
    simp(disch:=omega)[or_imp,forall_and,dO,ga1,ga4];apply Z;refine bD (t:=true) (by simp) (fun _=>?_) (fun h=>by cases h);refine zk [0,3,4,5,7,8,11,12,13] ?_;refine zr qAr62 fun _ _ Z=>?_;simp(disch:=omega)[or_imp,forall_and,dO];apply Z;refine zt qAr62 fun _ _ Z=>?_;simp(disch:=omega)[or_imp,forall_and,dO];apply Z;apply aH;apply aA;refine zt qAr62 fun _ _ Z=>?_;simp(disch:=omega)[or_imp,forall_and,dO];and_intros<;>(try omega);apply Z;first | have hcn:=oW (k:=k) c1 (by first | (rw [show k=0 from g2];rfl) | (rw [nE g2 hk];exact g5)) (by first | exact .inl (by rw [g3];rfl) | exact .inl (by rw [g6];rfl) | exact .inr c4 | exact .inr c7) | have hcn:=oQ (k:=k) c1 (by first | exact g3 | exact g6) (by first | exact c4 | exact c7) | have hcn:=oP (k:=k) c1 (by rw [nE g2 hk];exact g5)
    refine dT (j+1) ?_ ?_ (dC rfl ?_ (by simp [qU,hcn]) (by simp))
    ·omega
    ·try dsimp only
     omega
    simp(disch:=omega)[or_imp,forall_and,dO,hcn]
   try simp at g3
   simp(disch:=omega)[or_imp,forall_and,dO,ga1,ga4];apply Z;refine zi ?_;refine⟨fun c4=>?_,fun c4=>?_⟩
   ·try simp at c4
    refine zk [0,3,4,5,7,8,11,12,13] ?_;refine zr qAr62 fun _ _ Z=>?_;simp(disch:=omega)[or_imp,forall_and,dO];apply Z;refine zt qAr62 fun _ _ Z=>?_;simp(disch:=omega)[or_imp,forall_and,dO];apply Z;apply aH;apply aA;refine zt qAr62 fun _ _ Z=>?_;simp(disch:=omega)[or_imp,forall_and,dO];and_intros<;>(try omega);apply Z;first | have hcn:=oW (k:=k) c1 (by first | (rw [show k=0 from g2];rfl) | (rw [nE g2 hk];exact g5)) (by first | exact .inl (by rw [g3];rfl) | exact .inl (by rw [g6];rfl) | exact .inr c4 | exact .inr c7) | have hcn:=oQ (k:=k) c1 (by first | exact g3 | exact g6) (by first | exact c4 | exact c7) | have hcn:=oP (k:=k) c1 (by rw [nE g2 hk];exact g5)
    refine dT (j+1) ?_ ?_ (dC rfl ?_ (by simp [qU,hcn]) (by simp))
    ·omega
    ·try dsimp only
     omega
    simp(disch:=omega)[or_imp,forall_and,dO,hcn]
   try simp at c4
   apply aD;apply aH;apply aA;refine zk [0,3,4,5,8,11,12,13] ?_;refine zt qAr62 fun _ _ Z=>?_;simp(disch:=omega)[or_imp,forall_and,dO];and_intros<;>(try omega);apply Z;first | have hcn:=oW (k:=k) c1 (by first | (rw [show k=0 from g2];rfl) | (rw [nE g2 hk];exact g5)) (by first | exact .inl (by rw [g3];rfl) | exact .inl (by rw [g6];rfl) | exact .inr c4 | exact .inr c7) | have hcn:=oQ (k:=k) c1 (by first | exact g3 | exact g6) (by first | exact c4 | exact c7) | have hcn:=oP (k:=k) c1 (by rw [nE g2 hk];exact g5)
   refine dT (j+1) ?_ ?_ (dC rfl ?_ (by simp [qU,hcn]) (by simp))
   ·omega
   ·try dsimp only
    omega
   simp(disch:=omega)[or_imp,forall_and,dO,hcn]
  try simp at g2
  refine eR 8 fun _ Y=>?_;simp(disch:=omega)[or_imp,forall_and,dO,ga3];and_intros<;>(try omega);apply Y;simp(disch:=omega)[or_imp,forall_and,dO,ga3];apply Z;refine zk [0,3,4,5,7,8,11,12,13] ?_;refine kX qAr62 fun all hall _ Z=>?_;have ga1:aO all 1=some 33:=hall 1;have ga4:aO all 4=some 36:=hall 4;refine zs 2 fun _ Y=>?_;simp(disch:=omega)[or_imp,forall_and,dO,ga1,ga4];apply Y;refine aS 33 (by simp <;> rfl) ?_;refine⟨fun g5=>?_,fun g5=>?_⟩
  ·try simp at g5
   refine zs 3 fun _ Y=>?_;simp(disch:=omega)[or_imp,forall_and,dO,ga1,ga4];apply Y;refine aS 36 (by simp <;> rfl) ?_;refine⟨fun g6=>?_,fun g6=>?_⟩
   ·try simp at g6
    simp(disch:=omega)[or_imp,forall_and,dO,ga1,ga4];apply Z;refine bD (t:=true) (by simp) (fun _=>?_) (fun h=>by cases h);refine zk [0,3,4,5,7,8,11,12,13] ?_;refine zr qAr62 fun _ _ Z=>?_;simp(disch:=omega)[or_imp,forall_and,dO];apply Z;refine zt qAr62 fun _ _ Z=>?_;simp(disch:=omega)[or_imp,forall_and,dO];apply Z;apply aH;apply aA;refine zt qAr62 fun _ _ Z=>?_;simp(disch:=omega)[or_imp,forall_and,dO];and_intros<;>(try omega);apply Z;first | have hcn:=oW (k:=k) c1 (by first | (rw [show k=0 from g2];rfl) | (rw [nE g2 hk];exact g5)) (by first | exact .inl (by rw [g3];rfl) | exact .inl (by rw [g6];rfl) | exact .inr c4 | exact .inr c7) | have hcn:=oQ (k:=k) c1 (by first | exact g3 | exact g6) (by first | exact c4 | exact c7) | have hcn:=oP (k:=k) c1 (by rw [nE g2 hk];exact g5)
    refine dT (j+1) ?_ ?_ (dC rfl ?_ (by simp [qU,hcn]) (by simp))
    ·omega
    ·try dsimp only
     omega
    simp(disch:=omega)[or_imp,forall_and,dO,hcn]
   try simp at g6
   simp(disch:=omega)[or_imp,forall_and,dO,ga1,ga4];apply Z;refine zi ?_;refine⟨fun c7=>?_,fun c7=>?_⟩
   ·try simp at c7
    refine zk [0,3,4,5,7,8,11,12,13] ?_;refine zr qAr62 fun _ _ Z=>?_;simp(disch:=omega)[or_imp,forall_and,dO];apply Z;refine zt qAr62 fun _ _ Z=>?_;simp(disch:=omega)[or_imp,forall_and,dO];apply Z;apply aH;apply aA;refine zt qAr62 fun _ _ Z=>?_;simp(disch:=omega)[or_imp,forall_and,dO];and_intros<;>(try omega);apply Z;first | have hcn:=oW (k:=k) c1 (by first | (rw [show k=0 from g2];rfl) | (rw [nE g2 hk];exact g5)) (by first | exact .inl (by rw [g3];rfl) | exact .inl (by rw [g6];rfl) | exact .inr c4 | exact .inr c7) | have hcn:=oQ (k:=k) c1 (by first | exact g3 | exact g6) (by first | exact c4 | exact c7) | have hcn:=oP (k:=k) c1 (by rw [nE g2 hk];exact g5)
    refine dT (j+1) ?_ ?_ (dC rfl ?_ (by simp [qU,hcn]) (by simp))
    ·omega
    ·try dsimp only
     omega
    simp(disch:=omega)[or_imp,forall_and,dO,hcn]
   try simp at c7
   apply aD;apply aH;apply aA;refine zk [0,3,4,5,8,11,12,13] ?_;refine zt qAr62 fun _ _ Z=>?_;simp(disch:=omega)[or_imp,forall_and,dO];and_intros<;>(try omega);apply Z;first | have hcn:=oW (k:=k) c1 (by first | (rw [show k=0 from g2];rfl) | (rw [nE g2 hk];exact g5)) (by first | exact .inl (by rw [g3];rfl) | exact .inl (by rw [g6];rfl) | exact .inr c4 | exact .inr c7) | have hcn:=oQ (k:=k) c1 (by first | exact g3 | exact g6) (by first | exact c4 | exact c7) | have hcn:=oP (k:=k) c1 (by rw [nE g2 hk];exact g5)
   refine dT (j+1) ?_ ?_ (dC rfl ?_ (by simp [qU,hcn]) (by simp))
   ·omega
   ·try dsimp only
    omega
   simp(disch:=omega)[or_imp,forall_and,dO,hcn]
  try simp at g5
  refine zs 8 fun _ Y=>?_;simp(disch:=omega)[or_imp,forall_and,dO,ga1,ga4];and_intros<;>(try omega);apply Y;simp(disch:=omega)[or_imp,forall_and,dO,ga1,ga4];apply Z;refine bD (t:=false) (by simp) (fun h=>by cases h) (fun _=>?_);apply aD;apply aH;apply aA;refine zk [0,3,4,5,8,11,12,13] ?_;refine zt qAr62 fun _ _ Z=>?_;simp(disch:=omega)[or_imp,forall_and,dO];and_intros<;>(try omega);apply Z;first | have hcn:=oW (k:=k) c1 (by first | (rw [show k=0 from g2];rfl) | (rw [nE g2 hk];exact g5)) (by first | exact .inl (by rw [g3];rfl) | exact .inl (by rw [g6];rfl) | exact .inr c4 | exact .inr c7) | have hcn:=oQ (k:=k) c1 (by first | exact g3 | exact g6) (by first | exact c4 | exact c7) | have hcn:=oP (k:=k) c1 (by rw [nE g2 hk];exact g5)
  refine dT (j+1) ?_ ?_ (dC rfl ?_ (by simp [qU,hcn]) (by simp))
  ·omega
  ·try dsimp only
   omega
  simp(disch:=omega)[or_imp,forall_and,dO,hcn]
 try simp at c1
 obtain rfl:j=l.length:=by omega
 have hce:=aEg hk;apply aY;apply aX;apply aZ;apply aR;apply aA;apply aB;refine zr qAr62 fun _ _ Z=>?_;simp(disch:=omega)[or_imp,forall_and,dO];apply Z;refine zi ?_;refine⟨fun c8=>?_,fun c8=>?_⟩
 ·try simp at c8
  refine zr qAr62 fun _ _ Z=>?_;simp(disch:=omega)[or_imp,forall_and,dO];apply Z;apply aC;apply aI;apply aP;apply dF;apply aP;simp [aK];rw [hce] at c8;rw [List.take_of_length_le (by simpa using List.getElem?_eq_none_iff.1 c8)]
 try simp at c8
 have hk2:k<(jL nP l).length:=by
   rcases Nat.lt_or_ge k (jL nP l).length with h | h
   ·exact h
   rw [hce,List.getElem?_eq_none h] at c8;exact absurd c8 (by simp)
 have hcd:qU l k l.length=(jL nP l)[k]:=by unfold qU;rw [hce,List.getElem?_eq_getElem hk2];rfl
 have htk:List.take (k+1) (List.map cV (jL nP l))=List.take k (List.map cV (jL nP l))++ [cV (jL nP l)[k]]:=by rw [cX _ k (by simpa using hk2),List.getElem_map]
 apply aD;apply aA;refine zt qAr62 fun _ _ Z=>?_;simp(disch:=omega)[or_imp,forall_and,dO];and_intros<;>(try omega);apply Z;apply aH;refine zq (k+1) ?_ ?_ ?_
 ·omega
 ·try dsimp only
  omega
 simp(disch:=omega)[or_imp,forall_and,dO,hcd,htk]
@[simp] abbrev qAr63:Cfg:=⟨[4,5,20,25],[],[],[],[]⟩
theorem Sd(l:List PI)(c:ByteArray)(σ:List (List D))(hl:l.length≤99999)(hs:cG nP l):Ct prog 76 [.sl false (l.map cV),D.str c] σ (fun r σ'=>r= .sl true ((jF nP l c).map cV)∧σ'=σ):=by
 refine zf (rs:=[.tmp 4]) func76 ntmps76 results76 ?_;simp only [aN];refine zr qAr63 fun _ _ Z=>?_;simp(disch:=omega);apply Z;refine zr qAr63 fun _ _ Z=>?_;simp(disch:=omega);and_intros<;>(try omega);apply Z;apply aB;refine zr qAr63 fun _ _ Z=>?_;refine zs 1 fun _ Y=>?_;simp(disch:=omega);apply Y;refine aE fun _ Y=>?_;simp(disch:=omega);refine bX (Xt l _ hl) ?_;rw [qJ nP hs];apply Y;simp(disch:=omega);and_intros<;>(try omega);apply Z;apply aF;refine zk [1,4,5,10,11,12] ?_;refine bA (fun(k:Nat)=> [(12,.d (.v (.int .i64 (k:Int)))),(5,.d (.sl true ((jF nP (l.take k) c).map cV)))]) [5,7,12,13,14,15,16,17,18,19,20,21,22,23,24] (fun(k:Nat)=>k≤l.length) (fun(k:Nat)=>l.length - k) (0) (by simp <;> rfl) ?_ ?_ ?_
 ·simp [jF]
 ·simp
 rintro k hk;simp only [List.cons_append,List.nil_append];have hdl:=uY nP (l.take k) c;simp only [List.length_take] at hdl;refine zr qAr63 fun _ _ Z=>?_;simp(disch:=omega);apply Z;apply aB;refine zi ?_;refine⟨fun c1=>?_,fun c1=>?_⟩
 ·try simp at c1
  apply aD;apply aA;apply aB;apply aF;refine zr qAr63 fun _ _ Z=>?_;simp(disch:=omega);and_intros<;>(try omega);apply Z;refine zr qAr63 fun _ _ Z=>?_;simp(disch:=omega);apply Z;refine zi ?_;refine⟨fun c2=>?_,fun c2=>?_⟩
  ·try simp at c2
   refine zk [1,4,5,7,10,11,12] ?_;refine zt qAr63 fun _ _ Z=>?_;simp(disch:=omega);and_intros<;>(try omega);apply Z;apply aH;apply aA;refine zk [1,4,5,10,11,12] ?_;refine zt qAr63 fun _ _ Z=>?_;simp(disch:=omega);and_intros<;>(try omega);apply Z;refine zq (k+1) ?_ ?_ ?_
   ·omega
   ·try dsimp only
    omega
   simp(disch:=omega)[qY, *]
  try simp at c2
  apply aD;apply aH;apply aA;refine zk [1,4,5,10,11,12] ?_;refine zt qAr63 fun _ _ Z=>?_;simp(disch:=omega);and_intros<;>(try omega);apply Z;refine zq (k+1) ?_ ?_ ?_
  ·omega
  ·try dsimp only
   omega
  simp(disch:=omega)[qY, *]
 try simp at c1
 apply aY;apply aX;apply aZ;apply aR;apply aA;refine zr qAr63 fun _ _ Z=>?_;simp(disch:=omega);apply Z;apply aC;simp [aK];rw [List.take_of_length_le (by omega)]
theorem Kx {l:List PI} {c:ByteArray} :mY nP l c=true↔∃j,∃h:j<l.length,l[j].name=c:=by
 unfold mY;rw [List.any_eq_true];constructor
 ·rintro⟨x,hx,e⟩;obtain⟨j,hj,rfl⟩:=List.getElem_of_mem hx;exact⟨j,hj,by simpa using e⟩
 rintro⟨j,hj,e⟩;exact⟨l[j],List.getElem_mem hj,by simpa using e⟩
theorem Pb {l:List PI} {c:ByteArray} {k j:Nat} (hh:∀j (h:j<l.length),k≤j→l[j].name≠c) {hk:k - 1<l.length} (c2:¬l[k - 1].name=c)(h:j<l.length)(h2:k - 1≤j):l[j].name≠c:=by
 rcases Nat.lt_or_ge j k with h3 | h3
 ·obtain rfl:j=k - 1:=by omega
  exact c2
 exact hh j h h3
theorem aJn {l:List PI} {c:ByteArray} (h:∀j (h:j<l.length),0≤j→l[j].name≠c):mY nP l c=false:=by
 rw [← Bool.not_eq_true,Kx];rintro⟨j,hj,e⟩;exact h j hj (Nat.zero_le _) e
theorem aAv(l:List PI)(c:ByteArray)(σ:List (List D))(hl:l.length≤99999):Ct prog 75 [.sl false (l.map cV),D.str c] σ (fun r σ'=>(∃v:Int,r= .tup [D.int v,.bool (mY nP l c)])∧σ'=σ):=by
 refine zf (rs:=[.tmp 4,.tmp 5]) func75 ntmps75 results75 ?_;simp only [aN];refine aW fun _ _ Z=>?_;simp(disch:=omega)[Nat.sub_add_cancel];apply Z;apply aB;refine aW fun _ _ Z=>?_;simp(disch:=omega)[Nat.sub_add_cancel];and_intros<;>(try omega);apply Z;apply aF;refine zk [0,1,4,5,6] ?_;refine bA (fun(k:Nat)=> [(6,.d (.int ((k:Int) - 1)))]) [4,5,6,10,11,12,13,14,15,16,17,18,19,20,21,22,23,24,25] (fun(k:Nat)=>k≤l.length∧∀j (h:j<l.length),k≤j→l[j].name≠c) (fun(k:Nat)=>k) (l.length) (by simp <;> rfl) ?_ ?_ ?_
 ·simp
 ·exact⟨Nat.le_refl _,fun j h h2=>by omega⟩
 rintro k ⟨hk,hh⟩;simp only [List.cons_append,List.nil_append];have htn:1≤k→((k:Int) - 1).toNat=k - 1:=fun h=>by omega
 apply aB;refine aW fun _ _ Z=>?_;simp(disch:=omega)[Nat.sub_add_cancel];apply Z;refine zi ?_;refine⟨fun c1=>?_,fun c1=>?_⟩
 ·try simp at c1
  have hk1:1≤k:=by omega
  have htn1:=htn hk1;apply aD;apply aA;apply aB;apply aF;refine aW fun _ _ Z=>?_;simp(disch:=omega)[Nat.sub_add_cancel];and_intros<;>(try omega);apply Z;refine zi ?_;refine⟨fun c2=>?_,fun c2=>?_⟩
  ·try simp at c2
   refine zk [0,1,6] ?_;refine aW fun _ _ Z=>?_;simp(disch:=omega)[Nat.sub_add_cancel];and_intros<;>(try omega);apply Z;apply aC;apply aP;apply aI;apply dF;apply aP;apply aI;simp [aK];exact Kx.2 ⟨k - 1,by omega,c2⟩
  try simp at c2
  apply aD;apply aH;apply aA;refine zk [0,1,6] ?_;refine pP fun _ _ Z=>?_;simp(disch:=omega)[Nat.sub_add_cancel];and_intros<;>(try omega);apply Z;refine zq (k - 1) ?_ ?_ ?_
  ·exact⟨by omega,fun j h h2=>Pb hh c2 h h2⟩
  ·try dsimp only
   omega
  simp [Cc];omega
 try simp at c1
 apply aY;apply aX;apply aZ;apply aR;apply aA;refine aW fun _ _ Z=>?_;simp(disch:=omega)[Nat.sub_add_cancel];apply Z;apply aC;simp [aK];exact aJn fun j h _=>hh j h (by omega)
theorem pY(l:List Int)(k:Nat):(∀d:D,d∈List.take k (List.map D.int l)→d.ncells=1)↔True:=by
 refine⟨fun _=>trivial,fun _ d hd=>?_⟩;obtain⟨a,_,rfl⟩:=List.mem_map.1 (List.mem_of_mem_take hd);rfl
theorem pR(l:List Int)(k:Nat):(∀d:D,d∈List.drop k (List.map D.int l)→d.ncells=1)↔True:=by
 refine⟨fun _=>trivial,fun _ d hd=>?_⟩;obtain⟨a,_,rfl⟩:=List.mem_map.1 (List.mem_of_mem_drop hd);rfl
theorem Kp(l:List Int)(x:Int):(l.filter fun y=> !decide (y=x)).length≤l.length:=List.length_filter_le _ _
def eG(l:List Int)(x:Int):List Int:=l.filter fun y=> !decide (y=x)
theorem rQ(l:List Int)(x:Int)(k:Nat)(h:k<l.length):eG (l.take (k+1)) x=eG (l.take k) x++if l[k]=x then [] else [l[k]]:=by
 unfold eG;rw [cX l k h,List.filter_append,List.filter_cons];by_cases e:l[k]=x <;> simp [e]
@[simp] abbrev qAr64:Cfg:=⟨[6,7,13,17],[],[],[],[]⟩
theorem Pz(l:List Int)(i:Nat)(x:Int)(σ:List (List D))(hl:l.length≤99999)(hi:i≤l.length):Ct prog 206 [.sl false (l.map D.int),D.int i,D.int x] σ (fun r σ'=>r= .sl true ((dE l i x).map D.int)∧σ'=σ):=by
 refine zf (rs:=[.tmp 6]) func206 ntmps206 results206 ?_;simp only [aN];have htl:List.take l.length (List.map D.int l)=List.map D.int l:=List.take_of_length_le (by simp);refine zr qAr64 fun _ _ Z=>?_;simp[pY,pR,or_imp,forall_and,htl];apply Z;refine zr qAr64 fun _ _ Z=>?_;simp[pY,pR,or_imp,forall_and,htl];and_intros<;>(try omega);apply Z;refine zr qAr64 fun _ _ Z=>?_;simp[pY,pR,or_imp,forall_and,htl];and_intros<;>(try omega);apply Z;refine zk [0,1,6,7] ?_;refine zr qAr64 fun _ _ Z=>?_;simp[pY,pR,or_imp,forall_and,htl];and_intros<;>(try omega);apply Z;apply aC;simp [aK,dE]
@[simp] abbrev qAr65:Cfg:=⟨[4,5,18,23],[],[],[],[]⟩
theorem xP(l:List Int)(x:Int)(σ:List (List D))(hl:l.length≤99999):Ct prog 208 [.sl false (l.map D.int),D.int x] σ (fun r σ'=>r= .sl true ((eG l x).map D.int)∧σ'=σ):=by
 refine zf (rs:=[.tmp 4]) func208 ntmps208 results208 ?_;simp only [aN];refine zr qAr65 fun _ _ Z=>?_;simp(disch:=omega);apply Z;refine zr qAr65 fun _ _ Z=>?_;simp(disch:=omega);and_intros<;>(try omega);apply Z;apply aB;refine zr qAr65 fun _ _ Z=>?_;simp(disch:=omega);and_intros<;>(try omega);apply Z;apply aF;refine zk [1,4,5,9,10,11] ?_;refine bA (fun(k:Nat)=> [(11,.d (.v (.int .i64 (k:Int)))),(5,.d (.sl true ((eG (l.take k) x).map D.int)))]) [5,7,11,12,13,14,15,16,17,18,19,20,21,22] (fun(k:Nat)=>k≤l.length) (fun(k:Nat)=>l.length - k) (0) (by simp <;> rfl) ?_ ?_ ?_
 ·simp [eG]
 ·simp
 rintro k hk;simp only [List.cons_append,List.nil_append];have hdl:=Kp (l.take k) x;simp only [List.length_take] at hdl;have hdl2:(eG (l.take k) x).length≤k:=by unfold eG;omega
 refine zr qAr65 fun _ _ Z=>?_;simp(disch:=omega);apply Z;apply aB;refine zi ?_;refine⟨fun c1=>?_,fun c1=>?_⟩
 ·try simp at c1
  apply aD;apply aA;apply aB;apply aF;refine zr qAr65 fun _ _ Z=>?_;simp(disch:=omega);and_intros<;>(try omega);apply Z;refine zr qAr65 fun _ _ Z=>?_;simp(disch:=omega);apply Z;refine zi ?_;refine⟨fun c2=>?_,fun c2=>?_⟩
  ·try simp at c2
   refine zk [1,4,5,7,9,10,11] ?_;refine zt qAr65 fun _ _ Z=>?_;simp(disch:=omega);and_intros<;>(try omega);apply Z;apply aH;apply aA;refine zk [1,4,5,9,10,11] ?_;refine zt qAr65 fun _ _ Z=>?_;simp(disch:=omega);and_intros<;>(try omega);apply Z;refine zq (k+1) ?_ ?_ ?_
   ·omega
   ·try dsimp only
    omega
   simp(disch:=omega)[rQ, *]
  try simp at c2
  apply aD;apply aH;apply aA;refine zk [1,4,5,9,10,11] ?_;refine zt qAr65 fun _ _ Z=>?_;simp(disch:=omega);and_intros<;>(try omega);apply Z;refine zq (k+1) ?_ ?_ ?_
  ·omega
  ·try dsimp only
   omega
  simp(disch:=omega)[rQ, *]
 try simp at c1
 apply aY;apply aX;apply aZ;apply aR;apply aA;refine zr qAr65 fun _ _ Z=>?_;simp(disch:=omega);apply Z;apply aC;simp [aK];rw [List.take_of_length_le (by omega)]
theorem zP(a b:List Int)(σ:List (List D))(ha:a.length≤9223372036854775807)(hb:b.length≤9223372036854775807):Ct prog 17 [.sl false (a.map D.int),.sl false (b.map D.int)] σ (fun r σ'=>r= .bool (decide (a=b))∧σ'=σ):=by
 refine zf (rs:=[.tmp 4]) func17 ntmps17 results17 ?_;simp only [aN];refine aW fun _ _ Z=>?_;simp(disch:=omega);apply Z;apply aB;refine aW fun _ _ Z=>?_;simp(disch:=omega);and_intros<;>(try omega);apply Z;refine zi ?_;refine⟨fun c1=>?_,fun c1=>?_⟩
 ·try simp at c1
  refine aW fun _ _ Z=>?_;simp(disch:=omega);apply Z;apply aC;apply aI;simp [aK];intro e;subst e;exact absurd rfl c1
 try simp at c1
 apply aD;apply aA;apply aB;refine aW fun _ _ Z=>?_;simp(disch:=omega);and_intros<;>(try omega);apply Z;apply aF;refine zk [0,1,4,12,13] ?_;refine bA (fun(k:Nat)=> [(13,.d (.int k)),(5,.d (.any))]) [4,5,13,14,15,16,17,18,19,20,21,22,23,24,25] (fun(k:Nat)=>k≤a.length∧a.take k=b.take k) (fun(k:Nat)=>a.length - k) (0) (by simp <;> rfl) ?_ ?_ ?_
 ·simp
 ·simp
 rintro k ⟨hk,hh⟩;simp only [List.cons_append,List.nil_append];refine aW fun _ _ Z=>?_;simp(disch:=omega);apply Z;apply aB;refine zi ?_;refine⟨fun c2=>?_,fun c2=>?_⟩
 ·try simp at c2
  apply aD;apply aA;apply aB;apply aF;refine aW fun _ _ Z=>?_;simp(disch:=omega);apply Z;refine zd ⟨[],[],[],[],[]⟩ [.op {},.op {},.op {},.op {},.op {},.op {},.op {},.op {},.op {}] fun all hall _ Z=>?_;refine eR 8 fun _ Y=>?_;simp(disch:=omega);and_intros<;>(try omega);apply Y;simp(disch:=omega);apply Z;refine zi ?_;refine⟨fun c3=>?_,fun c3=>?_⟩
  ·try simp at c3
   refine zk [0,1,5,12,13] ?_;refine aW fun _ _ Z=>?_;simp(disch:=omega);apply Z;apply aC;apply aP;apply aI;apply dF;apply aP;apply aI;simp [aK];intro e;subst e;exact c3 rfl
  try simp at c3
  apply aD;apply aH;apply aA;refine zk [0,1,5,12,13] ?_;refine pP fun _ _ Z=>?_;simp(disch:=omega);and_intros<;>(try omega);apply Z;refine zq (k+1) ?_ ?_ ?_
  ·exact⟨by omega,by rw [cX a k (by omega),cX b k (by omega),hh];simp [*]⟩
  ·try dsimp only
   omega
  simp(disch:=omega)
 try simp at c2
 apply aY;apply aX;apply aZ;apply aR;apply aA;refine aW fun _ _ Z=>?_;simp(disch:=omega);apply Z;apply aC;simp [aK]
 rwa [List.take_of_length_le (by omega),List.take_of_length_le (by omega)] at hh
end Go.Proofs.YtbgfljpnhhdkoaaGreat
