import Derived.Test.YtbgfljpnhhdkoaaGreatWkAr5
open Go.Proofs.Tryz
namespace Go.Proofs.YtbgfljpnhhdkoaaGreat
open Go Go.Vm
set_option maxRecDepth 20000
set_option linter.all false
set_option maxHeartbeats 8000000
section
variable {o:List AT} {b:Bool} {x p:AT}
theorem wV(hb:b=false)(h:Op.bytesLess x.name.toList p.name.toList=false)(e:x.name=p.name):iH nA p (o,b) x=(o++ [p],true):=by
 have e':nA x=nA p:=e;have h2:b=false∧cS (nA x) (nA p)=false:=⟨hb,h⟩;unfold iH;dsimp only;rw [if_pos e',if_pos h2]
theorem vS(hb:b=false)(h:Op.bytesLess x.name.toList p.name.toList=false)(e:¬x.name=p.name):iH nA p (o,b) x=(o++ [p]++ [x],true):=by
 have e':¬nA x=nA p:=e;have h2:b=false∧cS (nA x) (nA p)=false:=⟨hb,h⟩;unfold iH;dsimp only;rw [if_neg e',if_pos h2]
theorem vG(h:Op.bytesLess x.name.toList p.name.toList=true)(e:x.name=p.name):iH nA p (o,b) x=(o,b):=by
 have e':nA x=nA p:=e;have h2:¬(b=false∧cS (nA x) (nA p)=false):=fun q=>by have h3:cS (nA x) (nA p)=true:=h;rw [h3] at q;cases q.2
 unfold iH;dsimp only;rw [if_pos e',if_neg h2]
theorem wS(h:Op.bytesLess x.name.toList p.name.toList=true)(e:¬x.name=p.name):iH nA p (o,b) x=(o++ [x],b):=by
 have e':¬nA x=nA p:=e;have h2:¬(b=false∧cS (nA x) (nA p)=false):=fun q=>by have h3:cS (nA x) (nA p)=true:=h;rw [h3] at q;cases q.2
 unfold iH;dsimp only;rw [if_neg e',if_neg h2]
theorem vK(h:b=true)(e:x.name=p.name):iH nA p (o,b) x=(o,b):=by
 have e':nA x=nA p:=e;have h2:¬(b=false∧cS (nA x) (nA p)=false):=fun q=>by rw [h] at q;cases q.1
 unfold iH;dsimp only;rw [if_pos e',if_neg h2]
theorem vC(h:b=true)(e:¬x.name=p.name):iH nA p (o,b) x=(o++ [x],b):=by
 have e':¬nA x=nA p:=e;have h2:¬(b=false∧cS (nA x) (nA p)=false):=fun q=>by rw [h] at q;cases q.1
 unfold iH;dsimp only;rw [if_neg e',if_neg h2]
end
@[simp] abbrev qAr61:Cfg:=⟨[4,5,25,34,41,45],[],[],[],[]⟩
theorem Jo(l:List AT)(p:AT)(σ:List (List D))(hl:l.length≤99999)(hs:cJ nA l):Ct prog 72 [.sl false (l.map cZ),cZ p] σ (fun r σ'=>r= .sl true ((fB nA l p).map cZ)∧σ'=σ):=by
 refine zf (rs:=[.tmp 4]) func72 ntmps72 results72 ?_;simp only [aN];refine zr qAr61 fun _ _ Z=>?_;simp(disch:=omega)[or_imp,forall_and];apply Z;refine zr qAr61 fun _ _ Z=>?_;simp(disch:=omega)[or_imp,forall_and];and_intros<;>(try omega);apply Z;refine zr qAr61 fun _ _ Z=>?_;simp(disch:=omega)[or_imp,forall_and];apply Z;apply aC;refine zr qAr61 fun _ _ Z=>?_;simp(disch:=omega)[or_imp,forall_and];and_intros<;>(try omega);apply Z;apply aG;refine zk [3,4,5,6,10,11,12] ?_;refine bI (fun(k:Nat)=> [(12,.d (.v (.int .i64 (k:Int)))),(5,.d (.sl true ((lO nA (l.take k) p).1.map cZ))),(6,.d (.bool (lO nA (l.take k) p).2))]) [5,6,8,12,13,14,15,16,17,18,19,20,21,22,23,24,25,26,27,28,29,30,31,32,33,34,35,36,37,38] (fun(k:Nat)=>k≤l.length) (fun(k:Nat)=>l.length - k) (0) (by simp <;> rfl) ?_ ?_ ?_
 ·simp [lO]
 ·simp
 rintro k hk;simp only [List.cons_append,List.nil_append];have hpl:=Tv nA (l.take k) p;simp only [List.length_take] at hpl;generalize hps:lO nA (l.take k) p=s at hpl ⊢;obtain⟨o,b⟩:=s;have hpl2:o.length≤k+1:=by simp only at hpl;split at hpl <;> omega
 dsimp only;refine zr qAr61 fun _ _ Z=>?_;simp(disch:=omega)[or_imp,forall_and];apply Z;apply aC;refine zi ?_;refine⟨fun c1=>?_,fun c1=>?_⟩
 ·try simp at c1
  apply aE;apply aA;apply aC;apply aG;refine zr qAr61 fun _ _ Z=>?_;simp(disch:=omega)[or_imp,forall_and];and_intros<;>(try omega);apply Z;apply aC;refine mY qAr61 fun all hall _ Z=>?_;have ga2:aR all 2=some 18:=hall 2;refine zs 3 fun _ Y=>?_;simp(disch:=omega)[or_imp,forall_and,ga2];apply Y;refine aU 18 (by simp <;> rfl) ?_;refine⟨fun g2=>?_,fun g2=>?_⟩
  ·try simp at g2
   simp(disch:=omega)[or_imp,forall_and,ga2];apply Z;refine zi ?_;refine⟨fun c3=>?_,fun c3=>?_⟩
   ·try simp at c3
    refine zk [3,4,5,6,8,10,11,12] ?_;refine zr qAr61 fun _ _ Z=>?_;simp(disch:=omega)[or_imp,forall_and];and_intros<;>(try omega);apply Z;refine zk [3,4,5,6,8,10,11,12] ?_;refine zt qAr61 fun _ _ Z=>?_;simp(disch:=omega)[or_imp,forall_and];apply Z;apply aA;refine zr qAr61 fun _ _ Z=>?_;simp(disch:=omega)[or_imp,forall_and];apply Z;refine zi ?_;refine⟨fun c4=>?_,fun c4=>?_⟩
    ·try simp at c4
     refine zk [3,4,5,6,8,10,11,12] ?_;refine zt qAr61 fun _ _ Z=>?_;simp(disch:=omega)[or_imp,forall_and];and_intros<;>(try omega);apply Z;apply aK;apply aA;refine zk [3,4,5,6,10,11,12] ?_;refine zt qAr61 fun _ _ Z=>?_;simp(disch:=omega)[or_imp,forall_and];and_intros<;>(try omega);apply Z;refine zq (k+1) ?_ ?_ ?_
     ·omega
     ·try dsimp only
      omega
     rw [kK nA l p k (by omega),hps];first | rw [wV (by assumption) (by assumption) (by assumption)] | rw [vS (by assumption) (by assumption) (by assumption)] | rw [vG (by assumption) (by assumption)] | rw [wS (by assumption) (by assumption)] | rw [vK (by first | assumption | simpa using g2) (by assumption)] | rw [vC (by first | assumption | simpa using g2) (by assumption)]
     simp [*]
    try simp at c4
    apply aE;apply aK;apply aA;refine zk [3,4,5,6,10,11,12] ?_;refine zt qAr61 fun _ _ Z=>?_;simp(disch:=omega)[or_imp,forall_and];and_intros<;>(try omega);apply Z;refine zq (k+1) ?_ ?_ ?_
    ·omega
    ·try dsimp only
     omega
    rw [kK nA l p k (by omega),hps];first | rw [wV (by assumption) (by assumption) (by assumption)] | rw [vS (by assumption) (by assumption) (by assumption)] | rw [vG (by assumption) (by assumption)] | rw [wS (by assumption) (by assumption)] | rw [vK (by first | assumption | simpa using g2) (by assumption)] | rw [vC (by first | assumption | simpa using g2) (by assumption)]
    simp [*]
   try simp at c3
   apply aE;apply aA;refine zk [3,4,5,6,8,10,11,12] ?_;refine zr qAr61 fun _ _ Z=>?_;simp(disch:=omega)[or_imp,forall_and];apply Z;refine zi ?_;refine⟨fun c5=>?_,fun c5=>?_⟩
   ·try simp at c5
    refine zk [3,4,5,6,8,10,11,12] ?_;refine zt qAr61 fun _ _ Z=>?_;simp(disch:=omega)[or_imp,forall_and];and_intros<;>(try omega);apply Z;apply aK;apply aA;refine zk [3,4,5,6,10,11,12] ?_;refine zt qAr61 fun _ _ Z=>?_;simp(disch:=omega)[or_imp,forall_and];and_intros<;>(try omega);apply Z;refine zq (k+1) ?_ ?_ ?_
    ·omega
    ·try dsimp only
     omega
    rw [kK nA l p k (by omega),hps];first | rw [wV (by assumption) (by assumption) (by assumption)] | rw [vS (by assumption) (by assumption) (by assumption)] | rw [vG (by assumption) (by assumption)] | rw [wS (by assumption) (by assumption)] | rw [vK (by first | assumption | simpa using g2) (by assumption)] | rw [vC (by first | assumption | simpa using g2) (by assumption)]
    simp [*]
   try simp at c5
   apply aE;apply aK;apply aA;refine zk [3,4,5,6,10,11,12] ?_;refine zt qAr61 fun _ _ Z=>?_;simp(disch:=omega)[or_imp,forall_and];and_intros<;>(try omega);apply Z;refine zq (k+1) ?_ ?_ ?_
   ·omega
   ·try dsimp only
    omega
   rw [kK nA l p k (by omega),hps];first | rw [wV (by assumption) (by assumption) (by assumption)] | rw [vS (by assumption) (by assumption) (by assumption)] | rw [vG (by assumption) (by assumption)] | rw [wS (by assumption) (by assumption)] | rw [vK (by first | assumption | simpa using g2) (by assumption)] | rw [vC (by first | assumption | simpa using g2) (by assumption)]
   simp [*]
  try simp at g2
  simp(disch:=omega)[or_imp,forall_and,ga2];apply Z;refine bM (t:=false) (by simp) (fun h=>by cases h) (fun _=>?_);apply aE;apply aA;refine zk [3,4,5,6,8,10,11,12] ?_;refine zr qAr61 fun _ _ Z=>?_;simp(disch:=omega)[or_imp,forall_and];apply Z;refine zi ?_;refine⟨fun c6=>?_,fun c6=>?_⟩
  ·try simp at c6
   refine zk [3,4,5,6,8,10,11,12] ?_;refine zt qAr61 fun _ _ Z=>?_;simp(disch:=omega)[or_imp,forall_and];and_intros<;>(try omega);apply Z;apply aK;apply aA;refine zk [3,4,5,6,10,11,12] ?_;refine zt qAr61 fun _ _ Z=>?_;simp(disch:=omega)[or_imp,forall_and];and_intros<;>(try omega);apply Z;refine zq (k+1) ?_ ?_ ?_
   ·omega
   ·try dsimp only
    omega
   rw [kK nA l p k (by omega),hps];first | rw [wV (by assumption) (by assumption) (by assumption)] | rw [vS (by assumption) (by assumption) (by assumption)] | rw [vG (by assumption) (by assumption)] | rw [wS (by assumption) (by assumption)] | rw [vK (by first | assumption | simpa using g2) (by assumption)] | rw [vC (by first | assumption | simpa using g2) (by assumption)]
   simp [*]
  try simp at c6
  apply aE;apply aK;apply aA;refine zk [3,4,5,6,10,11,12] ?_;refine zt qAr61 fun _ _ Z=>?_;simp(disch:=omega)[or_imp,forall_and];and_intros<;>(try omega);apply Z;refine zq (k+1) ?_ ?_ ?_
  ·omega
  ·try dsimp only
   omega
  rw [kK nA l p k (by omega),hps];first | rw [wV (by assumption) (by assumption) (by assumption)] | rw [vS (by assumption) (by assumption) (by assumption)] | rw [vG (by assumption) (by assumption)] | rw [wS (by assumption) (by assumption)] | rw [vK (by first | assumption | simpa using g2) (by assumption)] | rw [vC (by first | assumption | simpa using g2) (by assumption)]
  simp [*]
 try simp at c1
 obtain rfl:k=l.length:=by omega
 rw [List.take_length] at hps;apply bC;apply bB;apply bD;apply aX;apply aA;apply aC;refine zr qAr61 fun _ _ Z=>?_;simp(disch:=omega)[or_imp,forall_and];apply Z;refine zi ?_;refine⟨fun c7=>?_,fun c7=>?_⟩
 ·try simp at c7
  refine zt qAr61 fun _ _ Z=>?_;simp(disch:=omega)[or_imp,forall_and];and_intros<;>(try omega);apply Z;apply aA;refine zk [4,5] ?_;refine zr qAr61 fun _ _ Z=>?_;simp(disch:=omega)[or_imp,forall_and];apply Z;apply aB;simp [aL];rw [← Eg nA hs p,hps];simp [Sm, *]
 try simp at c7
 apply aE;apply aA;refine zr qAr61 fun _ _ Z=>?_;simp(disch:=omega)[or_imp,forall_and];apply Z;apply aB;simp [aL];rw [← Eg nA hs p,hps];simp [Sm, *]
def Hf(l:List PI)(k j:Nat):Option PI:=Cd nP (l.take j) ((jK nP l).take k)
def qH(l:List PI)(k j:Nat):PI:=(Hf l k j).getD ⟨⟨#[]⟩,0⟩
def ahd(l:List PI)(k:Nat)(c:ByteArray):Bool:=lI nP ((jK nP l).take k) c
theorem aK1(l:List PI)(k:Nat)(c:ByteArray)(h:k<(jK nP l).length):ahd l (k+1) c=cS (jK nP l)[k].name c:=by
 unfold ahd lI;rw [dL (jK nP l) k h,List.getLast?_concat]
theorem tX(l:List PI)(k j:Nat)(h:j<l.length):Hf l k (j+1)=if ahd l k l[j].name=true then(match Hf l k j with | none=>some l[j] | some q=>if cS (nP q) (nP l[j])=true then some q else some l[j])else Hf l k j:=by
 have e:=Ur nP l ((jK nP l).take k) j h;unfold Hf ahd;rw [e];cases Cd nP (l.take j) ((jK nP l).take k) <;> rfl
theorem nB {l:List PI} {k:Nat} (g:¬k=0)(hk:k≤(jK nP l).length)(c:ByteArray):ahd l k c=cS ((jK nP l)[k - 1]'(by omega)).name c:=by
 obtain⟨m,rfl⟩:∃m,k=m+1:=⟨k - 1,by omega⟩;exact aK1 l m c (by omega)
theorem dS(l:List PI)(k:Nat):(∀d:D,d∈List.take k (List.map cX l)→d.ncells=2)↔True:=by
 refine⟨fun _=>trivial,fun _ d hd=>?_⟩;obtain⟨a,_,rfl⟩:=List.mem_map.1 (List.mem_of_mem_take hd);rfl
theorem oZ {l:List PI} {k j:Nat} (h:j<l.length)(ha:ahd l k l[j].name=true)(hc:(Hf l k j).isSome=false∨cS (qH l k j).name l[j].name=false):Hf l k (j+1)=some l[j]:=by
 rw [tX l k j h,if_pos ha];unfold qH at hc;cases hq:Hf l k j with
 | none=>rfl
 | some q=>
  rw [hq] at hc;have:cS (nP q) (nP l[j])=false:=by simpa using hc
  simp [this]
theorem oQ {l:List PI} {k j:Nat} (h:j<l.length)(ha:ahd l k l[j].name=false):Hf l k (j+1)=Hf l k j:=by
 rw [tX l k j h,if_neg (by rw [ha];simp)]
theorem oR {l:List PI} {k j:Nat} (h:j<l.length)(h1:(Hf l k j).isSome=true)(h2:cS (qH l k j).name l[j].name=true):Hf l k (j+1)=Hf l k j:=by
 by_cases ha:ahd l k l[j].name=true
 ·rw [tX l k j h,if_pos ha];unfold qH at h2;cases hq:Hf l k j with
  | none=>rw [hq] at h1;cases h1
  | some q=>
   rw [hq] at h2;have:cS (nP q) (nP l[j])=true:=h2;simp [this]
 rw [tX l k j h,if_neg ha]
theorem aGq {l:List PI} {k:Nat} (hk:k≤(jK nP l).length):Hf l k l.length=(jK nP l)[k]?:=by
 unfold Hf;rw [List.take_length];exact Zq nP l k hk
theorem aGu(l:List PI)(k:Nat):Hf l k 0=none:=aHt nP l _
@[simp] abbrev qAr62:Cfg:=⟨[2,3,48,49],[],[],[],[]⟩
theorem aCn(l:List PI)(σ:List (List D))(hl:l.length≤99999):Ct prog 73 [.sl false (l.map cX)] σ (fun r σ'=>r= .sl true ((jK nP l).map cX)∧σ'=σ):=by
 refine zf (rs:=[.tmp 2]) func73 ntmps73 results73 ?_;simp only [aN];refine zr qAr62 fun _ _ Z=>?_;simp(disch:=omega)[or_imp,forall_and,dS];apply Z;refine zr qAr62 fun _ _ Z=>?_;simp(disch:=omega)[or_imp,forall_and,dS];and_intros<;>(try omega);apply Z;apply aG;refine zk [0,2,3] ?_;refine bI (fun(k:Nat)=> [(3,.d (.sl true (((jK nP l).take k).map cX)))]) [2,3,4,5,7,8,10,11,12,13,14,15,16,17,18,19,20,21,22,23,24,25,26,27,28,29,30,31,32,33,34,35,36,37,38,39,40,41,42,43,44,45,46,47,48,49,50,51,52] (fun(k:Nat)=>k≤(jK nP l).length) (fun(k:Nat)=>(jK nP l).length - k) (0) (by simp <;> rfl) ?_ ?_ ?_
 ·simp
 ·simp
 rintro k hk;simp only [List.cons_append,List.nil_append];have hol:=lU nP l;have hlk:((jK nP l).take k).length=k:=by simp;omega
 apply aG;refine zr qAr62 fun _ _ Z=>?_;simp(disch:=omega)[or_imp,forall_and,dS];apply Z;refine zr qAr62 fun _ _ Z=>?_;simp(disch:=omega)[or_imp,forall_and,dS];apply Z;apply aC;refine zr qAr62 fun _ _ Z=>?_;simp(disch:=omega)[or_imp,forall_and,dS];and_intros<;>(try omega);apply Z;apply aG;refine zk [0,3,4,5,11,12,13] ?_;refine oB (fun(j:Nat)=> [(13,.d (.v (.int .i64 (j:Int)))),(4,.d (.bool (Hf l k j).isSome)),(8,.d (.any))]) (fun(j:Nat)=> [(0, [.v (.string ((qH l k j).name)),.v (.int .i64 ((qH l k j).value))])]) (fun(j:Nat)=> []) [4,7,8,13,14,15,16,17,18,19,20,21,22,23,24,25,26,27,28,29,30,31,32,33,34,35,36,37,38,39,40,41,42,43,44,45] (fun(j:Nat)=>j≤l.length) (fun(j:Nat)=>l.length - j) (0) (by simp <;> rfl) ?_ (by simp [qH,aGu]) (by simp) ?_ ?_
 ·simp [aGu,qH]
 ·simp
 rintro j hj;simp only [List.cons_append,List.nil_append,nT,mD,List.set_cons_zero,List.set_cons_succ];refine zr qAr62 fun _ _ Z=>?_;simp(disch:=omega)[or_imp,forall_and,dS];apply Z;apply aC;refine zi ?_;refine⟨fun c1=>?_,fun c1=>?_⟩
 ·try simp at c1
  apply aE;apply aA;apply aC;apply aG;refine zr qAr62 fun _ _ Z=>?_;simp(disch:=omega)[or_imp,forall_and,dS];and_intros<;>(try omega);apply Z;refine zk [0,3,4,5,7,8,11,12,13] ?_;refine zd qAr62 [.op {},.op {},.op {},.op {},.op {},.op {rL:=true},.op {},.op {},.op {},.op {},.op {},.op {},.op {},.op {},.op {},.op {}] fun all hall _ Z=>?_;have ga3:aR all 3=some 20:=hall 3;refine jD 4 fun _ Y=>?_;simp(disch:=omega)[or_imp,forall_and,dS,ga3];and_intros<;>(try omega);apply Y;refine rC 20 (by simp <;> rfl) ?_;refine⟨fun g2=>?_,fun g2=>?_⟩
  ·try simp at g2
   refine jD 8 fun _ Y=>?_;simp(disch:=omega)[or_imp,forall_and,dS,ga3];and_intros<;>(try omega);apply Y;simp(disch:=omega)[or_imp,forall_and,dS,ga3];apply Z;refine zk [0,3,4,5,7,8,11,12,13] ?_;refine mY qAr62 fun all hall _ Z=>?_;have ga1:aR all 1=some 33:=hall 1;have ga4:aR all 4=some 36:=hall 4;refine zs 2 fun _ Y=>?_;simp(disch:=omega)[or_imp,forall_and,dS,ga1,ga4];apply Y;refine zs 3 fun _ Y=>?_;simp(disch:=omega)[or_imp,forall_and,dS,ga1,ga4];apply Y;refine aU 36 (by simp <;> rfl) ?_;refine⟨fun g3=>?_,fun g3=>?_⟩
   ·try simp at g3
    simp(disch:=omega)[or_imp,forall_and,dS,ga1,ga4];apply Z;refine bM (t:=true) (by simp) (fun _=>?_) (fun h=>by cases h);refine zk [0,3,4,5,7,8,11,12,13] ?_;refine zr qAr62 fun _ _ Z=>?_;simp(disch:=omega)[or_imp,forall_and,dS];apply Z;refine zt qAr62 fun _ _ Z=>?_;simp(disch:=omega)[or_imp,forall_and,dS];apply Z;apply aK;apply aA;refine zt qAr62 fun _ _ Z=>?_;simp(disch:=omega)[or_imp,forall_and,dS];and_intros<;>(try omega);apply Z;first | have hcn:=oZ (k:=k) c1 (by first | (rw [show k=0 from g2];rfl) | (rw [nB g2 hk];exact g5)) (by first | exact .inl (by rw [g3];rfl) | exact .inl (by rw [g6];rfl) | exact .inr c4 | exact .inr c7) | have hcn:=oR (k:=k) c1 (by first | exact g3 | exact g6) (by first | exact c4 | exact c7) | have hcn:=oQ (k:=k) c1 (by rw [nB g2 hk];exact g5)
    refine dU (j+1) ?_ ?_ (dD rfl ?_ (by simp [qH,hcn]) (by simp))
    ·omega
    ·try dsimp only
     omega
    simp(disch:=omega)[or_imp,forall_and,dS,hcn]
   try simp at g3
   simp(disch:=omega)[or_imp,forall_and,dS,ga1,ga4];apply Z;refine zi ?_;refine⟨fun c4=>?_,fun c4=>?_⟩
   ·try simp at c4
    refine zk [0,3,4,5,7,8,11,12,13] ?_;refine zr qAr62 fun _ _ Z=>?_;simp(disch:=omega)[or_imp,forall_and,dS];apply Z;refine zt qAr62 fun _ _ Z=>?_;simp(disch:=omega)[or_imp,forall_and,dS];apply Z;apply aK;apply aA;refine zt qAr62 fun _ _ Z=>?_;simp(disch:=omega)[or_imp,forall_and,dS];and_intros<;>(try omega);apply Z;first | have hcn:=oZ (k:=k) c1 (by first | (rw [show k=0 from g2];rfl) | (rw [nB g2 hk];exact g5)) (by first | exact .inl (by rw [g3];rfl) | exact .inl (by rw [g6];rfl) | exact .inr c4 | exact .inr c7) | have hcn:=oR (k:=k) c1 (by first | exact g3 | exact g6) (by first | exact c4 | exact c7) | have hcn:=oQ (k:=k) c1 (by rw [nB g2 hk];exact g5)
    refine dU (j+1) ?_ ?_ (dD rfl ?_ (by simp [qH,hcn]) (by simp))
    ·omega
    ·try dsimp only
     omega
    simp(disch:=omega)[or_imp,forall_and,dS,hcn]
   try simp at c4
   apply aE;apply aK;apply aA;refine zk [0,3,4,5,8,11,12,13] ?_;refine zt qAr62 fun _ _ Z=>?_;simp(disch:=omega)[or_imp,forall_and,dS];and_intros<;>(try omega);apply Z;first | have hcn:=oZ (k:=k) c1 (by first | (rw [show k=0 from g2];rfl) | (rw [nB g2 hk];exact g5)) (by first | exact .inl (by rw [g3];rfl) | exact .inl (by rw [g6];rfl) | exact .inr c4 | exact .inr c7) | have hcn:=oR (k:=k) c1 (by first | exact g3 | exact g6) (by first | exact c4 | exact c7) | have hcn:=oQ (k:=k) c1 (by rw [nB g2 hk];exact g5)
   refine dU (j+1) ?_ ?_ (dD rfl ?_ (by simp [qH,hcn]) (by simp))
   ·omega
   ·try dsimp only
    omega
   simp(disch:=omega)[or_imp,forall_and,dS,hcn]
  try simp at g2
  refine jD 8 fun _ Y=>?_;simp(disch:=omega)[or_imp,forall_and,dS,ga3];and_intros<;>(try omega);apply Y;simp(disch:=omega)[or_imp,forall_and,dS,ga3];apply Z;refine zk [0,3,4,5,7,8,11,12,13] ?_;refine mY qAr62 fun all hall _ Z=>?_;have ga1:aR all 1=some 33:=hall 1;have ga4:aR all 4=some 36:=hall 4;refine zs 2 fun _ Y=>?_;simp(disch:=omega)[or_imp,forall_and,dS,ga1,ga4];apply Y;refine aU 33 (by simp <;> rfl) ?_;refine⟨fun g5=>?_,fun g5=>?_⟩
  ·try simp at g5
   refine zs 3 fun _ Y=>?_;simp(disch:=omega)[or_imp,forall_and,dS,ga1,ga4];apply Y;refine aU 36 (by simp <;> rfl) ?_;refine⟨fun g6=>?_,fun g6=>?_⟩
   ·try simp at g6
    simp(disch:=omega)[or_imp,forall_and,dS,ga1,ga4];apply Z;refine bM (t:=true) (by simp) (fun _=>?_) (fun h=>by cases h);refine zk [0,3,4,5,7,8,11,12,13] ?_;refine zr qAr62 fun _ _ Z=>?_;simp(disch:=omega)[or_imp,forall_and,dS];apply Z;refine zt qAr62 fun _ _ Z=>?_;simp(disch:=omega)[or_imp,forall_and,dS];apply Z;apply aK;apply aA;refine zt qAr62 fun _ _ Z=>?_;simp(disch:=omega)[or_imp,forall_and,dS];and_intros<;>(try omega);apply Z;first | have hcn:=oZ (k:=k) c1 (by first | (rw [show k=0 from g2];rfl) | (rw [nB g2 hk];exact g5)) (by first | exact .inl (by rw [g3];rfl) | exact .inl (by rw [g6];rfl) | exact .inr c4 | exact .inr c7) | have hcn:=oR (k:=k) c1 (by first | exact g3 | exact g6) (by first | exact c4 | exact c7) | have hcn:=oQ (k:=k) c1 (by rw [nB g2 hk];exact g5)
    refine dU (j+1) ?_ ?_ (dD rfl ?_ (by simp [qH,hcn]) (by simp))
    ·omega
    ·try dsimp only
     omega
    simp(disch:=omega)[or_imp,forall_and,dS,hcn]
   try simp at g6
   simp(disch:=omega)[or_imp,forall_and,dS,ga1,ga4];apply Z;refine zi ?_;refine⟨fun c7=>?_,fun c7=>?_⟩
   ·try simp at c7
    refine zk [0,3,4,5,7,8,11,12,13] ?_;refine zr qAr62 fun _ _ Z=>?_;simp(disch:=omega)[or_imp,forall_and,dS];apply Z;refine zt qAr62 fun _ _ Z=>?_;simp(disch:=omega)[or_imp,forall_and,dS];apply Z;apply aK;apply aA;refine zt qAr62 fun _ _ Z=>?_;simp(disch:=omega)[or_imp,forall_and,dS];and_intros<;>(try omega);apply Z;first | have hcn:=oZ (k:=k) c1 (by first | (rw [show k=0 from g2];rfl) | (rw [nB g2 hk];exact g5)) (by first | exact .inl (by rw [g3];rfl) | exact .inl (by rw [g6];rfl) | exact .inr c4 | exact .inr c7) | have hcn:=oR (k:=k) c1 (by first | exact g3 | exact g6) (by first | exact c4 | exact c7) | have hcn:=oQ (k:=k) c1 (by rw [nB g2 hk];exact g5)
    refine dU (j+1) ?_ ?_ (dD rfl ?_ (by simp [qH,hcn]) (by simp))
    ·omega
    ·try dsimp only
     omega
    simp(disch:=omega)[or_imp,forall_and,dS,hcn]
   try simp at c7
   apply aE;apply aK;apply aA;refine zk [0,3,4,5,8,11,12,13] ?_;refine zt qAr62 fun _ _ Z=>?_;simp(disch:=omega)[or_imp,forall_and,dS];and_intros<;>(try omega);apply Z;first | have hcn:=oZ (k:=k) c1 (by first | (rw [show k=0 from g2];rfl) | (rw [nB g2 hk];exact g5)) (by first | exact .inl (by rw [g3];rfl) | exact .inl (by rw [g6];rfl) | exact .inr c4 | exact .inr c7) | have hcn:=oR (k:=k) c1 (by first | exact g3 | exact g6) (by first | exact c4 | exact c7) | have hcn:=oQ (k:=k) c1 (by rw [nB g2 hk];exact g5)
   refine dU (j+1) ?_ ?_ (dD rfl ?_ (by simp [qH,hcn]) (by simp))
   ·omega
   ·try dsimp only
    omega
   simp(disch:=omega)[or_imp,forall_and,dS,hcn]
  try simp at g5
  refine zs 8 fun _ Y=>?_;simp(disch:=omega)[or_imp,forall_and,dS,ga1,ga4];and_intros<;>(try omega);apply Y;simp(disch:=omega)[or_imp,forall_and,dS,ga1,ga4];apply Z;refine bM (t:=false) (by simp) (fun h=>by cases h) (fun _=>?_);apply aE;apply aK;apply aA;refine zk [0,3,4,5,8,11,12,13] ?_;refine zt qAr62 fun _ _ Z=>?_;simp(disch:=omega)[or_imp,forall_and,dS];and_intros<;>(try omega);apply Z;first | have hcn:=oZ (k:=k) c1 (by first | (rw [show k=0 from g2];rfl) | (rw [nB g2 hk];exact g5)) (by first | exact .inl (by rw [g3];rfl) | exact .inl (by rw [g6];rfl) | exact .inr c4 | exact .inr c7) | have hcn:=oR (k:=k) c1 (by first | exact g3 | exact g6) (by first | exact c4 | exact c7) | have hcn:=oQ (k:=k) c1 (by rw [nB g2 hk];exact g5)
  refine dU (j+1) ?_ ?_ (dD rfl ?_ (by simp [qH,hcn]) (by simp))
  ·omega
  ·try dsimp only
   omega
  simp(disch:=omega)[or_imp,forall_and,dS,hcn]
 try simp at c1
 obtain rfl:j=l.length:=by omega
 have hce:=aGq hk;apply bC;apply bB;apply bD;apply aX;apply aA;apply aC;refine zr qAr62 fun _ _ Z=>?_;simp(disch:=omega)[or_imp,forall_and,dS];apply Z;refine zi ?_;refine⟨fun c8=>?_,fun c8=>?_⟩
 ·try simp at c8
  refine zr qAr62 fun _ _ Z=>?_;simp(disch:=omega)[or_imp,forall_and,dS];apply Z;apply aB;apply aJ;apply aQ;apply fD;apply aQ;simp [aL];rw [hce] at c8;rw [List.take_of_length_le (by simpa using List.getElem?_eq_none_iff.1 c8)]
 try simp at c8
 have hk2:k<(jK nP l).length:=by
   rcases Nat.lt_or_ge k (jK nP l).length with h | h
   ·exact h
   rw [hce,List.getElem?_eq_none h] at c8;exact absurd c8 (by simp)
 have hcd:qH l k l.length=(jK nP l)[k]:=by unfold qH;rw [hce,List.getElem?_eq_getElem hk2];rfl
 have htk:List.take (k+1) (List.map cX (jK nP l))=List.take k (List.map cX (jK nP l))++ [cX (jK nP l)[k]]:=by rw [dL _ k (by simpa using hk2),List.getElem_map]
 apply aE;apply aA;refine zt qAr62 fun _ _ Z=>?_;simp(disch:=omega)[or_imp,forall_and,dS];and_intros<;>(try omega);apply Z;apply aK;refine zq (k+1) ?_ ?_ ?_
 ·omega
 ·try dsimp only
  omega
 simp(disch:=omega)[or_imp,forall_and,dS,hcd,htk]
@[simp] abbrev qAr63:Cfg:=⟨[4,5,20,25],[],[],[],[]⟩
theorem Sv(l:List PI)(c:ByteArray)(σ:List (List D))(hl:l.length≤99999)(hs:cJ nP l):Ct prog 76 [.sl false (l.map cX),D.str c] σ (fun r σ'=>r= .sl true ((iY nP l c).map cX)∧σ'=σ):=by
 refine zf (rs:=[.tmp 4]) func76 ntmps76 results76 ?_;simp only [aN];refine zr qAr63 fun _ _ Z=>?_;simp(disch:=omega);apply Z;refine zr qAr63 fun _ _ Z=>?_;simp(disch:=omega);and_intros<;>(try omega);apply Z;apply aC;refine zr qAr63 fun _ _ Z=>?_;refine zs 1 fun _ Y=>?_;simp(disch:=omega);apply Y;refine aD fun _ Y=>?_;simp(disch:=omega);refine cH (aCn l _ hl) ?_;rw [pW nP hs];apply Y;simp(disch:=omega);and_intros<;>(try omega);apply Z;apply aG;refine zk [1,4,5,10,11,12] ?_;refine bI (fun(k:Nat)=> [(12,.d (.v (.int .i64 (k:Int)))),(5,.d (.sl true ((iY nP (l.take k) c).map cX)))]) [5,7,12,13,14,15,16,17,18,19,20,21,22,23,24] (fun(k:Nat)=>k≤l.length) (fun(k:Nat)=>l.length - k) (0) (by simp <;> rfl) ?_ ?_ ?_
 ·simp [iY]
 ·simp
 rintro k hk;simp only [List.cons_append,List.nil_append];have hdl:=tF nP (l.take k) c;simp only [List.length_take] at hdl;refine zr qAr63 fun _ _ Z=>?_;simp(disch:=omega);apply Z;apply aC;refine zi ?_;refine⟨fun c1=>?_,fun c1=>?_⟩
 ·try simp at c1
  apply aE;apply aA;apply aC;apply aG;refine zr qAr63 fun _ _ Z=>?_;simp(disch:=omega);and_intros<;>(try omega);apply Z;refine zr qAr63 fun _ _ Z=>?_;simp(disch:=omega);apply Z;refine zi ?_;refine⟨fun c2=>?_,fun c2=>?_⟩
  ·try simp at c2
   refine zk [1,4,5,7,10,11,12] ?_;refine zt qAr63 fun _ _ Z=>?_;simp(disch:=omega);and_intros<;>(try omega);apply Z;apply aK;apply aA;refine zk [1,4,5,10,11,12] ?_;refine zt qAr63 fun _ _ Z=>?_;simp(disch:=omega);and_intros<;>(try omega);apply Z;refine zq (k+1) ?_ ?_ ?_
   ·omega
   ·try dsimp only
    omega
   simp(disch:=omega)[rK, *]
  try simp at c2
  apply aE;apply aK;apply aA;refine zk [1,4,5,10,11,12] ?_;refine zt qAr63 fun _ _ Z=>?_;simp(disch:=omega);and_intros<;>(try omega);apply Z;refine zq (k+1) ?_ ?_ ?_
  ·omega
  ·try dsimp only
   omega
  simp(disch:=omega)[rK, *]
 try simp at c1
 apply bC;apply bB;apply bD;apply aX;apply aA;refine zr qAr63 fun _ _ Z=>?_;simp(disch:=omega);apply Z;apply aB;simp [aL];rw [List.take_of_length_le (by omega)]
theorem Iy {l:List PI} {c:ByteArray} :mW nP l c=true↔∃j,∃h:j<l.length,l[j].name=c:=by
 unfold mW;rw [List.any_eq_true];constructor
 ·rintro⟨x,hx,e⟩;obtain⟨j,hj,rfl⟩:=List.getElem_of_mem hx;exact⟨j,hj,by simpa using e⟩
 rintro⟨j,hj,e⟩;exact⟨l[j],List.getElem_mem hj,by simpa using e⟩
theorem Nn {l:List PI} {c:ByteArray} {k j:Nat} (hh:∀j (h:j<l.length),k≤j→l[j].name≠c) {hk:k - 1<l.length} (c2:¬l[k - 1].name=c)(h:j<l.length)(h2:k - 1≤j):l[j].name≠c:=by
 rcases Nat.lt_or_ge j k with h3 | h3
 ·obtain rfl:j=k - 1:=by omega
  exact c2
 exact hh j h h3
theorem aIa {l:List PI} {c:ByteArray} (h:∀j (h:j<l.length),0≤j→l[j].name≠c):mW nP l c=false:=by
 rw [← Bool.not_eq_true,Iy];rintro⟨j,hj,e⟩;exact h j hj (Nat.zero_le _) e
theorem aCz(l:List PI)(c:ByteArray)(σ:List (List D))(hl:l.length≤99999):Ct prog 75 [.sl false (l.map cX),D.str c] σ (fun r σ'=>(∃v:Int,r= .tup [D.int v,.bool (mW nP l c)])∧σ'=σ):=by
 refine zf (rs:=[.tmp 4,.tmp 5]) func75 ntmps75 results75 ?_;simp only [aN];refine aY fun _ _ Z=>?_;simp(disch:=omega)[Nat.sub_add_cancel];apply Z;apply aC;refine aY fun _ _ Z=>?_;simp(disch:=omega)[Nat.sub_add_cancel];and_intros<;>(try omega);apply Z;apply aG;refine zk [0,1,4,5,6] ?_;refine bI (fun(k:Nat)=> [(6,.d (.int ((k:Int) - 1)))]) [4,5,6,10,11,12,13,14,15,16,17,18,19,20,21,22,23,24,25] (fun(k:Nat)=>k≤l.length∧∀j (h:j<l.length),k≤j→l[j].name≠c) (fun(k:Nat)=>k) (l.length) (by simp <;> rfl) ?_ ?_ ?_
 ·simp
 ·exact⟨Nat.le_refl _,fun j h h2=>by omega⟩
 rintro k ⟨hk,hh⟩;simp only [List.cons_append,List.nil_append];have htn:1≤k→((k:Int) - 1).toNat=k - 1:=fun h=>by omega
 apply aC;refine aY fun _ _ Z=>?_;simp(disch:=omega)[Nat.sub_add_cancel];apply Z;refine zi ?_;refine⟨fun c1=>?_,fun c1=>?_⟩
 ·try simp at c1
  have hk1:1≤k:=by omega
  have htn1:=htn hk1;apply aE;apply aA;apply aC;apply aG;refine aY fun _ _ Z=>?_;simp(disch:=omega)[Nat.sub_add_cancel];and_intros<;>(try omega);apply Z;refine zi ?_;refine⟨fun c2=>?_,fun c2=>?_⟩
  ·try simp at c2
   refine zk [0,1,6] ?_;refine aY fun _ _ Z=>?_;simp(disch:=omega)[Nat.sub_add_cancel];and_intros<;>(try omega);apply Z;apply aB;apply aQ;apply aJ;apply fD;apply aQ;apply aJ;simp [aL];exact Iy.2 ⟨k - 1,by omega,c2⟩
  try simp at c2
  apply aE;apply aK;apply aA;refine zk [0,1,6] ?_;refine yL fun _ _ Z=>?_;simp(disch:=omega)[Nat.sub_add_cancel];and_intros<;>(try omega);apply Z;refine zq (k - 1) ?_ ?_ ?_
  ·exact⟨by omega,fun j h h2=>Nn hh c2 h h2⟩
  ·try dsimp only
   omega
  simp [Hg];omega
 try simp at c1
 apply bC;apply bB;apply bD;apply aX;apply aA;refine aY fun _ _ Z=>?_;simp(disch:=omega)[Nat.sub_add_cancel];apply Z;apply aB;simp [aL];exact aIa fun j h _=>hh j h (by omega)
theorem bT(l:List Int)(k:Nat):(∀d:D,d∈List.take k (List.map D.int l)→d.ncells=1)↔True:=by
 refine⟨fun _=>trivial,fun _ d hd=>?_⟩;obtain⟨a,_,rfl⟩:=List.mem_map.1 (List.mem_of_mem_take hd);rfl
theorem bV(l:List Int)(k:Nat):(∀d:D,d∈List.drop k (List.map D.int l)→d.ncells=1)↔True:=by
 refine⟨fun _=>trivial,fun _ d hd=>?_⟩;obtain⟨a,_,rfl⟩:=List.mem_map.1 (List.mem_of_mem_drop hd);rfl
theorem aA7(l:List Int)(x:Int):(l.filter fun y=> !decide (y=x)).length≤l.length:=List.length_filter_le _ _
def eP(l:List Int)(x:Int):List Int:=l.filter fun y=> !decide (y=x)
theorem Dv(l:List Int)(x:Int)(k:Nat)(h:k<l.length):eP (l.take (k+1)) x=eP (l.take k) x++if l[k]=x then [] else [l[k]]:=by
 unfold eP;rw [dL l k h,List.filter_append,List.filter_cons];by_cases e:l[k]=x <;> simp [e]
@[simp] abbrev qAr64:Cfg:=⟨[6,7,13,17],[],[],[],[]⟩
theorem Qf(l:List Int)(i:Nat)(x:Int)(σ:List (List D))(hl:l.length≤99999)(hi:i≤l.length):Ct prog 206 [.sl false (l.map D.int),D.int i,D.int x] σ (fun r σ'=>r= .sl true ((dG l i x).map D.int)∧σ'=σ):=by
 refine zf (rs:=[.tmp 6]) func206 ntmps206 results206 ?_;simp only [aN];have htl:List.take l.length (List.map D.int l)=List.map D.int l:=List.take_of_length_le (by simp);refine zr qAr64 fun _ _ Z=>?_;simp[bT,bV,or_imp,forall_and,htl];apply Z;refine zr qAr64 fun _ _ Z=>?_;simp[bT,bV,or_imp,forall_and,htl];and_intros<;>(try omega);apply Z;refine zr qAr64 fun _ _ Z=>?_;simp[bT,bV,or_imp,forall_and,htl];and_intros<;>(try omega);apply Z;refine zk [0,1,6,7] ?_;refine zr qAr64 fun _ _ Z=>?_;simp[bT,bV,or_imp,forall_and,htl];and_intros<;>(try omega);apply Z;apply aB;simp [aL,dG]
@[simp] abbrev qAr65:Cfg:=⟨[4,5,18,23],[],[],[],[]⟩
theorem xO(l:List Int)(x:Int)(σ:List (List D))(hl:l.length≤99999):Ct prog 208 [.sl false (l.map D.int),D.int x] σ (fun r σ'=>r= .sl true ((eP l x).map D.int)∧σ'=σ):=by
 refine zf (rs:=[.tmp 4]) func208 ntmps208 results208 ?_;simp only [aN];refine zr qAr65 fun _ _ Z=>?_;simp(disch:=omega);apply Z;refine zr qAr65 fun _ _ Z=>?_;simp(disch:=omega);and_intros<;>(try omega);apply Z;apply aC;refine zr qAr65 fun _ _ Z=>?_;simp(disch:=omega);and_intros<;>(try omega);apply Z;apply aG;refine zk [1,4,5,9,10,11] ?_;refine bI (fun(k:Nat)=> [(11,.d (.v (.int .i64 (k:Int)))),(5,.d (.sl true ((eP (l.take k) x).map D.int)))]) [5,7,11,12,13,14,15,16,17,18,19,20,21,22] (fun(k:Nat)=>k≤l.length) (fun(k:Nat)=>l.length - k) (0) (by simp <;> rfl) ?_ ?_ ?_
 ·simp [eP]
 ·simp
 rintro k hk;simp only [List.cons_append,List.nil_append];have hdl:=aA7 (l.take k) x;simp only [List.length_take] at hdl;have hdl2:(eP (l.take k) x).length≤k:=by unfold eP;omega
 refine zr qAr65 fun _ _ Z=>?_;simp(disch:=omega);apply Z;apply aC;refine zi ?_;refine⟨fun c1=>?_,fun c1=>?_⟩
 ·try simp at c1
  apply aE;apply aA;apply aC;apply aG;refine zr qAr65 fun _ _ Z=>?_;simp(disch:=omega);and_intros<;>(try omega);apply Z;refine zr qAr65 fun _ _ Z=>?_;simp(disch:=omega);apply Z;refine zi ?_;refine⟨fun c2=>?_,fun c2=>?_⟩
  ·try simp at c2
   refine zk [1,4,5,7,9,10,11] ?_;refine zt qAr65 fun _ _ Z=>?_;simp(disch:=omega);and_intros<;>(try omega);apply Z;apply aK;apply aA;refine zk [1,4,5,9,10,11] ?_;refine zt qAr65 fun _ _ Z=>?_;simp(disch:=omega);and_intros<;>(try omega);apply Z;refine zq (k+1) ?_ ?_ ?_
   ·omega
   ·try dsimp only
    omega
   simp(disch:=omega)[Dv, *]
  try simp at c2
  apply aE;apply aK;apply aA;refine zk [1,4,5,9,10,11] ?_;refine zt qAr65 fun _ _ Z=>?_;simp(disch:=omega);and_intros<;>(try omega);apply Z;refine zq (k+1) ?_ ?_ ?_
  ·omega
  ·try dsimp only
   omega
  simp(disch:=omega)[Dv, *]
 try simp at c1
 apply bC;apply bB;apply bD;apply aX;apply aA;refine zr qAr65 fun _ _ Z=>?_;simp(disch:=omega);apply Z;apply aB;simp [aL];rw [List.take_of_length_le (by omega)]
theorem On(a b:List Int)(σ:List (List D))(ha:a.length≤9223372036854775807)(hb:b.length≤9223372036854775807):Ct prog 17 [.sl false (a.map D.int),.sl false (b.map D.int)] σ (fun r σ'=>r= .bool (decide (a=b))∧σ'=σ):=by
 refine zf (rs:=[.tmp 4]) func17 ntmps17 results17 ?_;simp only [aN];refine aY fun _ _ Z=>?_;simp(disch:=omega);apply Z;apply aC;refine aY fun _ _ Z=>?_;simp(disch:=omega);and_intros<;>(try omega);apply Z;refine zi ?_;refine⟨fun c1=>?_,fun c1=>?_⟩
 ·try simp at c1
  refine aY fun _ _ Z=>?_;simp(disch:=omega);apply Z;apply aB;apply aJ;simp [aL];intro e;subst e;exact absurd rfl c1
 try simp at c1
 apply aE;apply aA;apply aC;refine aY fun _ _ Z=>?_;simp(disch:=omega);and_intros<;>(try omega);apply Z;apply aG;refine zk [0,1,4,12,13] ?_;refine bI (fun(k:Nat)=> [(13,.d (.int k)),(5,.d (.any))]) [4,5,13,14,15,16,17,18,19,20,21,22,23,24,25] (fun(k:Nat)=>k≤a.length∧a.take k=b.take k) (fun(k:Nat)=>a.length - k) (0) (by simp <;> rfl) ?_ ?_ ?_
 ·simp
 ·simp
 rintro k ⟨hk,hh⟩;simp only [List.cons_append,List.nil_append];refine aY fun _ _ Z=>?_;simp(disch:=omega);apply Z;apply aC;refine zi ?_;refine⟨fun c2=>?_,fun c2=>?_⟩
 ·try simp at c2
  apply aE;apply aA;apply aC;apply aG;refine aY fun _ _ Z=>?_;simp(disch:=omega);apply Z;refine zd ⟨[],[],[],[],[]⟩ [.op {},.op {},.op {},.op {},.op {},.op {},.op {},.op {},.op {}] fun all hall _ Z=>?_;refine jD 8 fun _ Y=>?_;simp(disch:=omega);and_intros<;>(try omega);apply Y;simp(disch:=omega);apply Z;refine zi ?_;refine⟨fun c3=>?_,fun c3=>?_⟩
  ·try simp at c3
   refine zk [0,1,5,12,13] ?_;refine aY fun _ _ Z=>?_;simp(disch:=omega);apply Z;apply aB;apply aQ;apply aJ;apply fD;apply aQ;apply aJ;simp [aL];intro e;subst e;exact c3 rfl
  try simp at c3
  apply aE;apply aK;apply aA;refine zk [0,1,5,12,13] ?_;refine yL fun _ _ Z=>?_;simp(disch:=omega);and_intros<;>(try omega);apply Z;refine zq (k+1) ?_ ?_ ?_
  ·exact⟨by omega,by rw [dL a k (by omega),dL b k (by omega),hh];simp [*]⟩
  ·try dsimp only
   omega
  simp(disch:=omega)
 try simp at c2
 apply bC;apply bB;apply bD;apply aX;apply aA;refine aY fun _ _ Z=>?_;simp(disch:=omega);apply Z;apply aB;simp [aL]
 rwa [List.take_of_length_le (by omega),List.take_of_length_le (by omega)] at hh
end Go.Proofs.YtbgfljpnhhdkoaaGreat
