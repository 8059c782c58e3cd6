import Derived.Test.YtbgfljpnhhdkoaaGreatWkAr5
open Go.Proofs.Tryz
namespace Go.Proofs.YtbgfljpnhhdkoaaGreat
open Go Go.Vm
set_option maxRecDepth 20000
set_option linter.all false
set_option maxHeartbeats 8000000
section
variable {o:List AT} {b:Bool} {x p:AT}
theorem vR(hb:b=false)(h:Op.bytesLess x.name.toList p.name.toList=false)(e:x.name=p.name):iF nA p (o,b) x=(o++ [p],true):=by
 have e':nA x=nA p:=e;have h2:b=false∧cS (nA x) (nA p)=false:=⟨hb,h⟩;unfold iF;dsimp only;rw [if_pos e',if_pos h2]
theorem vA(hb:b=false)(h:Op.bytesLess x.name.toList p.name.toList=false)(e:¬x.name=p.name):iF nA p (o,b) x=(o++ [p]++ [x],true):=by
 have e':¬nA x=nA p:=e;have h2:b=false∧cS (nA x) (nA p)=false:=⟨hb,h⟩;unfold iF;dsimp only;rw [if_neg e',if_pos h2]
theorem vL(h:Op.bytesLess x.name.toList p.name.toList=true)(e:x.name=p.name):iF nA p (o,b) x=(o,b):=by
 have e':nA x=nA p:=e;have h2:¬(b=false∧cS (nA x) (nA p)=false):=fun q=>by have h3:cS (nA x) (nA p)=true:=h;rw [h3] at q;cases q.2
 unfold iF;dsimp only;rw [if_pos e',if_neg h2]
theorem uR(h:Op.bytesLess x.name.toList p.name.toList=true)(e:¬x.name=p.name):iF nA p (o,b) x=(o++ [x],b):=by
 have e':¬nA x=nA p:=e;have h2:¬(b=false∧cS (nA x) (nA p)=false):=fun q=>by have h3:cS (nA x) (nA p)=true:=h;rw [h3] at q;cases q.2
 unfold iF;dsimp only;rw [if_neg e',if_neg h2]
theorem vT(h:b=true)(e:x.name=p.name):iF nA p (o,b) x=(o,b):=by
 have e':nA x=nA p:=e;have h2:¬(b=false∧cS (nA x) (nA p)=false):=fun q=>by rw [h] at q;cases q.1
 unfold iF;dsimp only;rw [if_pos e',if_neg h2]
theorem vH(h:b=true)(e:¬x.name=p.name):iF nA p (o,b) x=(o++ [x],b):=by
 have e':¬nA x=nA p:=e;have h2:¬(b=false∧cS (nA x) (nA p)=false):=fun q=>by rw [h] at q;cases q.1
 unfold iF;dsimp only;rw [if_neg e',if_neg h2]
end
@[simp] abbrev qAr61:Cfg:=⟨[4,5,25,34,41,45],[],[],[],[]⟩
theorem Gy(l:List AT)(p:AT)(σ:List (List D))(hl:l.length≤99999)(hs:cK nA l):Ct prog 72 [.sl false (l.map dB),dB p] σ (fun r σ'=>r= .sl true ((eZ nA l p).map dB)∧σ'=σ):=by
 refine zf (rs:=[.tmp 4]) func72 ntmps72 results72 ?_;simp only [aO];refine zr qAr61 fun _ _ Z=>?_;simp(disch:=omega)[or_imp,forall_and];apply Z;refine zr qAr61 fun _ _ Z=>?_;simp(disch:=omega)[or_imp,forall_and];and_intros<;>(try omega);apply Z;refine zr qAr61 fun _ _ Z=>?_;simp(disch:=omega)[or_imp,forall_and];apply Z;apply aC;refine zr qAr61 fun _ _ Z=>?_;simp(disch:=omega)[or_imp,forall_and];and_intros<;>(try omega);apply Z;apply aH;refine zk [3,4,5,6,10,11,12] ?_;refine bE (fun(k:Nat)=> [(12,.d (.v (.int .i64 (k:Int)))),(5,.d (.sl true ((lJ nA (l.take k) p).1.map dB))),(6,.d (.bool (lJ nA (l.take k) p).2))]) [5,6,8,12,13,14,15,16,17,18,19,20,21,22,23,24,25,26,27,28,29,30,31,32,33,34,35,36,37,38] (fun(k:Nat)=>k≤l.length) (fun(k:Nat)=>l.length - k) (0) (by simp <;> rfl) ?_ ?_ ?_
 ·simp [lJ]
 ·simp
 rintro k hk;simp only [List.cons_append,List.nil_append];have hpl:=Uc nA (l.take k) p;simp only [List.length_take] at hpl;generalize hps:lJ nA (l.take k) p=s at hpl ⊢;obtain⟨o,b⟩:=s;have hpl2:o.length≤k+1:=by simp only at hpl;split at hpl <;> omega
 dsimp only;refine zr qAr61 fun _ _ Z=>?_;simp(disch:=omega)[or_imp,forall_and];apply Z;apply aC;refine zi ?_;refine⟨fun c1=>?_,fun c1=>?_⟩
 ·try simp at c1
  apply aE;apply aA;apply aC;apply aH;refine zr qAr61 fun _ _ Z=>?_;simp(disch:=omega)[or_imp,forall_and];and_intros<;>(try omega);apply Z;apply aC;refine kF qAr61 fun all hall _ Z=>?_;have ga2:aN all 2=some 18:=hall 2;refine zs 3 fun _ Y=>?_;simp(disch:=omega)[or_imp,forall_and,ga2];apply Y;refine aR 18 (by simp <;> rfl) ?_;refine⟨fun g2=>?_,fun g2=>?_⟩
  ·try simp at g2
   simp(disch:=omega)[or_imp,forall_and,ga2];apply Z;refine zi ?_;refine⟨fun c3=>?_,fun c3=>?_⟩
   ·try simp at c3
    refine zk [3,4,5,6,8,10,11,12] ?_;refine zr qAr61 fun _ _ Z=>?_;simp(disch:=omega)[or_imp,forall_and];and_intros<;>(try omega);apply Z;refine zk [3,4,5,6,8,10,11,12] ?_;refine zt qAr61 fun _ _ Z=>?_;simp(disch:=omega)[or_imp,forall_and];apply Z;apply aA;refine zr qAr61 fun _ _ Z=>?_;simp(disch:=omega)[or_imp,forall_and];apply Z;refine zi ?_;refine⟨fun c4=>?_,fun c4=>?_⟩
    ·try simp at c4
     refine zk [3,4,5,6,8,10,11,12] ?_;refine zt qAr61 fun _ _ Z=>?_;simp(disch:=omega)[or_imp,forall_and];and_intros<;>(try omega);apply Z;apply aL;apply aA;refine zk [3,4,5,6,10,11,12] ?_;refine zt qAr61 fun _ _ Z=>?_;simp(disch:=omega)[or_imp,forall_and];and_intros<;>(try omega);apply Z;refine zq (k+1) ?_ ?_ ?_
     ·omega
     ·try dsimp only
      omega
     rw [kG nA l p k (by omega),hps];first | rw [vR (by assumption) (by assumption) (by assumption)] | rw [vA (by assumption) (by assumption) (by assumption)] | rw [vL (by assumption) (by assumption)] | rw [uR (by assumption) (by assumption)] | rw [vT (by first | assumption | simpa using g2) (by assumption)] | rw [vH (by first | assumption | simpa using g2) (by assumption)]
     simp [*]
    try simp at c4
    apply aE;apply aL;apply aA;refine zk [3,4,5,6,10,11,12] ?_;refine zt qAr61 fun _ _ Z=>?_;simp(disch:=omega)[or_imp,forall_and];and_intros<;>(try omega);apply Z;refine zq (k+1) ?_ ?_ ?_
    ·omega
    ·try dsimp only
     omega
    rw [kG nA l p k (by omega),hps];first | rw [vR (by assumption) (by assumption) (by assumption)] | rw [vA (by assumption) (by assumption) (by assumption)] | rw [vL (by assumption) (by assumption)] | rw [uR (by assumption) (by assumption)] | rw [vT (by first | assumption | simpa using g2) (by assumption)] | rw [vH (by first | assumption | simpa using g2) (by assumption)]
    simp [*]
   try simp at c3
   apply aE;apply aA;refine zk [3,4,5,6,8,10,11,12] ?_;refine zr qAr61 fun _ _ Z=>?_;simp(disch:=omega)[or_imp,forall_and];apply Z;refine zi ?_;refine⟨fun c5=>?_,fun c5=>?_⟩
   ·try simp at c5
    refine zk [3,4,5,6,8,10,11,12] ?_;refine zt qAr61 fun _ _ Z=>?_;simp(disch:=omega)[or_imp,forall_and];and_intros<;>(try omega);apply Z;apply aL;apply aA;refine zk [3,4,5,6,10,11,12] ?_;refine zt qAr61 fun _ _ Z=>?_;simp(disch:=omega)[or_imp,forall_and];and_intros<;>(try omega);apply Z;refine zq (k+1) ?_ ?_ ?_
    ·omega
    ·try dsimp only
     omega
    rw [kG nA l p k (by omega),hps];first | rw [vR (by assumption) (by assumption) (by assumption)] | rw [vA (by assumption) (by assumption) (by assumption)] | rw [vL (by assumption) (by assumption)] | rw [uR (by assumption) (by assumption)] | rw [vT (by first | assumption | simpa using g2) (by assumption)] | rw [vH (by first | assumption | simpa using g2) (by assumption)]
    simp [*]
   try simp at c5
   apply aE;apply aL;apply aA;refine zk [3,4,5,6,10,11,12] ?_;refine zt qAr61 fun _ _ Z=>?_;simp(disch:=omega)[or_imp,forall_and];and_intros<;>(try omega);apply Z;refine zq (k+1) ?_ ?_ ?_
   ·omega
   ·try dsimp only
    omega
   rw [kG nA l p k (by omega),hps];first | rw [vR (by assumption) (by assumption) (by assumption)] | rw [vA (by assumption) (by assumption) (by assumption)] | rw [vL (by assumption) (by assumption)] | rw [uR (by assumption) (by assumption)] | rw [vT (by first | assumption | simpa using g2) (by assumption)] | rw [vH (by first | assumption | simpa using g2) (by assumption)]
   simp [*]
  try simp at g2
  simp(disch:=omega)[or_imp,forall_and,ga2];apply Z;refine bD (t:=false) (by simp) (fun h=>by cases h) (fun _=>?_);apply aE;apply aA;refine zk [3,4,5,6,8,10,11,12] ?_;refine zr qAr61 fun _ _ Z=>?_;simp(disch:=omega)[or_imp,forall_and];apply Z;refine zi ?_;refine⟨fun c6=>?_,fun c6=>?_⟩
  ·try simp at c6
   refine zk [3,4,5,6,8,10,11,12] ?_;refine zt qAr61 fun _ _ Z=>?_;simp(disch:=omega)[or_imp,forall_and];and_intros<;>(try omega);apply Z;apply aL;apply aA;refine zk [3,4,5,6,10,11,12] ?_;refine zt qAr61 fun _ _ Z=>?_;simp(disch:=omega)[or_imp,forall_and];and_intros<;>(try omega);apply Z;refine zq (k+1) ?_ ?_ ?_
   ·omega
   ·try dsimp only
    omega
   rw [kG nA l p k (by omega),hps];first | rw [vR (by assumption) (by assumption) (by assumption)] | rw [vA (by assumption) (by assumption) (by assumption)] | rw [vL (by assumption) (by assumption)] | rw [uR (by assumption) (by assumption)] | rw [vT (by first | assumption | simpa using g2) (by assumption)] | rw [vH (by first | assumption | simpa using g2) (by assumption)]
   simp [*]
  try simp at c6
  apply aE;apply aL;apply aA;refine zk [3,4,5,6,10,11,12] ?_;refine zt qAr61 fun _ _ Z=>?_;simp(disch:=omega)[or_imp,forall_and];and_intros<;>(try omega);apply Z;refine zq (k+1) ?_ ?_ ?_
  ·omega
  ·try dsimp only
   omega
  rw [kG nA l p k (by omega),hps];first | rw [vR (by assumption) (by assumption) (by assumption)] | rw [vA (by assumption) (by assumption) (by assumption)] | rw [vL (by assumption) (by assumption)] | rw [uR (by assumption) (by assumption)] | rw [vT (by first | assumption | simpa using g2) (by assumption)] | rw [vH (by first | assumption | simpa using g2) (by assumption)]
  simp [*]
 try simp at c1
 obtain rfl:k=l.length:=by omega
 rw [List.take_length] at hps;apply bA;apply aZ;apply bB;apply aW;apply aA;apply aC;refine zr qAr61 fun _ _ Z=>?_;simp(disch:=omega)[or_imp,forall_and];apply Z;refine zi ?_;refine⟨fun c7=>?_,fun c7=>?_⟩
 ·try simp at c7
  refine zt qAr61 fun _ _ Z=>?_;simp(disch:=omega)[or_imp,forall_and];and_intros<;>(try omega);apply Z;apply aA;refine zk [4,5] ?_;refine zr qAr61 fun _ _ Z=>?_;simp(disch:=omega)[or_imp,forall_and];apply Z;apply aB;simp [aJ];rw [← Dn nA hs p,hps];simp [Ry, *]
 try simp at c7
 apply aE;apply aA;refine zr qAr61 fun _ _ Z=>?_;simp(disch:=omega)[or_imp,forall_and];apply Z;apply aB;simp [aJ];rw [← Dn nA hs p,hps];simp [Ry, *]
def Gv(l:List PI)(k j:Nat):Option PI:=Bn nP (l.take j) ((jG nP l).take k)
def pV(l:List PI)(k j:Nat):PI:=(Gv l k j).getD ⟨⟨#[]⟩,0⟩
def ahd(l:List PI)(k:Nat)(c:ByteArray):Bool:=lH nP ((jG nP l).take k) c
theorem aKa(l:List PI)(k:Nat)(c:ByteArray)(h:k<(jG nP l).length):ahd l (k+1) c=cS (jG nP l)[k].name c:=by
 unfold ahd lH;rw [dA (jG nP l) k h,List.getLast?_concat]
theorem uK(l:List PI)(k j:Nat)(h:j<l.length):Gv l k (j+1)=if ahd l k l[j].name=true then(match Gv l k j with | none=>some l[j] | some q=>if cS (nP q) (nP l[j])=true then some q else some l[j])else Gv l k j:=by
 have e:=Tj nP l ((jG nP l).take k) j h;unfold Gv ahd;rw [e];cases Bn nP (l.take j) ((jG nP l).take k) <;> rfl
theorem nB {l:List PI} {k:Nat} (g:¬k=0)(hk:k≤(jG nP l).length)(c:ByteArray):ahd l k c=cS ((jG nP l)[k - 1]'(by omega)).name c:=by
 obtain⟨m,rfl⟩:∃m,k=m+1:=⟨k - 1,by omega⟩;exact aKa l m c (by omega)
theorem dQ(l:List PI)(k:Nat):(∀d:D,d∈List.take k (List.map cW l)→d.ncells=2)↔True:=by
 refine⟨fun _=>trivial,fun _ d hd=>?_⟩;obtain⟨a,_,rfl⟩:=List.mem_map.1 (List.mem_of_mem_take hd);rfl
theorem oD {l:List PI} {k j:Nat} (h:j<l.length)(ha:ahd l k l[j].name=true)(hc:(Gv l k j).isSome=false∨cS (pV l k j).name l[j].name=false):Gv l k (j+1)=some l[j]:=by
 rw [uK l k j h,if_pos ha];unfold pV at hc;cases hq:Gv l k j with
 | none=>rfl
 | some q=>
  rw [hq] at hc;have:cS (nP q) (nP l[j])=false:=by simpa using hc
  simp [this]
theorem oJ {l:List PI} {k j:Nat} (h:j<l.length)(ha:ahd l k l[j].name=false):Gv l k (j+1)=Gv l k j:=by
 rw [uK l k j h,if_neg (by rw [ha];simp)]
theorem oE {l:List PI} {k j:Nat} (h:j<l.length)(h1:(Gv l k j).isSome=true)(h2:cS (pV l k j).name l[j].name=true):Gv l k (j+1)=Gv l k j:=by
 by_cases ha:ahd l k l[j].name=true
 ·rw [uK l k j h,if_pos ha];unfold pV at h2;cases hq:Gv l k j with
  | none=>rw [hq] at h1;cases h1
  | some q=>
   rw [hq] at h2;have:cS (nP q) (nP l[j])=true:=h2;simp [this]
 rw [uK l k j h,if_neg ha]
theorem aFt {l:List PI} {k:Nat} (hk:k≤(jG nP l).length):Gv l k l.length=(jG nP l)[k]?:=by
 unfold Gv;rw [List.take_length];exact aCd nP l k hk
theorem aGd(l:List PI)(k:Nat):Gv l k 0=none:=aHv nP l _
@[simp] abbrev qAr62:Cfg:=⟨[2,3,48,49],[],[],[],[]⟩
theorem Yw(l:List PI)(σ:List (List D))(hl:l.length≤99999):Ct prog 73 [.sl false (l.map cW)] σ (fun r σ'=>r= .sl true ((jG nP l).map cW)∧σ'=σ):=by
 refine zf (rs:=[.tmp 2]) func73 ntmps73 results73 ?_;simp only [aO];refine zr qAr62 fun _ _ Z=>?_;simp(disch:=omega)[or_imp,forall_and,dQ];apply Z;refine zr qAr62 fun _ _ Z=>?_;simp(disch:=omega)[or_imp,forall_and,dQ];and_intros<;>(try omega);apply Z;apply aH;refine zk [0,2,3] ?_;refine bE (fun(k:Nat)=> [(3,.d (.sl true (((jG nP l).take k).map cW)))]) [2,3,4,5,7,8,10,11,12,13,14,15,16,17,18,19,20,21,22,23,24,25,26,27,28,29,30,31,32,33,34,35,36,37,38,39,40,41,42,43,44,45,46,47,48,49,50,51,52] (fun(k:Nat)=>k≤(jG nP l).length) (fun(k:Nat)=>(jG nP l).length - k) (0) (by simp <;> rfl) ?_ ?_ ?_
 ·simp
 ·simp
 rintro k hk;simp only [List.cons_append,List.nil_append];have hol:=lO nP l;have hlk:((jG nP l).take k).length=k:=by simp;omega
 apply aH;refine zr qAr62 fun _ _ Z=>?_;simp(disch:=omega)[or_imp,forall_and,dQ];apply Z;refine zr qAr62 fun _ _ Z=>?_;simp(disch:=omega)[or_imp,forall_and,dQ];apply Z;apply aC;refine zr qAr62 fun _ _ Z=>?_;simp(disch:=omega)[or_imp,forall_and,dQ];and_intros<;>(try omega);apply Z;apply aH;refine zk [0,3,4,5,11,12,13] ?_;refine nQ (fun(j:Nat)=> [(13,.d (.v (.int .i64 (j:Int)))),(4,.d (.bool (Gv l k j).isSome)),(8,.d (.any))]) (fun(j:Nat)=> [(0, [.v (.string ((pV l k j).name)),.v (.int .i64 ((pV l k j).value))])]) (fun(j:Nat)=> []) [4,7,8,13,14,15,16,17,18,19,20,21,22,23,24,25,26,27,28,29,30,31,32,33,34,35,36,37,38,39,40,41,42,43,44,45] (fun(j:Nat)=>j≤l.length) (fun(j:Nat)=>l.length - j) (0) (by simp <;> rfl) ?_ (by simp [pV,aGd]) (by simp) ?_ ?_
 ·simp [aGd,pV]
 ·simp
 rintro j hj;simp only [List.cons_append,List.nil_append,nE,lU,List.set_cons_zero,List.set_cons_succ];refine zr qAr62 fun _ _ Z=>?_;simp(disch:=omega)[or_imp,forall_and,dQ];apply Z;apply aC;refine zi ?_;refine⟨fun c1=>?_,fun c1=>?_⟩
 ·try simp at c1
  apply aE;apply aA;apply aC;apply aH;refine zr qAr62 fun _ _ Z=>?_;simp(disch:=omega)[or_imp,forall_and,dQ];and_intros<;>(try omega);apply Z;refine zk [0,3,4,5,7,8,11,12,13] ?_;refine zd qAr62 [.op {},.op {},.op {},.op {},.op {},.op {rL:=true},.op {},.op {},.op {},.op {},.op {},.op {},.op {},.op {},.op {},.op {}] fun all hall _ Z=>?_;have ga3:aN all 3=some 20:=hall 3;refine dJ 4 fun _ Y=>?_;simp(disch:=omega)[or_imp,forall_and,dQ,ga3];and_intros<;>(try omega);apply Y;refine bN 20 (by simp <;> rfl) ?_;refine⟨fun g2=>?_,fun g2=>?_⟩
  ·try simp at g2
   refine dJ 8 fun _ Y=>?_;simp(disch:=omega)[or_imp,forall_and,dQ,ga3];and_intros<;>(try omega);apply Y;simp(disch:=omega)[or_imp,forall_and,dQ,ga3];apply Z;refine zk [0,3,4,5,7,8,11,12,13] ?_;refine kF qAr62 fun all hall _ Z=>?_;have ga1:aN all 1=some 33:=hall 1;have ga4:aN all 4=some 36:=hall 4;refine zs 2 fun _ Y=>?_;simp(disch:=omega)[or_imp,forall_and,dQ,ga1,ga4];apply Y;refine zs 3 fun _ Y=>?_;simp(disch:=omega)[or_imp,forall_and,dQ,ga1,ga4];apply Y;refine aR 36 (by simp <;> rfl) ?_;refine⟨fun g3=>?_,fun g3=>?_⟩
   ·try simp at g3
    simp(disch:=omega)[or_imp,forall_and,dQ,ga1,ga4];apply Z;refine bD (t:=true) (by simp) (fun _=>?_) (fun h=>by cases h);refine zk [0,3,4,5,7,8,11,12,13] ?_;refine zr qAr62 fun _ _ Z=>?_;simp(disch:=omega)[or_imp,forall_and,dQ];apply Z;refine zt qAr62 fun _ _ Z=>?_;simp(disch:=omega)[or_imp,forall_and,dQ];apply Z;apply aL;apply aA;refine zt qAr62 fun _ _ Z=>?_;simp(disch:=omega)[or_imp,forall_and,dQ];and_intros<;>(try omega);apply Z;first | have hcn:=oD (k:=k) c1 (by first | (rw [show k=0 from g2];rfl) | (rw [nB g2 hk];exact g5)) (by first | exact .inl (by rw [g3];rfl) | exact .inl (by rw [g6];rfl) | exact .inr c4 | exact .inr c7) | have hcn:=oE (k:=k) c1 (by first | exact g3 | exact g6) (by first | exact c4 | exact c7) | have hcn:=oJ (k:=k) c1 (by rw [nB g2 hk];exact g5)
    refine dU (j+1) ?_ ?_ (dG rfl ?_ (by simp [pV,hcn]) (by simp))
    ·omega
    ·try dsimp only
     omega
    simp(disch:=omega)[or_imp,forall_and,dQ,hcn]
   try simp at g3
   simp(disch:=omega)[or_imp,forall_and,dQ,ga1,ga4];apply Z;refine zi ?_;refine⟨fun c4=>?_,fun c4=>?_⟩
   ·try simp at c4
    refine zk [0,3,4,5,7,8,11,12,13] ?_;refine zr qAr62 fun _ _ Z=>?_;simp(disch:=omega)[or_imp,forall_and,dQ];apply Z;refine zt qAr62 fun _ _ Z=>?_;simp(disch:=omega)[or_imp,forall_and,dQ];apply Z;apply aL;apply aA;refine zt qAr62 fun _ _ Z=>?_;simp(disch:=omega)[or_imp,forall_and,dQ];and_intros<;>(try omega);apply Z;first | have hcn:=oD (k:=k) c1 (by first | (rw [show k=0 from g2];rfl) | (rw [nB g2 hk];exact g5)) (by first | exact .inl (by rw [g3];rfl) | exact .inl (by rw [g6];rfl) | exact .inr c4 | exact .inr c7) | have hcn:=oE (k:=k) c1 (by first | exact g3 | exact g6) (by first | exact c4 | exact c7) | have hcn:=oJ (k:=k) c1 (by rw [nB g2 hk];exact g5)
    refine dU (j+1) ?_ ?_ (dG rfl ?_ (by simp [pV,hcn]) (by simp))
    ·omega
    ·try dsimp only
     omega
    simp(disch:=omega)[or_imp,forall_and,dQ,hcn]
   try simp at c4
   apply aE;apply aL;apply aA;refine zk [0,3,4,5,8,11,12,13] ?_;refine zt qAr62 fun _ _ Z=>?_;simp(disch:=omega)[or_imp,forall_and,dQ];and_intros<;>(try omega);apply Z;first | have hcn:=oD (k:=k) c1 (by first | (rw [show k=0 from g2];rfl) | (rw [nB g2 hk];exact g5)) (by first | exact .inl (by rw [g3];rfl) | exact .inl (by rw [g6];rfl) | exact .inr c4 | exact .inr c7) | have hcn:=oE (k:=k) c1 (by first | exact g3 | exact g6) (by first | exact c4 | exact c7) | have hcn:=oJ (k:=k) c1 (by rw [nB g2 hk];exact g5)
   refine dU (j+1) ?_ ?_ (dG rfl ?_ (by simp [pV,hcn]) (by simp))
   ·omega
   ·try dsimp only
    omega
   simp(disch:=omega)[or_imp,forall_and,dQ,hcn]
  try simp at g2
  refine dJ 8 fun _ Y=>?_;simp(disch:=omega)[or_imp,forall_and,dQ,ga3];and_intros<;>(try omega);apply Y;simp(disch:=omega)[or_imp,forall_and,dQ,ga3];apply Z;refine zk [0,3,4,5,7,8,11,12,13] ?_;refine kF qAr62 fun all hall _ Z=>?_;have ga1:aN all 1=some 33:=hall 1;have ga4:aN all 4=some 36:=hall 4;refine zs 2 fun _ Y=>?_;simp(disch:=omega)[or_imp,forall_and,dQ,ga1,ga4];apply Y;refine aR 33 (by simp <;> rfl) ?_;refine⟨fun g5=>?_,fun g5=>?_⟩
  ·try simp at g5
   refine zs 3 fun _ Y=>?_;simp(disch:=omega)[or_imp,forall_and,dQ,ga1,ga4];apply Y;refine aR 36 (by simp <;> rfl) ?_;refine⟨fun g6=>?_,fun g6=>?_⟩
   ·try simp at g6
    simp(disch:=omega)[or_imp,forall_and,dQ,ga1,ga4];apply Z;refine bD (t:=true) (by simp) (fun _=>?_) (fun h=>by cases h);refine zk [0,3,4,5,7,8,11,12,13] ?_;refine zr qAr62 fun _ _ Z=>?_;simp(disch:=omega)[or_imp,forall_and,dQ];apply Z;refine zt qAr62 fun _ _ Z=>?_;simp(disch:=omega)[or_imp,forall_and,dQ];apply Z;apply aL;apply aA;refine zt qAr62 fun _ _ Z=>?_;simp(disch:=omega)[or_imp,forall_and,dQ];and_intros<;>(try omega);apply Z;first | have hcn:=oD (k:=k) c1 (by first | (rw [show k=0 from g2];rfl) | (rw [nB g2 hk];exact g5)) (by first | exact .inl (by rw [g3];rfl) | exact .inl (by rw [g6];rfl) | exact .inr c4 | exact .inr c7) | have hcn:=oE (k:=k) c1 (by first | exact g3 | exact g6) (by first | exact c4 | exact c7) | have hcn:=oJ (k:=k) c1 (by rw [nB g2 hk];exact g5)
    refine dU (j+1) ?_ ?_ (dG rfl ?_ (by simp [pV,hcn]) (by simp))
    ·omega
    ·try dsimp only
     omega
    simp(disch:=omega)[or_imp,forall_and,dQ,hcn]
   try simp at g6
   simp(disch:=omega)[or_imp,forall_and,dQ,ga1,ga4];apply Z;refine zi ?_;refine⟨fun c7=>?_,fun c7=>?_⟩
   ·try simp at c7
    refine zk [0,3,4,5,7,8,11,12,13] ?_;refine zr qAr62 fun _ _ Z=>?_;simp(disch:=omega)[or_imp,forall_and,dQ];apply Z;refine zt qAr62 fun _ _ Z=>?_;simp(disch:=omega)[or_imp,forall_and,dQ];apply Z;apply aL;apply aA;refine zt qAr62 fun _ _ Z=>?_;simp(disch:=omega)[or_imp,forall_and,dQ];and_intros<;>(try omega);apply Z;first | have hcn:=oD (k:=k) c1 (by first | (rw [show k=0 from g2];rfl) | (rw [nB g2 hk];exact g5)) (by first | exact .inl (by rw [g3];rfl) | exact .inl (by rw [g6];rfl) | exact .inr c4 | exact .inr c7) | have hcn:=oE (k:=k) c1 (by first | exact g3 | exact g6) (by first | exact c4 | exact c7) | have hcn:=oJ (k:=k) c1 (by rw [nB g2 hk];exact g5)
    refine dU (j+1) ?_ ?_ (dG rfl ?_ (by simp [pV,hcn]) (by simp))
    ·omega
    ·try dsimp only
     omega
    simp(disch:=omega)[or_imp,forall_and,dQ,hcn]
   try simp at c7
   apply aE;apply aL;apply aA;refine zk [0,3,4,5,8,11,12,13] ?_;refine zt qAr62 fun _ _ Z=>?_;simp(disch:=omega)[or_imp,forall_and,dQ];and_intros<;>(try omega);apply Z;first | have hcn:=oD (k:=k) c1 (by first | (rw [show k=0 from g2];rfl) | (rw [nB g2 hk];exact g5)) (by first | exact .inl (by rw [g3];rfl) | exact .inl (by rw [g6];rfl) | exact .inr c4 | exact .inr c7) | have hcn:=oE (k:=k) c1 (by first | exact g3 | exact g6) (by first | exact c4 | exact c7) | have hcn:=oJ (k:=k) c1 (by rw [nB g2 hk];exact g5)
   refine dU (j+1) ?_ ?_ (dG rfl ?_ (by simp [pV,hcn]) (by simp))
   ·omega
   ·try dsimp only
    omega
   simp(disch:=omega)[or_imp,forall_and,dQ,hcn]
  try simp at g5
  refine zs 8 fun _ Y=>?_;simp(disch:=omega)[or_imp,forall_and,dQ,ga1,ga4];and_intros<;>(try omega);apply Y;simp(disch:=omega)[or_imp,forall_and,dQ,ga1,ga4];apply Z;refine bD (t:=false) (by simp) (fun h=>by cases h) (fun _=>?_);apply aE;apply aL;apply aA;refine zk [0,3,4,5,8,11,12,13] ?_;refine zt qAr62 fun _ _ Z=>?_;simp(disch:=omega)[or_imp,forall_and,dQ];and_intros<;>(try omega);apply Z;first | have hcn:=oD (k:=k) c1 (by first | (rw [show k=0 from g2];rfl) | (rw [nB g2 hk];exact g5)) (by first | exact .inl (by rw [g3];rfl) | exact .inl (by rw [g6];rfl) | exact .inr c4 | exact .inr c7) | have hcn:=oE (k:=k) c1 (by first | exact g3 | exact g6) (by first | exact c4 | exact c7) | have hcn:=oJ (k:=k) c1 (by rw [nB g2 hk];exact g5)
  refine dU (j+1) ?_ ?_ (dG rfl ?_ (by simp [pV,hcn]) (by simp))
  ·omega
  ·try dsimp only
   omega
  simp(disch:=omega)[or_imp,forall_and,dQ,hcn]
 try simp at c1
 obtain rfl:j=l.length:=by omega
 have hce:=aFt hk;apply bA;apply aZ;apply bB;apply aW;apply aA;apply aC;refine zr qAr62 fun _ _ Z=>?_;simp(disch:=omega)[or_imp,forall_and,dQ];apply Z;refine zi ?_;refine⟨fun c8=>?_,fun c8=>?_⟩
 ·try simp at c8
  refine zr qAr62 fun _ _ Z=>?_;simp(disch:=omega)[or_imp,forall_and,dQ];apply Z;apply aB;apply aI;apply aQ;apply eH;apply aQ;simp [aJ];rw [hce] at c8;rw [List.take_of_length_le (by simpa using List.getElem?_eq_none_iff.1 c8)]
 try simp at c8
 have hk2:k<(jG nP l).length:=by
   rcases Nat.lt_or_ge k (jG nP l).length with h | h
   ·exact h
   rw [hce,List.getElem?_eq_none h] at c8;exact absurd c8 (by simp)
 have hcd:pV l k l.length=(jG nP l)[k]:=by unfold pV;rw [hce,List.getElem?_eq_getElem hk2];rfl
 have htk:List.take (k+1) (List.map cW (jG nP l))=List.take k (List.map cW (jG nP l))++ [cW (jG nP l)[k]]:=by rw [dA _ k (by simpa using hk2),List.getElem_map]
 apply aE;apply aA;refine zt qAr62 fun _ _ Z=>?_;simp(disch:=omega)[or_imp,forall_and,dQ];and_intros<;>(try omega);apply Z;apply aL;refine zq (k+1) ?_ ?_ ?_
 ·omega
 ·try dsimp only
  omega
 simp(disch:=omega)[or_imp,forall_and,dQ,hcd,htk]
@[simp] abbrev qAr63:Cfg:=⟨[4,5,20,25],[],[],[],[]⟩
theorem Ul(l:List PI)(c:ByteArray)(σ:List (List D))(hl:l.length≤99999)(hs:cK nP l):Ct prog 76 [.sl false (l.map cW),D.str c] σ (fun r σ'=>r= .sl true ((jA nP l c).map cW)∧σ'=σ):=by
 refine zf (rs:=[.tmp 4]) func76 ntmps76 results76 ?_;simp only [aO];refine zr qAr63 fun _ _ Z=>?_;simp(disch:=omega);apply Z;refine zr qAr63 fun _ _ Z=>?_;simp(disch:=omega);and_intros<;>(try omega);apply Z;apply aC;refine zr qAr63 fun _ _ Z=>?_;refine zs 1 fun _ Y=>?_;simp(disch:=omega);apply Y;refine aD fun _ Y=>?_;simp(disch:=omega);refine cD (Yw l _ hl) ?_;rw [qM nP hs];apply Y;simp(disch:=omega);and_intros<;>(try omega);apply Z;apply aH;refine zk [1,4,5,10,11,12] ?_;refine bE (fun(k:Nat)=> [(12,.d (.v (.int .i64 (k:Int)))),(5,.d (.sl true ((jA nP (l.take k) c).map cW)))]) [5,7,12,13,14,15,16,17,18,19,20,21,22,23,24] (fun(k:Nat)=>k≤l.length) (fun(k:Nat)=>l.length - k) (0) (by simp <;> rfl) ?_ ?_ ?_
 ·simp [jA]
 ·simp
 rintro k hk;simp only [List.cons_append,List.nil_append];have hdl:=sT nP (l.take k) c;simp only [List.length_take] at hdl;refine zr qAr63 fun _ _ Z=>?_;simp(disch:=omega);apply Z;apply aC;refine zi ?_;refine⟨fun c1=>?_,fun c1=>?_⟩
 ·try simp at c1
  apply aE;apply aA;apply aC;apply aH;refine zr qAr63 fun _ _ Z=>?_;simp(disch:=omega);and_intros<;>(try omega);apply Z;refine zr qAr63 fun _ _ Z=>?_;simp(disch:=omega);apply Z;refine zi ?_;refine⟨fun c2=>?_,fun c2=>?_⟩
  ·try simp at c2
   refine zk [1,4,5,7,10,11,12] ?_;refine zt qAr63 fun _ _ Z=>?_;simp(disch:=omega);and_intros<;>(try omega);apply Z;apply aL;apply aA;refine zk [1,4,5,10,11,12] ?_;refine zt qAr63 fun _ _ Z=>?_;simp(disch:=omega);and_intros<;>(try omega);apply Z;refine zq (k+1) ?_ ?_ ?_
   ·omega
   ·try dsimp only
    omega
   simp(disch:=omega)[rB, *]
  try simp at c2
  apply aE;apply aL;apply aA;refine zk [1,4,5,10,11,12] ?_;refine zt qAr63 fun _ _ Z=>?_;simp(disch:=omega);and_intros<;>(try omega);apply Z;refine zq (k+1) ?_ ?_ ?_
  ·omega
  ·try dsimp only
   omega
  simp(disch:=omega)[rB, *]
 try simp at c1
 apply bA;apply aZ;apply bB;apply aW;apply aA;refine zr qAr63 fun _ _ Z=>?_;simp(disch:=omega);apply Z;apply aB;simp [aJ];rw [List.take_of_length_le (by omega)]
theorem Ir {l:List PI} {c:ByteArray} :mU nP l c=true↔∃j,∃h:j<l.length,l[j].name=c:=by
 unfold mU;rw [List.any_eq_true];constructor
 ·rintro⟨x,hx,e⟩;obtain⟨j,hj,rfl⟩:=List.getElem_of_mem hx;exact⟨j,hj,by simpa using e⟩
 rintro⟨j,hj,e⟩;exact⟨l[j],List.getElem_mem hj,by simpa using e⟩
theorem Kr {l:List PI} {c:ByteArray} {k j:Nat} (hh:∀j (h:j<l.length),k≤j→l[j].name≠c) {hk:k - 1<l.length} (c2:¬l[k - 1].name=c)(h:j<l.length)(h2:k - 1≤j):l[j].name≠c:=by
 rcases Nat.lt_or_ge j k with h3 | h3
 ·obtain rfl:j=k - 1:=by omega
  exact c2
 exact hh j h h3
theorem aIp {l:List PI} {c:ByteArray} (h:∀j (h:j<l.length),0≤j→l[j].name≠c):mU nP l c=false:=by
 rw [← Bool.not_eq_true,Ir];rintro⟨j,hj,e⟩;exact h j hj (Nat.zero_le _) e
theorem Zy(l:List PI)(c:ByteArray)(σ:List (List D))(hl:l.length≤99999):Ct prog 75 [.sl false (l.map cW),D.str c] σ (fun r σ'=>(∃v:Int,r= .tup [D.int v,.bool (mU nP l c)])∧σ'=σ):=by
 refine zf (rs:=[.tmp 4,.tmp 5]) func75 ntmps75 results75 ?_;simp only [aO];refine aV fun _ _ Z=>?_;simp(disch:=omega)[Nat.sub_add_cancel];apply Z;apply aC;refine aV fun _ _ Z=>?_;simp(disch:=omega)[Nat.sub_add_cancel];and_intros<;>(try omega);apply Z;apply aH;refine zk [0,1,4,5,6] ?_;refine bE (fun(k:Nat)=> [(6,.d (.int ((k:Int) - 1)))]) [4,5,6,10,11,12,13,14,15,16,17,18,19,20,21,22,23,24,25] (fun(k:Nat)=>k≤l.length∧∀j (h:j<l.length),k≤j→l[j].name≠c) (fun(k:Nat)=>k) (l.length) (by simp <;> rfl) ?_ ?_ ?_
 ·simp
 ·exact⟨Nat.le_refl _,fun j h h2=>by omega⟩
 rintro k ⟨hk,hh⟩;simp only [List.cons_append,List.nil_append];have htn:1≤k→((k:Int) - 1).toNat=k - 1:=fun h=>by omega
 apply aC;refine aV fun _ _ Z=>?_;simp(disch:=omega)[Nat.sub_add_cancel];apply Z;refine zi ?_;refine⟨fun c1=>?_,fun c1=>?_⟩
 ·try simp at c1
  have hk1:1≤k:=by omega
  have htn1:=htn hk1;apply aE;apply aA;apply aC;apply aH;refine aV fun _ _ Z=>?_;simp(disch:=omega)[Nat.sub_add_cancel];and_intros<;>(try omega);apply Z;refine zi ?_;refine⟨fun c2=>?_,fun c2=>?_⟩
  ·try simp at c2
   refine zk [0,1,6] ?_;refine aV fun _ _ Z=>?_;simp(disch:=omega)[Nat.sub_add_cancel];and_intros<;>(try omega);apply Z;apply aB;apply aQ;apply aI;apply eH;apply aQ;apply aI;simp [aJ];exact Ir.2 ⟨k - 1,by omega,c2⟩
  try simp at c2
  apply aE;apply aL;apply aA;refine zk [0,1,6] ?_;refine rH fun _ _ Z=>?_;simp(disch:=omega)[Nat.sub_add_cancel];and_intros<;>(try omega);apply Z;refine zq (k - 1) ?_ ?_ ?_
  ·exact⟨by omega,fun j h h2=>Kr hh c2 h h2⟩
  ·try dsimp only
   omega
  simp [Bj];omega
 try simp at c1
 apply bA;apply aZ;apply bB;apply aW;apply aA;refine aV fun _ _ Z=>?_;simp(disch:=omega)[Nat.sub_add_cancel];apply Z;apply aB;simp [aJ];exact aIp fun j h _=>hh j h (by omega)
theorem Ge(l:List Int)(k:Nat):(∀d:D,d∈List.take k (List.map D.int l)→d.ncells=1)↔True:=by
 refine⟨fun _=>trivial,fun _ d hd=>?_⟩;obtain⟨a,_,rfl⟩:=List.mem_map.1 (List.mem_of_mem_take hd);rfl
theorem Ga(l:List Int)(k:Nat):(∀d:D,d∈List.drop k (List.map D.int l)→d.ncells=1)↔True:=by
 refine⟨fun _=>trivial,fun _ d hd=>?_⟩;obtain⟨a,_,rfl⟩:=List.mem_map.1 (List.mem_of_mem_drop hd);rfl
theorem aB1(l:List Int)(x:Int):(l.filter fun y=> !decide (y=x)).length≤l.length:=List.length_filter_le _ _
def eK(l:List Int)(x:Int):List Int:=l.filter fun y=> !decide (y=x)
theorem Di(l:List Int)(x:Int)(k:Nat)(h:k<l.length):eK (l.take (k+1)) x=eK (l.take k) x++if l[k]=x then [] else [l[k]]:=by
 unfold eK;rw [dA l k h,List.filter_append,List.filter_cons];by_cases e:l[k]=x <;> simp [e]
@[simp] abbrev qAr64:Cfg:=⟨[6,7,13,17],[],[],[],[]⟩
theorem Pv(l:List Int)(i:Nat)(x:Int)(σ:List (List D))(hl:l.length≤99999)(hi:i≤l.length):Ct prog 206 [.sl false (l.map D.int),D.int i,D.int x] σ (fun r σ'=>r= .sl true ((dK l i x).map D.int)∧σ'=σ):=by
 refine zf (rs:=[.tmp 6]) func206 ntmps206 results206 ?_;simp only [aO];have htl:List.take l.length (List.map D.int l)=List.map D.int l:=List.take_of_length_le (by simp);refine zr qAr64 fun _ _ Z=>?_;simp[Ge,Ga,or_imp,forall_and,htl];apply Z;refine zr qAr64 fun _ _ Z=>?_;simp[Ge,Ga,or_imp,forall_and,htl];and_intros<;>(try omega);apply Z;refine zr qAr64 fun _ _ Z=>?_;simp[Ge,Ga,or_imp,forall_and,htl];and_intros<;>(try omega);apply Z;refine zk [0,1,6,7] ?_;refine zr qAr64 fun _ _ Z=>?_;simp[Ge,Ga,or_imp,forall_and,htl];and_intros<;>(try omega);apply Z;apply aB;simp [aJ,dK]
@[simp] abbrev qAr65:Cfg:=⟨[4,5,18,23],[],[],[],[]⟩
theorem xC(l:List Int)(x:Int)(σ:List (List D))(hl:l.length≤99999):Ct prog 208 [.sl false (l.map D.int),D.int x] σ (fun r σ'=>r= .sl true ((eK l x).map D.int)∧σ'=σ):=by
 refine zf (rs:=[.tmp 4]) func208 ntmps208 results208 ?_;simp only [aO];refine zr qAr65 fun _ _ Z=>?_;simp(disch:=omega);apply Z;refine zr qAr65 fun _ _ Z=>?_;simp(disch:=omega);and_intros<;>(try omega);apply Z;apply aC;refine zr qAr65 fun _ _ Z=>?_;simp(disch:=omega);and_intros<;>(try omega);apply Z;apply aH;refine zk [1,4,5,9,10,11] ?_;refine bE (fun(k:Nat)=> [(11,.d (.v (.int .i64 (k:Int)))),(5,.d (.sl true ((eK (l.take k) x).map D.int)))]) [5,7,11,12,13,14,15,16,17,18,19,20,21,22] (fun(k:Nat)=>k≤l.length) (fun(k:Nat)=>l.length - k) (0) (by simp <;> rfl) ?_ ?_ ?_
 ·simp [eK]
 ·simp
 rintro k hk;simp only [List.cons_append,List.nil_append];have hdl:=aB1 (l.take k) x;simp only [List.length_take] at hdl;have hdl2:(eK (l.take k) x).length≤k:=by unfold eK;omega
 refine zr qAr65 fun _ _ Z=>?_;simp(disch:=omega);apply Z;apply aC;refine zi ?_;refine⟨fun c1=>?_,fun c1=>?_⟩
 ·try simp at c1
  apply aE;apply aA;apply aC;apply aH;refine zr qAr65 fun _ _ Z=>?_;simp(disch:=omega);and_intros<;>(try omega);apply Z;refine zr qAr65 fun _ _ Z=>?_;simp(disch:=omega);apply Z;refine zi ?_;refine⟨fun c2=>?_,fun c2=>?_⟩
  ·try simp at c2
   refine zk [1,4,5,7,9,10,11] ?_;refine zt qAr65 fun _ _ Z=>?_;simp(disch:=omega);and_intros<;>(try omega);apply Z;apply aL;apply aA;refine zk [1,4,5,9,10,11] ?_;refine zt qAr65 fun _ _ Z=>?_;simp(disch:=omega);and_intros<;>(try omega);apply Z;refine zq (k+1) ?_ ?_ ?_
   ·omega
   ·try dsimp only
    omega
   simp(disch:=omega)[Di, *]
  try simp at c2
  apply aE;apply aL;apply aA;refine zk [1,4,5,9,10,11] ?_;refine zt qAr65 fun _ _ Z=>?_;simp(disch:=omega);and_intros<;>(try omega);apply Z;refine zq (k+1) ?_ ?_ ?_
  ·omega
  ·try dsimp only
   omega
  simp(disch:=omega)[Di, *]
 try simp at c1
 apply bA;apply aZ;apply bB;apply aW;apply aA;refine zr qAr65 fun _ _ Z=>?_;simp(disch:=omega);apply Z;apply aB;simp [aJ];rw [List.take_of_length_le (by omega)]
theorem zF(a b:List Int)(σ:List (List D))(ha:a.length≤9223372036854775807)(hb:b.length≤9223372036854775807):Ct prog 17 [.sl false (a.map D.int),.sl false (b.map D.int)] σ (fun r σ'=>r= .bool (decide (a=b))∧σ'=σ):=by
 refine zf (rs:=[.tmp 4]) func17 ntmps17 results17 ?_;simp only [aO];refine aV fun _ _ Z=>?_;simp(disch:=omega);apply Z;apply aC;refine aV fun _ _ Z=>?_;simp(disch:=omega);and_intros<;>(try omega);apply Z;refine zi ?_;refine⟨fun c1=>?_,fun c1=>?_⟩
 ·try simp at c1
  refine aV fun _ _ Z=>?_;simp(disch:=omega);apply Z;apply aB;apply aI;simp [aJ];intro e;subst e;exact absurd rfl c1
 try simp at c1
 apply aE;apply aA;apply aC;refine aV fun _ _ Z=>?_;simp(disch:=omega);and_intros<;>(try omega);apply Z;apply aH;refine zk [0,1,4,12,13] ?_;refine bE (fun(k:Nat)=> [(13,.d (.int k)),(5,.d (.any))]) [4,5,13,14,15,16,17,18,19,20,21,22,23,24,25] (fun(k:Nat)=>k≤a.length∧a.take k=b.take k) (fun(k:Nat)=>a.length - k) (0) (by simp <;> rfl) ?_ ?_ ?_
 ·simp
 ·simp
 rintro k ⟨hk,hh⟩;simp only [List.cons_append,List.nil_append];refine aV fun _ _ Z=>?_;simp(disch:=omega);apply Z;apply aC;refine zi ?_;refine⟨fun c2=>?_,fun c2=>?_⟩
 ·try simp at c2
  apply aE;apply aA;apply aC;apply aH;refine aV fun _ _ Z=>?_;simp(disch:=omega);apply Z;refine zd ⟨[],[],[],[],[]⟩ [.op {},.op {},.op {},.op {},.op {},.op {},.op {},.op {},.op {}] fun all hall _ Z=>?_;refine dJ 8 fun _ Y=>?_;simp(disch:=omega);and_intros<;>(try omega);apply Y;simp(disch:=omega);apply Z;refine zi ?_;refine⟨fun c3=>?_,fun c3=>?_⟩
  ·try simp at c3
   refine zk [0,1,5,12,13] ?_;refine aV fun _ _ Z=>?_;simp(disch:=omega);apply Z;apply aB;apply aQ;apply aI;apply eH;apply aQ;apply aI;simp [aJ];intro e;subst e;exact c3 rfl
  try simp at c3
  apply aE;apply aL;apply aA;refine zk [0,1,5,12,13] ?_;refine rH fun _ _ Z=>?_;simp(disch:=omega);and_intros<;>(try omega);apply Z;refine zq (k+1) ?_ ?_ ?_
  ·exact⟨by omega,by rw [dA a k (by omega),dA b k (by omega),hh];simp [*]⟩
  ·try dsimp only
   omega
  simp(disch:=omega)
 try simp at c2
 apply bA;apply aZ;apply bB;apply aW;apply aA;refine aV fun _ _ Z=>?_;simp(disch:=omega);apply Z;apply aB;simp [aJ]
 rwa [List.take_of_length_le (by omega),List.take_of_length_le (by omega)] at hh
end Go.Proofs.YtbgfljpnhhdkoaaGreat
