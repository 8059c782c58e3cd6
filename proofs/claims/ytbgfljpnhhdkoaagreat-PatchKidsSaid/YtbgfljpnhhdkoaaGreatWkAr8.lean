import Derived.Test.YtbgfljpnhhdkoaaGreatWkAr7
open Go.Proofs.Tryz
namespace Go.Proofs.YtbgfljpnhhdkoaaGreat
open Go Go.Vm
set_option maxRecDepth 20000
set_option linter.all false
set_option maxHeartbeats 8000000
def chN(n:ND)(kind:Int)(name v:ByteArray)(num:Int):Option ND:=
 if kind=0 then some { n with tag:=name }
 else if kind=1 then some { n with text:=v }
 else if kind=2 then some { n with attrs:=fC nA n.attrs ⟨name,v⟩ }
 else if kind=3 then(if mY nA n.attrs name=true then some { n with attrs:=jF nA n.attrs name } else none)
 else if kind=4 then some { n with styles:=fC nP n.styles ⟨name,Hs num⟩ }
 else if kind=5 then(if mY nP n.styles name=true then some { n with styles:=jF nP n.styles name } else none)
 else if kind=6 then(if sZ name n.classes=true then none else some { n with classes:=n.classes++ [name] })
 else(if sZ name n.classes=true then some { n with classes:=kV n.classes name } else none)
def setX(x:RD)(kind id:Int)(name v:ByteArray)(num:Int):RD×Int:=
 if cZ x.l id=false then(x,11)else if id=0 then(x,1)
 else if ¬(kind=1↔(aG x.l id).kind=1)then(x,14)
 else if ¬kind=1∧fP name=false then(x,2)
 else match chN (aG x.l id) kind name v num with
  | none=>(x,1)
  | some n=>(⟨x.most,x.next,dK x.l n⟩,0)
section
variable {x:RD} {kind id:Int} {name v:ByteArray} {num:Int}
theorem Gb(h1:cZ x.l id=false):setX x kind id name v num=(x,11):=by unfold setX;rw [if_pos h1]
theorem aBl(h1:cZ x.l id=true)(h2:id=0):setX x kind id name v num=(x,1):=by unfold setX;rw [if_neg (by rw [h1];simp),if_pos h2]
theorem Qt(h1:cZ x.l id=true)(h2:¬id=0)(h3:¬(kind=1↔(aG x.l id).kind=1)):setX x kind id name v num=(x,14):=by unfold setX;rw [if_neg (by rw [h1];simp),if_neg h2,if_pos h3]
theorem aAl(h1:cZ x.l id=true)(h2:¬id=0)(h3:kind=1↔(aG x.l id).kind=1)(h4:¬kind=1)(h5:fP name=false):setX x kind id name v num=(x,2):=by
 unfold setX;rw [if_neg (by rw [h1];simp),if_neg h2,if_neg (fun h=>h h3),if_pos ⟨h4,h5⟩]
theorem lQ {n:ND} (h1:cZ x.l id=true)(h2:¬id=0)(h3:kind=1↔(aG x.l id).kind=1)(h5:kind=1∨fP name=true)(h:chN (aG x.l id) kind name v num=some n):setX x kind id name v num=(⟨x.most,x.next,dK x.l n⟩,0):=by
 unfold setX;rw [if_neg (by rw [h1];simp),if_neg h2,if_neg (fun h=>h h3),if_neg (by rintro⟨a,b⟩;rcases h5 with h5 | h5;exact a h5;rw [h5] at b;cases b),h]
theorem tB(h1:cZ x.l id=true)(h2:¬id=0)(h3:kind=1↔(aG x.l id).kind=1)(h5:kind=1∨fP name=true)(h:chN (aG x.l id) kind name v num=none):setX x kind id name v num=(x,1):=by
 unfold setX;rw [if_neg (by rw [h1];simp),if_neg h2,if_neg (fun h=>h h3),if_neg (by rintro⟨a,b⟩;rcases h5 with h5 | h5;exact a h5;rw [h5] at b;cases b),h]
end
@[simp] abbrev qAr81:Cfg:=⟨[16,91],[],[],[],[]⟩
theorem Qn(x:RD)(kind id:Int)(name v:ByteArray)(num:Int)(σ:List (List D))(hx:NB x.l)(hn:name.size≤1000)(hsa:cG nA (aG x.l id).attrs)(hss:cG nP (aG x.l id).styles):Ct prog 22 [dS x,D.int kind,D.int id,D.str name,D.str v,D.int num] σ (fun r σ'=>r= .tup [dS (setX x kind id name v num).1,D.int (setX x kind id name v num).2]∧σ'=σ):=by
 refine zf (rs:=[.cell 12 30,.tmp 13]) func22 ntmps22 results22 ?_;simp only [aN];have hfc:=hx.fc id;have hfa:=hx.fa id;have hfs:=hx.fs id;refine zr qAr81 fun _ _ Z=>?_;simp(disch:=omega)[or_imp,forall_and];apply Z;refine zr qAr81 fun _ _ Z=>?_;refine zs 2 fun _ Y=>?_;simp(disch:=omega)[or_imp,forall_and];apply Y;refine aE fun _ Y=>?_;simp(disch:=omega)[or_imp,forall_and];refine bX (fV x id _ hx) ?_;apply Y;simp(disch:=omega)[or_imp,forall_and];apply Z;apply aB;refine zr qAr81 fun _ _ Z=>?_;simp(disch:=omega)[or_imp,forall_and];apply Z;refine zi ?_;refine⟨fun c1=>?_,fun c1=>?_⟩
 ·try simp at c1
  refine zk [1,2,3,4,5,6,12,13,14] ?_;refine zr qAr81 fun _ _ Z=>?_;simp(disch:=omega)[or_imp,forall_and];apply Z;apply aC;apply aI;have e:=Gb (kind:=kind) (name:=name) (v:=v) (num:=num) c1;simp [aK,e]
 try simp at c1
 apply aD;apply aA;apply aB;refine zk [1,2,3,4,5,6,12,13,14] ?_;refine zr qAr81 fun _ _ Z=>?_;simp(disch:=omega)[or_imp,forall_and];apply Z;refine zi ?_;refine⟨fun c2=>?_,fun c2=>?_⟩
 ·try simp at c2
  refine zr qAr81 fun _ _ Z=>?_;simp(disch:=omega)[or_imp,forall_and];apply Z;apply aC;apply aI;have e:=aBl (kind:=kind) (name:=name) (v:=v) (num:=num) c1 c2;simp [aK,e]
 try simp at c2
 apply aD;apply aA;apply aB;refine zr qAr81 fun _ _ Z=>?_;simp(disch:=omega)[or_imp,forall_and];apply Z;refine zi ?_;refine⟨fun c3=>?_,fun c3=>?_⟩
 ·try simp at c3
  refine zk [1,3,4,5,6,12,13,14] ?_;refine zr qAr81 fun _ _ Z=>?_;simp(disch:=omega)[or_imp,forall_and];apply Z;apply aC;apply aI;have e:=Qt (name:=name) (v:=v) (num:=num) c1 c2 c3;simp [aK,e]
 try simp at c3
 apply aD;apply aA;apply aB;refine zk [1,3,4,5,6,12,13,14] ?_;refine kX qAr81 fun all hall _ Z=>?_;have ga2:aO all 2=some 42:=hall 2;refine zs 3 fun _ Y=>?_;simp(disch:=omega)[or_imp,forall_and,ga2];apply Y;refine aS 42 (by simp <;> rfl) ?_;refine⟨fun g4=>?_,fun g4=>?_⟩
 ·try simp at g4
  refine zs 1 fun _ Y=>?_;simp(disch:=omega)[or_imp,forall_and,ga2];apply Y;refine zg ga2 fun _ Y=>?_;simp(disch:=omega)[or_imp,forall_and,ga2];refine bX (Kz name _ (by omega)) ?_;apply Y;simp(disch:=omega)[or_imp,forall_and,ga2];apply Z;refine zi ?_;refine⟨fun c5=>?_,fun c5=>?_⟩
  ·try simp at c5
   refine zk [1,3,4,5,6,12,13,14] ?_;refine zr qAr81 fun _ _ Z=>?_;simp(disch:=omega)[or_imp,forall_and];apply Z;apply aC;apply aI;have e:=aAl (v:=v) (num:=num) c1 c2 c3 g4 c5;simp [aK,e]
  try simp at c5
  apply aD;apply aA;apply aB;refine zk [1,3,4,5,6,12,13,14] ?_;refine zr qAr81 fun _ _ Z=>?_;simp(disch:=omega)[or_imp,forall_and];apply Z;apply aF;refine zr qAr81 fun _ _ Z=>?_;simp(disch:=omega)[or_imp,forall_and];apply Z;refine zi ?_;refine⟨fun c6=>?_,fun c6=>?_⟩
  ·try simp at c6
   refine zt qAr81 fun _ _ Z=>?_;simp(disch:=omega)[or_imp,forall_and];apply Z;apply aH;apply aA;refine zk [6,12,13,14] ?_;refine zr qAr81 fun _ _ Z=>?_;refine zs 2 fun _ Y=>?_;simp(disch:=omega)[or_imp,forall_and];apply Y;refine aE fun _ Y=>?_;simp(disch:=omega)[or_imp,forall_and];refine bX (jK x { (aG x.l id)with tag:=name } _ hx) ?_;apply Y;simp(disch:=omega)[or_imp,forall_and];apply Z;apply aC;subst c6;have e:=lQ (name:=name) (v:=v) (num:=num) c1 c2 c3 (.inr c5) (n:= { (aG x.l id)with tag:=name }) (by simp [chN]);simp [aK,e]
  try simp at c6
  refine zr qAr81 fun _ _ Z=>?_;simp(disch:=omega)[or_imp,forall_and];apply Z;refine zi ?_;refine⟨fun c7=>?_,fun c7=>?_⟩
  ·try simp at c7
   exact absurd c7 g4
  try simp at c7
  refine zk [3,4,5,6,12,13,14,48] ?_;refine zr qAr81 fun _ _ Z=>?_;simp(disch:=omega)[or_imp,forall_and];apply Z;refine zi ?_;refine⟨fun c8=>?_,fun c8=>?_⟩
  ·try simp at c8
   refine zt qAr81 fun _ _ Z=>?_;refine zs 5 fun _ Y=>?_;simp(disch:=omega)[or_imp,forall_and];apply Y;refine aE fun _ Y=>?_;simp(disch:=omega)[or_imp,forall_and];refine bX (Jv (aG x.l id).attrs ⟨name,v⟩ _ (by omega) hsa) ?_;apply Y;simp(disch:=omega)[or_imp,forall_and];apply Z;apply aH;apply aA;refine zk [6,12,13,14] ?_;refine zr qAr81 fun _ _ Z=>?_;refine zs 2 fun _ Y=>?_;simp(disch:=omega)[or_imp,forall_and];apply Y;refine aE fun _ Y=>?_;simp(disch:=omega)[or_imp,forall_and];refine bX (jK x { (aG x.l id)with attrs:=fC nA (aG x.l id).attrs ⟨name,v⟩ } _ hx) ?_;apply Y;simp(disch:=omega)[or_imp,forall_and];apply Z;apply aC;subst c8;have e:=lQ (name:=name) (v:=v) (num:=num) c1 c2 c3 (.inr c5) (n:= { (aG x.l id)with attrs:=fC nA (aG x.l id).attrs ⟨name,v⟩ }) (by simp [chN]);simp [aK,e]
  try simp at c8
  refine zr qAr81 fun _ _ Z=>?_;simp(disch:=omega)[or_imp,forall_and];apply Z;refine zi ?_;refine⟨fun c9=>?_,fun c9=>?_⟩
  ·try simp at c9
   refine zk [3,6,12,13,14] ?_;refine zr qAr81 fun _ _ Z=>?_;simp(disch:=omega)[or_imp,forall_and];and_intros<;>(try omega);apply Z;apply aB;refine zr qAr81 fun _ _ Z=>?_;simp(disch:=omega)[or_imp,forall_and];and_intros<;>(try omega);apply Z;apply aF;refine zk [3,6,12,13,14,16,81,82,83] ?_;refine bA (fun(k:Nat)=> [(83,.d (.v (.int .i64 (k:Int)))),(16,.d (.sl true ((jF nA ((aG x.l id).attrs.take k) name).map cY)))]) [16,18,83,84,85,86,87,88,89,90,91,92,93,94,95] (fun(k:Nat)=>k≤(aG x.l id).attrs.length) (fun(k:Nat)=>(aG x.l id).attrs.length - k) (0) (by simp <;> rfl) ?_ ?_ ?_
   ·simp [jF]
   ·simp
   rintro k hk;simp only [List.cons_append,List.nil_append];have hdl:=uY nA ((aG x.l id).attrs.take k) name;simp only [List.length_take] at hdl;refine zr qAr81 fun _ _ Z=>?_;simp(disch:=omega)[or_imp,forall_and];apply Z;apply aB;refine zi ?_;refine⟨fun c10=>?_,fun c10=>?_⟩
   ·try simp at c10
    apply aD;apply aA;apply aB;apply aF;refine zr qAr81 fun _ _ Z=>?_;simp(disch:=omega)[or_imp,forall_and];and_intros<;>(try omega);apply Z;refine zk [3,6,12,13,14,16,18,81,82,83] ?_;refine zr qAr81 fun _ _ Z=>?_;simp(disch:=omega)[or_imp,forall_and];apply Z;refine zi ?_;refine⟨fun c11=>?_,fun c11=>?_⟩
    ·try simp at c11
     refine zk [3,6,12,13,14,16,18,81,82,83] ?_;refine zt qAr81 fun _ _ Z=>?_;simp(disch:=omega)[or_imp,forall_and];and_intros<;>(try omega);apply Z;apply aH;apply aA;refine zk [3,6,12,13,14,16,81,82,83] ?_;refine zt qAr81 fun _ _ Z=>?_;simp(disch:=omega)[or_imp,forall_and];and_intros<;>(try omega);apply Z;refine zq (k+1) ?_ ?_ ?_
     ·omega
     ·try dsimp only
      omega
     simp(disch:=omega)[or_imp,forall_and,qY, *]
    try simp at c11
    apply aD;apply aH;apply aA;refine zk [3,6,12,13,14,16,81,82,83] ?_;refine zt qAr81 fun _ _ Z=>?_;simp(disch:=omega)[or_imp,forall_and];and_intros<;>(try omega);apply Z;refine zq (k+1) ?_ ?_ ?_
    ·omega
    ·try dsimp only
     omega
    simp(disch:=omega)[or_imp,forall_and,qY, *]
   try simp at c10
   obtain rfl:k=(aG x.l id).attrs.length:=by omega
   rw [List.take_length] at hdl;simp only [List.take_length];apply aY;apply aX;apply aZ;apply aR;apply aA;apply aB;refine zr qAr81 fun _ _ Z=>?_;simp(disch:=omega)[or_imp,forall_and];and_intros<;>(try omega);apply Z;refine zi ?_;refine⟨fun c12=>?_,fun c12=>?_⟩
   ·try simp at c12
    have hh:mY nA (aG x.l id).attrs name=false:=(Cb nA name).1 (by omega);refine zk [6,12,13,14,16] ?_;refine zr qAr81 fun _ _ Z=>?_;simp(disch:=omega)[or_imp,forall_and];apply Z;apply aC;apply aI;apply aP;apply aI;subst c9;have e:=tB (name:=name) (v:=v) (num:=num) c1 c2 c3 (.inr c5) (by simp [chN,hh]);simp [aK,e]
   try simp at c12
   have hh:mY nA (aG x.l id).attrs name=true:=by
     cases e:mY nA (aG x.l id).attrs name with
     | true=>rfl
     | false=>have:=(Cb nA name).2 e;omega
   apply aD;apply aA;refine zk [6,12,13,14,16] ?_;refine zt qAr81 fun _ _ Z=>?_;simp(disch:=omega)[or_imp,forall_and];apply Z;apply aH;apply aA;refine zr qAr81 fun _ _ Z=>?_;refine zs 2 fun _ Y=>?_;simp(disch:=omega)[or_imp,forall_and];apply Y;refine aE fun _ Y=>?_;simp(disch:=omega)[or_imp,forall_and];refine bX (jK x { (aG x.l id)with attrs:=jF nA (aG x.l id).attrs name } _ hx) ?_;apply Y;simp(disch:=omega)[or_imp,forall_and];apply Z;apply aC;subst c9;have e:=lQ (name:=name) (v:=v) (num:=num) c1 c2 c3 (.inr c5) (n:= { (aG x.l id)with attrs:=jF nA (aG x.l id).attrs name }) (by simp [chN,hh]);simp [aK,e]
  try simp at c9
  refine zk [3,5,6,12,13,14,48] ?_;refine zr qAr81 fun _ _ Z=>?_;simp(disch:=omega)[or_imp,forall_and];apply Z;refine zi ?_;refine⟨fun c13=>?_,fun c13=>?_⟩
  ·try simp at c13
   refine zk [3,5,6,12,13,14] ?_;refine zt qAr81 fun _ _ Z=>?_;refine zs 6 fun _ Y=>?_;simp(disch:=omega)[or_imp,forall_and];and_intros<;>(try omega);apply Y;refine aE fun _ Y=>?_;simp(disch:=omega)[or_imp,forall_and];refine bX (aD9 num _) ?_;rw [aIe];apply Y;refine zs 3 fun _ Y=>?_;simp(disch:=omega)[or_imp,forall_and];and_intros<;>(try omega);apply Y;refine aE fun _ Y=>?_;simp(disch:=omega)[or_imp,forall_and];refine bX (Xt ((aG x.l id).styles++ [⟨name,Hs num⟩]) _ (by simp;omega)) ?_;rw [qD,qJ nP hss];apply Y;simp(disch:=omega)[or_imp,forall_and];apply Z;apply aH;apply aA;refine zk [6,12,13,14] ?_;refine zr qAr81 fun _ _ Z=>?_;refine zs 2 fun _ Y=>?_;simp(disch:=omega)[or_imp,forall_and];apply Y;refine aE fun _ Y=>?_;simp(disch:=omega)[or_imp,forall_and];refine bX (jK x { (aG x.l id)with styles:=fC nP (aG x.l id).styles ⟨name,Hs num⟩ } _ hx) ?_;apply Y;simp(disch:=omega)[or_imp,forall_and];apply Z;apply aC;subst c13;have e:=lQ (name:=name) (v:=v) (num:=num) c1 c2 c3 (.inr c5) (n:= { (aG x.l id)with styles:=fC nP (aG x.l id).styles ⟨name,Hs num⟩ }) (by simp [chN]);simp [aK,e]
  try simp at c13
  refine zr qAr81 fun _ _ Z=>?_;simp(disch:=omega)[or_imp,forall_and];apply Z;refine zi ?_;refine⟨fun c14=>?_,fun c14=>?_⟩
  ·try simp at c14
   apply aB;refine zr qAr81 fun _ _ Z=>?_;refine zs 3 fun _ Y=>?_;simp(disch:=omega)[or_imp,forall_and];apply Y;refine aE fun _ Y=>?_;simp(disch:=omega)[or_imp,forall_and];refine Vo (aAv (aG x.l id).styles name _ (by omega)) ?_;rintro _ _ ⟨⟨gv,hr9⟩,hs9⟩;subst hr9;replace hs9:=hs9.symm;subst hs9;apply Y;simp(disch:=omega)[or_imp,forall_and];apply Z;refine zk [3,6,12,13,14,20] ?_;refine zr qAr81 fun _ _ Z=>?_;simp(disch:=omega)[or_imp,forall_and];apply Z;refine zi ?_;refine⟨fun c15=>?_,fun c15=>?_⟩
   ·try simp at c15
    refine zr qAr81 fun _ _ Z=>?_;simp(disch:=omega)[or_imp,forall_and];apply Z;apply aC;apply aI;apply aP;apply aI;subst c14;have e:=tB (name:=name) (v:=v) (num:=num) c1 c2 c3 (.inr c5) (by simp [chN,c15]);simp [aK,e]
   try simp at c15
   apply aD;apply aA;refine zt qAr81 fun _ _ Z=>?_;refine zs 3 fun _ Y=>?_;simp(disch:=omega)[or_imp,forall_and];apply Y;refine aE fun _ Y=>?_;simp(disch:=omega)[or_imp,forall_and];refine bX (Sd (aG x.l id).styles name _ (by omega) hss) ?_;apply Y;simp(disch:=omega)[or_imp,forall_and];apply Z;apply aH;apply aA;refine zk [6,12,13,14] ?_;refine zr qAr81 fun _ _ Z=>?_;refine zs 2 fun _ Y=>?_;simp(disch:=omega)[or_imp,forall_and];apply Y;refine aE fun _ Y=>?_;simp(disch:=omega)[or_imp,forall_and];refine bX (jK x { (aG x.l id)with styles:=jF nP (aG x.l id).styles name } _ hx) ?_;apply Y;simp(disch:=omega)[or_imp,forall_and];apply Z;apply aC;subst c14;have e:=lQ (name:=name) (v:=v) (num:=num) c1 c2 c3 (.inr c5) (n:= { (aG x.l id)with styles:=jF nP (aG x.l id).styles name }) (by simp [chN,c15]);simp [aK,e]
  try simp at c14
  refine zr qAr81 fun _ _ Z=>?_;simp(disch:=omega)[or_imp,forall_and];apply Z;refine zi ?_;refine⟨fun c16=>?_,fun c16=>?_⟩
  ·try simp at c16
   apply aB;refine zk [3,6,12,13,14] ?_;refine zr qAr81 fun _ _ Z=>?_;refine zs 3 fun _ Y=>?_;simp(disch:=omega)[or_imp,forall_and];apply Y;refine aE fun _ Y=>?_;simp(disch:=omega)[or_imp,forall_and];refine bX (Pf (aG x.l id).classes name _ (by omega)) ?_;apply Y;simp only [dP];apply Z;refine zi ?_;refine⟨fun c17=>?_,fun c17=>?_⟩
   ·try simp at c17
    refine zr qAr81 fun _ _ Z=>?_;simp(disch:=omega)[or_imp,forall_and];apply Z;apply aC;apply aI;apply aP;apply aI;subst c16;have e:=tB (name:=name) (v:=v) (num:=num) c1 c2 c3 (.inr c5) (by simp [chN,c17]);simp [aK,e]
   try simp at c17
   apply aD;apply aA;refine zt qAr81 fun _ _ Z=>?_;refine zs 8 fun _ Y=>?_;simp(disch:=omega)[or_imp,forall_and];and_intros<;>(try omega);apply Y;simp(disch:=omega)[or_imp,forall_and];apply Z;apply aH;apply aA;refine zk [6,12,13,14] ?_;refine zr qAr81 fun _ _ Z=>?_;refine zs 2 fun _ Y=>?_;simp(disch:=omega)[or_imp,forall_and];apply Y;refine aE fun _ Y=>?_;simp(disch:=omega)[or_imp,forall_and];refine bX (jK x { (aG x.l id)with classes:=(aG x.l id).classes++ [name] } _ hx) ?_;apply Y;simp(disch:=omega)[or_imp,forall_and];apply Z;apply aC;subst c16;have e:=lQ (name:=name) (v:=v) (num:=num) c1 c2 c3 (.inr c5) (n:= { (aG x.l id)with classes:=(aG x.l id).classes++ [name] }) (by simp [chN,c17]);simp [aK,e]
  try simp at c16
  apply aB;refine zk [3,6,12,13,14] ?_;refine zr qAr81 fun _ _ Z=>?_;refine zs 3 fun _ Y=>?_;simp(disch:=omega)[or_imp,forall_and];apply Y;refine aE fun _ Y=>?_;simp(disch:=omega)[or_imp,forall_and];refine bX (Pf (aG x.l id).classes name _ (by omega)) ?_;apply Y;simp(disch:=omega)[or_imp,forall_and];apply Z;refine zi ?_;refine⟨fun c18=>?_,fun c18=>?_⟩
  ·try simp at c18
   refine zr qAr81 fun _ _ Z=>?_;simp(disch:=omega)[or_imp,forall_and];apply Z;apply aC;apply aI;apply aP;apply aI;have e:=tB (name:=name) (v:=v) (num:=num) c1 c2 c3 (.inr c5) (by simp [chN,c6,c7,c8,c9,c13,c14,c16,c18]);simp [aK,e]
  try simp at c18
  apply aD;apply aA;refine zt qAr81 fun _ _ Z=>?_;refine zs 3 fun _ Y=>?_;simp(disch:=omega)[or_imp,forall_and];apply Y;refine aE fun _ Y=>?_;simp(disch:=omega)[or_imp,forall_and];refine bX (aDi (aG x.l id).classes name _ (by omega)) ?_;apply Y;simp(disch:=omega)[or_imp,forall_and];apply Z;apply aH;apply aA;refine zk [6,12,13,14] ?_;refine zr qAr81 fun _ _ Z=>?_;refine zs 2 fun _ Y=>?_;simp(disch:=omega)[or_imp,forall_and];apply Y;refine aE fun _ Y=>?_;simp(disch:=omega)[or_imp,forall_and];refine bX (jK x { (aG x.l id)with classes:=kV (aG x.l id).classes name } _ hx) ?_;apply Y;simp(disch:=omega)[or_imp,forall_and];apply Z;apply aC;have e:=lQ (name:=name) (v:=v) (num:=num) c1 c2 c3 (.inr c5) (n:= { (aG x.l id)with classes:=kV (aG x.l id).classes name }) (by simp [chN,c6,c7,c8,c9,c13,c14,c16,c18]);simp [aK,e]
 try simp at g4
 simp(disch:=omega)[or_imp,forall_and,ga2];apply Z;refine bD (t:=false) (by simp) (fun h=>by cases h) (fun _=>?_);apply aD;apply aA;apply aB;refine zk [1,3,4,5,6,12,13,14] ?_;refine zr qAr81 fun _ _ Z=>?_;simp(disch:=omega)[or_imp,forall_and];apply Z;apply aF;refine zr qAr81 fun _ _ Z=>?_;simp(disch:=omega)[or_imp,forall_and];apply Z;refine zi ?_;refine⟨fun c19=>?_,fun c19=>?_⟩
 ·try simp at c19
  omega
 try simp at c19
 refine zr qAr81 fun _ _ Z=>?_;simp(disch:=omega)[or_imp,forall_and];apply Z;refine zi ?_;refine⟨fun c20=>?_,fun c20=>?_⟩
 ·try simp at c20
  refine zk [4,6,12,13,14] ?_;refine zt qAr81 fun _ _ Z=>?_;simp(disch:=omega)[or_imp,forall_and];apply Z;apply aH;apply aA;refine zr qAr81 fun _ _ Z=>?_;refine zs 2 fun _ Y=>?_;simp(disch:=omega)[or_imp,forall_and];apply Y;refine aE fun _ Y=>?_;simp(disch:=omega)[or_imp,forall_and];refine bX (jK x { (aG x.l id)with text:=v } _ hx) ?_;apply Y;simp(disch:=omega)[or_imp,forall_and];apply Z;apply aC;subst c20;have e:=lQ (name:=name) (v:=v) (num:=num) c1 c2 c3 (.inl rfl) (n:= { (aG x.l id)with text:=v }) (by simp [chN]);simp [aK,e]
 try simp at c20
 exact absurd g4 c20
end Go.Proofs.YtbgfljpnhhdkoaaGreat
