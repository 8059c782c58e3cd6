import Derived.Test.YtbgfljpnhhdkoaaGreatWkAr7
open Go.Proofs.Tryz
namespace Go.Proofs.YtbgfljpnhhdkoaaGreat
open Go Go.Vm
set_option maxRecDepth 20000
set_option linter.all false
set_option maxHeartbeats 8000000
def chN(n:ND)(kind:Int)(name v:ByteArray)(num:Int):Option ND:=
 if kind=0 then some { n with tag:=name }
 else if kind=1 then some { n with text:=v }
 else if kind=2 then some { n with attrs:=fB nA n.attrs ⟨name,v⟩ }
 else if kind=3 then(if mW nA n.attrs name=true then some { n with attrs:=iY nA n.attrs name } else none)
 else if kind=4 then some { n with styles:=fB nP n.styles ⟨name,Hc num⟩ }
 else if kind=5 then(if mW nP n.styles name=true then some { n with styles:=iY nP n.styles name } else none)
 else if kind=6 then(if sY name n.classes=true then none else some { n with classes:=n.classes++ [name] })
 else(if sY name n.classes=true then some { n with classes:=lG n.classes name } else none)
def setX(x:RD)(kind id:Int)(name v:ByteArray)(num:Int):RD×Int:=
 if dF x.l id=false then(x,11)else if id=0 then(x,1)
 else if ¬(kind=1↔(aF x.l id).kind=1)then(x,14)
 else if ¬kind=1∧fS name=false then(x,2)
 else match chN (aF x.l id) kind name v num with
  | none=>(x,1)
  | some n=>(⟨x.most,x.next,dH x.l n⟩,0)
section
variable {x:RD} {kind id:Int} {name v:ByteArray} {num:Int}
theorem Hb(h1:dF x.l id=false):setX x kind id name v num=(x,11):=by unfold setX;rw [if_pos h1]
theorem We(h1:dF x.l id=true)(h2:id=0):setX x kind id name v num=(x,1):=by unfold setX;rw [if_neg (by rw [h1];simp),if_pos h2]
theorem Pk(h1:dF x.l id=true)(h2:¬id=0)(h3:¬(kind=1↔(aF x.l id).kind=1)):setX x kind id name v num=(x,14):=by unfold setX;rw [if_neg (by rw [h1];simp),if_neg h2,if_pos h3]
theorem Wm(h1:dF x.l id=true)(h2:¬id=0)(h3:kind=1↔(aF x.l id).kind=1)(h4:¬kind=1)(h5:fS name=false):setX x kind id name v num=(x,2):=by
 unfold setX;rw [if_neg (by rw [h1];simp),if_neg h2,if_neg (fun h=>h h3),if_pos ⟨h4,h5⟩]
theorem lW {n:ND} (h1:dF x.l id=true)(h2:¬id=0)(h3:kind=1↔(aF x.l id).kind=1)(h5:kind=1∨fS name=true)(h:chN (aF x.l id) kind name v num=some n):setX x kind id name v num=(⟨x.most,x.next,dH x.l n⟩,0):=by
 unfold setX;rw [if_neg (by rw [h1];simp),if_neg h2,if_neg (fun h=>h h3),if_neg (by rintro⟨a,b⟩;rcases h5 with h5 | h5;exact a h5;rw [h5] at b;cases b),h]
theorem tB(h1:dF x.l id=true)(h2:¬id=0)(h3:kind=1↔(aF x.l id).kind=1)(h5:kind=1∨fS name=true)(h:chN (aF x.l id) kind name v num=none):setX x kind id name v num=(x,1):=by
 unfold setX;rw [if_neg (by rw [h1];simp),if_neg h2,if_neg (fun h=>h h3),if_neg (by rintro⟨a,b⟩;rcases h5 with h5 | h5;exact a h5;rw [h5] at b;cases b),h]
end
@[simp] abbrev qAr81:Cfg:=⟨[16,91],[],[],[],[]⟩
theorem Pb(x:RD)(kind id:Int)(name v:ByteArray)(num:Int)(σ:List (List D))(hx:NB x.l)(hn:name.size≤1000)(hsa:cJ nA (aF x.l id).attrs)(hss:cJ nP (aF x.l id).styles):Ct prog 22 [eN x,D.int kind,D.int id,D.str name,D.str v,D.int num] σ (fun r σ'=>r= .tup [eN (setX x kind id name v num).1,D.int (setX x kind id name v num).2]∧σ'=σ):=by
 refine zf (rs:=[.cell 12 30,.tmp 13]) func22 ntmps22 results22 ?_;simp only [aN];have hfc:=hx.fc id;have hfa:=hx.fa id;have hfs:=hx.fs id;refine zr qAr81 fun _ _ Z=>?_;simp(disch:=omega)[or_imp,forall_and];apply Z;refine zr qAr81 fun _ _ Z=>?_;refine zs 2 fun _ Y=>?_;simp(disch:=omega)[or_imp,forall_and];apply Y;refine aD fun _ Y=>?_;simp(disch:=omega)[or_imp,forall_and];refine cH (jJ x id _ hx) ?_;apply Y;simp(disch:=omega)[or_imp,forall_and];apply Z;apply aC;refine zr qAr81 fun _ _ Z=>?_;simp(disch:=omega)[or_imp,forall_and];apply Z;refine zi ?_;refine⟨fun c1=>?_,fun c1=>?_⟩
 ·try simp at c1
  refine zk [1,2,3,4,5,6,12,13,14] ?_;refine zr qAr81 fun _ _ Z=>?_;simp(disch:=omega)[or_imp,forall_and];apply Z;apply aB;apply aJ;have e:=Hb (kind:=kind) (name:=name) (v:=v) (num:=num) c1;simp [aL,e]
 try simp at c1
 apply aE;apply aA;apply aC;refine zk [1,2,3,4,5,6,12,13,14] ?_;refine zr qAr81 fun _ _ Z=>?_;simp(disch:=omega)[or_imp,forall_and];apply Z;refine zi ?_;refine⟨fun c2=>?_,fun c2=>?_⟩
 ·try simp at c2
  refine zr qAr81 fun _ _ Z=>?_;simp(disch:=omega)[or_imp,forall_and];apply Z;apply aB;apply aJ;have e:=We (kind:=kind) (name:=name) (v:=v) (num:=num) c1 c2;simp [aL,e]
 try simp at c2
 apply aE;apply aA;apply aC;refine zr qAr81 fun _ _ Z=>?_;simp(disch:=omega)[or_imp,forall_and];apply Z;refine zi ?_;refine⟨fun c3=>?_,fun c3=>?_⟩
 ·try simp at c3
  refine zk [1,3,4,5,6,12,13,14] ?_;refine zr qAr81 fun _ _ Z=>?_;simp(disch:=omega)[or_imp,forall_and];apply Z;apply aB;apply aJ;have e:=Pk (name:=name) (v:=v) (num:=num) c1 c2 c3;simp [aL,e]
 try simp at c3
 apply aE;apply aA;apply aC;refine zk [1,3,4,5,6,12,13,14] ?_;refine mY qAr81 fun all hall _ Z=>?_;have ga2:aR all 2=some 42:=hall 2;refine zs 3 fun _ Y=>?_;simp(disch:=omega)[or_imp,forall_and,ga2];apply Y;refine aU 42 (by simp <;> rfl) ?_;refine⟨fun g4=>?_,fun g4=>?_⟩
 ·try simp at g4
  refine zs 1 fun _ Y=>?_;simp(disch:=omega)[or_imp,forall_and,ga2];apply Y;refine zg ga2 fun _ Y=>?_;simp(disch:=omega)[or_imp,forall_and,ga2];refine cH (Ji name _ (by omega)) ?_;apply Y;simp(disch:=omega)[or_imp,forall_and,ga2];apply Z;refine zi ?_;refine⟨fun c5=>?_,fun c5=>?_⟩
  ·try simp at c5
   refine zk [1,3,4,5,6,12,13,14] ?_;refine zr qAr81 fun _ _ Z=>?_;simp(disch:=omega)[or_imp,forall_and];apply Z;apply aB;apply aJ;have e:=Wm (v:=v) (num:=num) c1 c2 c3 g4 c5;simp [aL,e]
  try simp at c5
  apply aE;apply aA;apply aC;refine zk [1,3,4,5,6,12,13,14] ?_;refine zr qAr81 fun _ _ Z=>?_;simp(disch:=omega)[or_imp,forall_and];apply Z;apply aG;refine zr qAr81 fun _ _ Z=>?_;simp(disch:=omega)[or_imp,forall_and];apply Z;refine zi ?_;refine⟨fun c6=>?_,fun c6=>?_⟩
  ·try simp at c6
   refine zt qAr81 fun _ _ Z=>?_;simp(disch:=omega)[or_imp,forall_and];apply Z;apply aK;apply aA;refine zk [6,12,13,14] ?_;refine zr qAr81 fun _ _ Z=>?_;refine zs 2 fun _ Y=>?_;simp(disch:=omega)[or_imp,forall_and];apply Y;refine aD fun _ Y=>?_;simp(disch:=omega)[or_imp,forall_and];refine cH (jI x { (aF x.l id)with tag:=name } _ hx) ?_;apply Y;simp(disch:=omega)[or_imp,forall_and];apply Z;apply aB;subst c6;have e:=lW (name:=name) (v:=v) (num:=num) c1 c2 c3 (.inr c5) (n:= { (aF x.l id)with tag:=name }) (by simp [chN]);simp [aL,e]
  try simp at c6
  refine zr qAr81 fun _ _ Z=>?_;simp(disch:=omega)[or_imp,forall_and];apply Z;refine zi ?_;refine⟨fun c7=>?_,fun c7=>?_⟩
  ·try simp at c7
   exact absurd c7 g4
  try simp at c7
  refine zk [3,4,5,6,12,13,14,48] ?_;refine zr qAr81 fun _ _ Z=>?_;simp(disch:=omega)[or_imp,forall_and];apply Z;refine zi ?_;refine⟨fun c8=>?_,fun c8=>?_⟩
  ·try simp at c8
   refine zt qAr81 fun _ _ Z=>?_;refine zs 5 fun _ Y=>?_;simp(disch:=omega)[or_imp,forall_and];apply Y;refine aD fun _ Y=>?_;simp(disch:=omega)[or_imp,forall_and];refine cH (Jo (aF x.l id).attrs ⟨name,v⟩ _ (by omega) hsa) ?_;apply Y;simp(disch:=omega)[or_imp,forall_and];apply Z;apply aK;apply aA;refine zk [6,12,13,14] ?_;refine zr qAr81 fun _ _ Z=>?_;refine zs 2 fun _ Y=>?_;simp(disch:=omega)[or_imp,forall_and];apply Y;refine aD fun _ Y=>?_;simp(disch:=omega)[or_imp,forall_and];refine cH (jI x { (aF x.l id)with attrs:=fB nA (aF x.l id).attrs ⟨name,v⟩ } _ hx) ?_;apply Y;simp(disch:=omega)[or_imp,forall_and];apply Z;apply aB;subst c8;have e:=lW (name:=name) (v:=v) (num:=num) c1 c2 c3 (.inr c5) (n:= { (aF x.l id)with attrs:=fB nA (aF x.l id).attrs ⟨name,v⟩ }) (by simp [chN]);simp [aL,e]
  try simp at c8
  refine zr qAr81 fun _ _ Z=>?_;simp(disch:=omega)[or_imp,forall_and];apply Z;refine zi ?_;refine⟨fun c9=>?_,fun c9=>?_⟩
  ·try simp at c9
   refine zk [3,6,12,13,14] ?_;refine zr qAr81 fun _ _ Z=>?_;simp(disch:=omega)[or_imp,forall_and];and_intros<;>(try omega);apply Z;apply aC;refine zr qAr81 fun _ _ Z=>?_;simp(disch:=omega)[or_imp,forall_and];and_intros<;>(try omega);apply Z;apply aG;refine zk [3,6,12,13,14,16,81,82,83] ?_;refine bI (fun(k:Nat)=> [(83,.d (.v (.int .i64 (k:Int)))),(16,.d (.sl true ((iY nA ((aF x.l id).attrs.take k) name).map cZ)))]) [16,18,83,84,85,86,87,88,89,90,91,92,93,94,95] (fun(k:Nat)=>k≤(aF x.l id).attrs.length) (fun(k:Nat)=>(aF x.l id).attrs.length - k) (0) (by simp <;> rfl) ?_ ?_ ?_
   ·simp [iY]
   ·simp
   rintro k hk;simp only [List.cons_append,List.nil_append];have hdl:=tF nA ((aF x.l id).attrs.take k) name;simp only [List.length_take] at hdl;refine zr qAr81 fun _ _ Z=>?_;simp(disch:=omega)[or_imp,forall_and];apply Z;apply aC;refine zi ?_;refine⟨fun c10=>?_,fun c10=>?_⟩
   ·try simp at c10
    apply aE;apply aA;apply aC;apply aG;refine zr qAr81 fun _ _ Z=>?_;simp(disch:=omega)[or_imp,forall_and];and_intros<;>(try omega);apply Z;refine zk [3,6,12,13,14,16,18,81,82,83] ?_;refine zr qAr81 fun _ _ Z=>?_;simp(disch:=omega)[or_imp,forall_and];apply Z;refine zi ?_;refine⟨fun c11=>?_,fun c11=>?_⟩
    ·try simp at c11
     refine zk [3,6,12,13,14,16,18,81,82,83] ?_;refine zt qAr81 fun _ _ Z=>?_;simp(disch:=omega)[or_imp,forall_and];and_intros<;>(try omega);apply Z;apply aK;apply aA;refine zk [3,6,12,13,14,16,81,82,83] ?_;refine zt qAr81 fun _ _ Z=>?_;simp(disch:=omega)[or_imp,forall_and];and_intros<;>(try omega);apply Z;refine zq (k+1) ?_ ?_ ?_
     ·omega
     ·try dsimp only
      omega
     simp(disch:=omega)[or_imp,forall_and,rK, *]
    try simp at c11
    apply aE;apply aK;apply aA;refine zk [3,6,12,13,14,16,81,82,83] ?_;refine zt qAr81 fun _ _ Z=>?_;simp(disch:=omega)[or_imp,forall_and];and_intros<;>(try omega);apply Z;refine zq (k+1) ?_ ?_ ?_
    ·omega
    ·try dsimp only
     omega
    simp(disch:=omega)[or_imp,forall_and,rK, *]
   try simp at c10
   obtain rfl:k=(aF x.l id).attrs.length:=by omega
   rw [List.take_length] at hdl;simp only [List.take_length];apply bC;apply bB;apply bD;apply aX;apply aA;apply aC;refine zr qAr81 fun _ _ Z=>?_;simp(disch:=omega)[or_imp,forall_and];and_intros<;>(try omega);apply Z;refine zi ?_;refine⟨fun c12=>?_,fun c12=>?_⟩
   ·try simp at c12
    have hh:mW nA (aF x.l id).attrs name=false:=(An nA name).1 (by omega);refine zk [6,12,13,14,16] ?_;refine zr qAr81 fun _ _ Z=>?_;simp(disch:=omega)[or_imp,forall_and];apply Z;apply aB;apply aJ;apply aQ;apply aJ;subst c9;have e:=tB (name:=name) (v:=v) (num:=num) c1 c2 c3 (.inr c5) (by simp [chN,hh]);simp [aL,e]
   try simp at c12
   have hh:mW nA (aF x.l id).attrs name=true:=by
     cases e:mW nA (aF x.l id).attrs name with
     | true=>rfl
     | false=>have:=(An nA name).2 e;omega
   apply aE;apply aA;refine zk [6,12,13,14,16] ?_;refine zt qAr81 fun _ _ Z=>?_;simp(disch:=omega)[or_imp,forall_and];apply Z;apply aK;apply aA;refine zr qAr81 fun _ _ Z=>?_;refine zs 2 fun _ Y=>?_;simp(disch:=omega)[or_imp,forall_and];apply Y;refine aD fun _ Y=>?_;simp(disch:=omega)[or_imp,forall_and];refine cH (jI x { (aF x.l id)with attrs:=iY nA (aF x.l id).attrs name } _ hx) ?_;apply Y;simp(disch:=omega)[or_imp,forall_and];apply Z;apply aB;subst c9;have e:=lW (name:=name) (v:=v) (num:=num) c1 c2 c3 (.inr c5) (n:= { (aF x.l id)with attrs:=iY nA (aF x.l id).attrs name }) (by simp [chN,hh]);simp [aL,e]
  try simp at c9
  refine zk [3,5,6,12,13,14,48] ?_;refine zr qAr81 fun _ _ Z=>?_;simp(disch:=omega)[or_imp,forall_and];apply Z;refine zi ?_;refine⟨fun c13=>?_,fun c13=>?_⟩
  ·try simp at c13
   refine zk [3,5,6,12,13,14] ?_;refine zt qAr81 fun _ _ Z=>?_;refine zs 6 fun _ Y=>?_;simp(disch:=omega)[or_imp,forall_and];and_intros<;>(try omega);apply Y;refine aD fun _ Y=>?_;simp(disch:=omega)[or_imp,forall_and];refine cH (aGm num _) ?_;rw [aJb];apply Y;refine zs 3 fun _ Y=>?_;simp(disch:=omega)[or_imp,forall_and];and_intros<;>(try omega);apply Y;refine aD fun _ Y=>?_;simp(disch:=omega)[or_imp,forall_and];refine cH (aCn ((aF x.l id).styles++ [⟨name,Hc num⟩]) _ (by simp;omega)) ?_;rw [qR,pW nP hss];apply Y;simp(disch:=omega)[or_imp,forall_and];apply Z;apply aK;apply aA;refine zk [6,12,13,14] ?_;refine zr qAr81 fun _ _ Z=>?_;refine zs 2 fun _ Y=>?_;simp(disch:=omega)[or_imp,forall_and];apply Y;refine aD fun _ Y=>?_;simp(disch:=omega)[or_imp,forall_and];refine cH (jI x { (aF x.l id)with styles:=fB nP (aF x.l id).styles ⟨name,Hc num⟩ } _ hx) ?_;apply Y;simp(disch:=omega)[or_imp,forall_and];apply Z;apply aB;subst c13;have e:=lW (name:=name) (v:=v) (num:=num) c1 c2 c3 (.inr c5) (n:= { (aF x.l id)with styles:=fB nP (aF x.l id).styles ⟨name,Hc num⟩ }) (by simp [chN]);simp [aL,e]
  try simp at c13
  refine zr qAr81 fun _ _ Z=>?_;simp(disch:=omega)[or_imp,forall_and];apply Z;refine zi ?_;refine⟨fun c14=>?_,fun c14=>?_⟩
  ·try simp at c14
   apply aC;refine zr qAr81 fun _ _ Z=>?_;refine zs 3 fun _ Y=>?_;simp(disch:=omega)[or_imp,forall_and];apply Y;refine aD fun _ Y=>?_;simp(disch:=omega)[or_imp,forall_and];refine Uj (aCz (aF x.l id).styles name _ (by omega)) ?_;rintro _ _ ⟨⟨gv,hr9⟩,hs9⟩;subst hr9;replace hs9:=hs9.symm;subst hs9;apply Y;simp(disch:=omega)[or_imp,forall_and];apply Z;refine zk [3,6,12,13,14,20] ?_;refine zr qAr81 fun _ _ Z=>?_;simp(disch:=omega)[or_imp,forall_and];apply Z;refine zi ?_;refine⟨fun c15=>?_,fun c15=>?_⟩
   ·try simp at c15
    refine zr qAr81 fun _ _ Z=>?_;simp(disch:=omega)[or_imp,forall_and];apply Z;apply aB;apply aJ;apply aQ;apply aJ;subst c14;have e:=tB (name:=name) (v:=v) (num:=num) c1 c2 c3 (.inr c5) (by simp [chN,c15]);simp [aL,e]
   try simp at c15
   apply aE;apply aA;refine zt qAr81 fun _ _ Z=>?_;refine zs 3 fun _ Y=>?_;simp(disch:=omega)[or_imp,forall_and];apply Y;refine aD fun _ Y=>?_;simp(disch:=omega)[or_imp,forall_and];refine cH (Sv (aF x.l id).styles name _ (by omega) hss) ?_;apply Y;simp(disch:=omega)[or_imp,forall_and];apply Z;apply aK;apply aA;refine zk [6,12,13,14] ?_;refine zr qAr81 fun _ _ Z=>?_;refine zs 2 fun _ Y=>?_;simp(disch:=omega)[or_imp,forall_and];apply Y;refine aD fun _ Y=>?_;simp(disch:=omega)[or_imp,forall_and];refine cH (jI x { (aF x.l id)with styles:=iY nP (aF x.l id).styles name } _ hx) ?_;apply Y;simp(disch:=omega)[or_imp,forall_and];apply Z;apply aB;subst c14;have e:=lW (name:=name) (v:=v) (num:=num) c1 c2 c3 (.inr c5) (n:= { (aF x.l id)with styles:=iY nP (aF x.l id).styles name }) (by simp [chN,c15]);simp [aL,e]
  try simp at c14
  refine zr qAr81 fun _ _ Z=>?_;simp(disch:=omega)[or_imp,forall_and];apply Z;refine zi ?_;refine⟨fun c16=>?_,fun c16=>?_⟩
  ·try simp at c16
   apply aC;refine zk [3,6,12,13,14] ?_;refine zr qAr81 fun _ _ Z=>?_;refine zs 3 fun _ Y=>?_;simp(disch:=omega)[or_imp,forall_and];apply Y;refine aD fun _ Y=>?_;simp(disch:=omega)[or_imp,forall_and];refine cH (Qn (aF x.l id).classes name _ (by omega)) ?_;apply Y;simp only [dV];apply Z;refine zi ?_;refine⟨fun c17=>?_,fun c17=>?_⟩
   ·try simp at c17
    refine zr qAr81 fun _ _ Z=>?_;simp(disch:=omega)[or_imp,forall_and];apply Z;apply aB;apply aJ;apply aQ;apply aJ;subst c16;have e:=tB (name:=name) (v:=v) (num:=num) c1 c2 c3 (.inr c5) (by simp [chN,c17]);simp [aL,e]
   try simp at c17
   apply aE;apply aA;refine zt qAr81 fun _ _ Z=>?_;refine zs 8 fun _ Y=>?_;simp(disch:=omega)[or_imp,forall_and];and_intros<;>(try omega);apply Y;simp(disch:=omega)[or_imp,forall_and];apply Z;apply aK;apply aA;refine zk [6,12,13,14] ?_;refine zr qAr81 fun _ _ Z=>?_;refine zs 2 fun _ Y=>?_;simp(disch:=omega)[or_imp,forall_and];apply Y;refine aD fun _ Y=>?_;simp(disch:=omega)[or_imp,forall_and];refine cH (jI x { (aF x.l id)with classes:=(aF x.l id).classes++ [name] } _ hx) ?_;apply Y;simp(disch:=omega)[or_imp,forall_and];apply Z;apply aB;subst c16;have e:=lW (name:=name) (v:=v) (num:=num) c1 c2 c3 (.inr c5) (n:= { (aF x.l id)with classes:=(aF x.l id).classes++ [name] }) (by simp [chN,c17]);simp [aL,e]
  try simp at c16
  apply aC;refine zk [3,6,12,13,14] ?_;refine zr qAr81 fun _ _ Z=>?_;refine zs 3 fun _ Y=>?_;simp(disch:=omega)[or_imp,forall_and];apply Y;refine aD fun _ Y=>?_;simp(disch:=omega)[or_imp,forall_and];refine cH (Qn (aF x.l id).classes name _ (by omega)) ?_;apply Y;simp(disch:=omega)[or_imp,forall_and];apply Z;refine zi ?_;refine⟨fun c18=>?_,fun c18=>?_⟩
  ·try simp at c18
   refine zr qAr81 fun _ _ Z=>?_;simp(disch:=omega)[or_imp,forall_and];apply Z;apply aB;apply aJ;apply aQ;apply aJ;have e:=tB (name:=name) (v:=v) (num:=num) c1 c2 c3 (.inr c5) (by simp [chN,c6,c7,c8,c9,c13,c14,c16,c18]);simp [aL,e]
  try simp at c18
  apply aE;apply aA;refine zt qAr81 fun _ _ Z=>?_;refine zs 3 fun _ Y=>?_;simp(disch:=omega)[or_imp,forall_and];apply Y;refine aD fun _ Y=>?_;simp(disch:=omega)[or_imp,forall_and];refine cH (aB0 (aF x.l id).classes name _ (by omega)) ?_;apply Y;simp(disch:=omega)[or_imp,forall_and];apply Z;apply aK;apply aA;refine zk [6,12,13,14] ?_;refine zr qAr81 fun _ _ Z=>?_;refine zs 2 fun _ Y=>?_;simp(disch:=omega)[or_imp,forall_and];apply Y;refine aD fun _ Y=>?_;simp(disch:=omega)[or_imp,forall_and];refine cH (jI x { (aF x.l id)with classes:=lG (aF x.l id).classes name } _ hx) ?_;apply Y;simp(disch:=omega)[or_imp,forall_and];apply Z;apply aB;have e:=lW (name:=name) (v:=v) (num:=num) c1 c2 c3 (.inr c5) (n:= { (aF x.l id)with classes:=lG (aF x.l id).classes name }) (by simp [chN,c6,c7,c8,c9,c13,c14,c16,c18]);simp [aL,e]
 try simp at g4
 simp(disch:=omega)[or_imp,forall_and,ga2];apply Z;refine bM (t:=false) (by simp) (fun h=>by cases h) (fun _=>?_);apply aE;apply aA;apply aC;refine zk [1,3,4,5,6,12,13,14] ?_;refine zr qAr81 fun _ _ Z=>?_;simp(disch:=omega)[or_imp,forall_and];apply Z;apply aG;refine zr qAr81 fun _ _ Z=>?_;simp(disch:=omega)[or_imp,forall_and];apply Z;refine zi ?_;refine⟨fun c19=>?_,fun c19=>?_⟩
 ·try simp at c19
  omega
 try simp at c19
 refine zr qAr81 fun _ _ Z=>?_;simp(disch:=omega)[or_imp,forall_and];apply Z;refine zi ?_;refine⟨fun c20=>?_,fun c20=>?_⟩
 ·try simp at c20
  refine zk [4,6,12,13,14] ?_;refine zt qAr81 fun _ _ Z=>?_;simp(disch:=omega)[or_imp,forall_and];apply Z;apply aK;apply aA;refine zr qAr81 fun _ _ Z=>?_;refine zs 2 fun _ Y=>?_;simp(disch:=omega)[or_imp,forall_and];apply Y;refine aD fun _ Y=>?_;simp(disch:=omega)[or_imp,forall_and];refine cH (jI x { (aF x.l id)with text:=v } _ hx) ?_;apply Y;simp(disch:=omega)[or_imp,forall_and];apply Z;apply aB;subst c20;have e:=lW (name:=name) (v:=v) (num:=num) c1 c2 c3 (.inl rfl) (n:= { (aF x.l id)with text:=v }) (by simp [chN]);simp [aL,e]
 try simp at c20
 exact absurd g4 c20
end Go.Proofs.YtbgfljpnhhdkoaaGreat
