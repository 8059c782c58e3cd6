import Derived.Test.YtbgfljpnhhdkoaaGreatWkAr7
set_option linter.all false
set_option maxRecDepth 20000
set_option maxHeartbeats 8000000
open Go.Proofs.Tryz
namespace Go.Proofs.YtbgfljpnhhdkoaaGreat
open Go Go.Vm
variable {σ:List (List D)}
def chN(n:ND)(kind:Int)(name v:ByteArray)(num:Int):Option ND:=
 if kind=0 then some { n with tag:=name }
 else if kind=1 then some { n with text:=v }
 else if kind=2 then some { n with attrs:=fU nA n.attrs ⟨name,v⟩ }
 else if kind=3 then(if mA nA n.attrs name=true then some { n with attrs:=lF nA n.attrs name } else none)
 else if kind=4 then some { n with styles:=fU nP n.styles ⟨name,Av num⟩ }
 else if kind=5 then(if mA nP n.styles name=true then some { n with styles:=lF nP n.styles name } else none)
 else if kind=6 then(if has name n.classes=true then none else some { n with classes:=n.classes++ [name] })
 else(if has name n.classes=true then some { n with classes:=kS n.classes name } else none)
def setX(x:RD)(kind id:Int)(name v:ByteArray)(num:Int):RD×Int:=
 if fP x.l id=false then(x,11)else if id=0 then(x,1)
 else if ¬(kind=1↔(aJ x.l id).kind=1)then(x,14)
 else if ¬kind=1/\dT name=false then(x,2)
 else match chN (aJ x.l id) kind name v num with
  | none=>(x,1)
  | some n=>(⟨x.most,x.next,dK x.l n⟩,0)
section
variable {x:RD} {kind id:Int} {name v:ByteArray} {num:Int}
theorem aBo(h1:fP x.l id=false):setX x kind id name v num=(x,11):=by unfold setX;rw [aK h1]
theorem aMl(h1:fP x.l id=true)(h2:id=0):setX x kind id name v num=(x,1):=by unfold setX;rw [aD (by rw [h1];simp),aK h2]
theorem aCh(h1:fP x.l id=true)(h2:¬id=0)(h3:¬(kind=1↔(aJ x.l id).kind=1)):setX x kind id name v num=(x,14):=by unfold setX;rw [aD (by rw [h1];simp),aD h2,aK h3]
theorem aM7(h1:fP x.l id=true)(h2:¬id=0)(h3:kind=1↔(aJ x.l id).kind=1)(h4:¬kind=1)(h5:dT name=false):setX x kind id name v num=(x,2):=by
 unfold setX;rw [aD (by rw [h1];simp),aD h2,aD (fun h=>h h3),aK ⟨h4,h5⟩]
theorem qZ {n:ND} (h1:fP x.l id=true)(h2:¬id=0)(h3:kind=1↔(aJ x.l id).kind=1)(h5:kind=1\/dT name=true)(h:chN (aJ x.l id) kind name v num=some n):setX x kind id name v num=(⟨x.most,x.next,dK x.l n⟩,0):=by
 unfold setX;rw [aD (by rw [h1];simp),aD h2,aD (fun h=>h h3),aD (by rintro⟨a,b⟩;rcases h5 with h5 | h5;exact a h5;rw [h5] at b;cases b),h]
theorem Dd(h1:fP x.l id=true)(h2:¬id=0)(h3:kind=1↔(aJ x.l id).kind=1)(h5:kind=1\/dT name=true)(h:chN (aJ x.l id) kind name v num=none):setX x kind id name v num=(x,1):=by
 unfold setX;rw [aD (by rw [h1];simp),aD h2,aD (fun h=>h h3),aD (by rintro⟨a,b⟩;rcases h5 with h5 | h5;exact a h5;rw [h5] at b;cases b),h]
end
@[simp] abbrev q35_1:Cfg:=⟨[16,91],[],[],[],[]⟩
theorem aPx(x:RD)(kind id:Int)(name v:ByteArray)(num:Int)(σ:List (List D))(hx:NB x.l)(hn:name.size<=1000)(hsa:Sorted nA (aJ x.l id).attrs)(hss:Sorted nP (aJ x.l id).styles):Ct prog 22 [jQ x,D.int kind,D.int id,D.str name,D.str v,D.int num] σ (fun r σ'=>r= .tup [jQ (setX x kind id name v num).1,D.int (setX x kind id name v num).2]/\σ'=σ):=by
 refine zf func22 ?_;have hfc:=hx.fc id;have hfa:=hx.fa id;have hfs:=hx.fs id;refine zr q35_1 fun _ _ Z=>?_;simp(disch:=omega)[aA,aB];apply Z;refine zr q35_1 fun _ _ Z=>?_;refine zs 2 fun _ Y=>?_;simp(disch:=omega)[aA,aB];apply Y;refine aF fun _ Y=>?_;simp(disch:=omega)[aA,aB];refine cT (oK x id _ hx) ?_;apply Y;simp(disch:=omega)[aA,aB];apply Z;apply aE;refine zr q35_1 fun _ _ Z=>?_;simp(disch:=omega)[aA,aB];apply Z;refine zI ?_ ?_<;>intro c1<;>try simp at c1
 .refine zk [1,2,3,4,5,6,12,13,14] ?_;refine zr q35_1 fun _ _ Z=>?_;simp(disch:=omega)[aA,aB];apply Z;apply aC;have e:=aBo (kind:=kind) (name:=name) (v:=v) (num:=num) c1;simp [aH,e]
 apply zA;apply aE;refine zk [1,2,3,4,5,6,12,13,14] ?_;refine zr q35_1 fun _ _ Z=>?_;simp(disch:=omega)[aA,aB];apply Z;refine zI ?_ ?_<;>intro c2<;>try simp at c2
 .refine zr q35_1 fun _ _ Z=>?_;simp(disch:=omega)[aA,aB];apply Z;apply aC;have e:=aMl (kind:=kind) (name:=name) (v:=v) (num:=num) c1 c2;simp [aH,e]
 apply zA;apply aE;refine zr q35_1 fun _ _ Z=>?_;simp(disch:=omega)[aA,aB];apply Z;refine zI ?_ ?_<;>intro c3<;>try simp at c3
 .refine zk [1,3,4,5,6,12,13,14] ?_;refine zr q35_1 fun _ _ Z=>?_;simp(disch:=omega)[aA,aB];apply Z;apply aC;have e:=aCh (name:=name) (v:=v) (num:=num) c1 c2 c3;simp [aH,e]
 apply zA;apply aE;refine zk [1,3,4,5,6,12,13,14] ?_;refine mH q35_1 fun all hall _ Z=>?_;have ga2:aN all 2=some 42:=hall 2;refine zs 3 fun _ Y=>?_;simp(disch:=omega)[aA,aB,ga2];apply Y;refine zb 42 ?_ ?_<;>intro g4<;>try simp at g4
 .refine zs 1 fun _ Y=>?_;simp(disch:=omega)[aA,aB,ga2];apply Y;refine zg ga2 fun _ Y=>?_;simp(disch:=omega)[aA,aB,ga2];refine cT (xB name _ (by omega)) ?_;apply Y;simp(disch:=omega)[aA,aB,ga2];apply Z;refine zI ?_ ?_<;>intro c5<;>try simp at c5
  .refine zk [1,3,4,5,6,12,13,14] ?_;refine zr q35_1 fun _ _ Z=>?_;simp(disch:=omega)[aA,aB];apply Z;apply aC;have e:=aM7 (v:=v) (num:=num) c1 c2 c3 g4 c5;simp [aH,e]
  apply zA;apply aE;refine zk [1,3,4,5,6,12,13,14] ?_;refine zr q35_1 fun _ _ Z=>?_;simp(disch:=omega)[aA,aB];apply Z;apply aR;refine zr q35_1 fun _ _ Z=>?_;simp(disch:=omega)[aA,aB];apply Z;refine zI ?_ ?_<;>intro c6<;>try simp at c6
  .refine zt q35_1 fun _ _ Z=>?_;simp(disch:=omega)[aA,aB];apply Z;apply zB;refine zk [6,12,13,14] ?_;refine zr q35_1 fun _ _ Z=>?_;refine zs 2 fun _ Y=>?_;simp(disch:=omega)[aA,aB];apply Y;refine aF fun _ Y=>?_;simp(disch:=omega)[aA,aB];refine cT (oJ x { (aJ x.l id)with tag:=name } _ hx) ?_;apply Y;simp(disch:=omega)[aA,aB];apply Z;apply aC;subst c6;have e:=qZ (name:=name) (v:=v) (num:=num) c1 c2 c3 (.inr c5) (n:= { (aJ x.l id)with tag:=name }) (by simp [chN]);simp [aH,e]
  refine zr q35_1 fun _ _ Z=>?_;simp(disch:=omega)[aA,aB];apply Z;refine zI ?_ ?_<;>intro c7<;>try simp at c7
  .exact absurd c7 g4
  refine zk [3,4,5,6,12,13,14,48] ?_;refine zr q35_1 fun _ _ Z=>?_;simp(disch:=omega)[aA,aB];apply Z;refine zI ?_ ?_<;>intro c8<;>try simp at c8
  .refine zt q35_1 fun _ _ Z=>?_;refine zs 5 fun _ Y=>?_;simp(disch:=omega)[aA,aB];apply Y;refine aF fun _ Y=>?_;simp(disch:=omega)[aA,aB];refine cT (Vq (aJ x.l id).attrs ⟨name,v⟩ _ (by omega) hsa) ?_;apply Y;simp(disch:=omega)[aA,aB];apply Z;apply zB;refine zk [6,12,13,14] ?_;refine zr q35_1 fun _ _ Z=>?_;refine zs 2 fun _ Y=>?_;simp(disch:=omega)[aA,aB];apply Y;refine aF fun _ Y=>?_;simp(disch:=omega)[aA,aB];refine cT (oJ x { (aJ x.l id)with attrs:=fU nA (aJ x.l id).attrs ⟨name,v⟩ } _ hx) ?_;apply Y;simp(disch:=omega)[aA,aB];apply Z;apply aC;subst c8;have e:=qZ (name:=name) (v:=v) (num:=num) c1 c2 c3 (.inr c5) (n:= { (aJ x.l id)with attrs:=fU nA (aJ x.l id).attrs ⟨name,v⟩ }) (by simp [chN]);simp [aH,e]
  refine zr q35_1 fun _ _ Z=>?_;simp(disch:=omega)[aA,aB];apply Z;refine zI ?_ ?_<;>intro c9<;>try simp at c9
  .refine zk [3,6,12,13,14] ?_;refine zr q35_1 fun _ _ Z=>?_;simp(disch:=omega)[aA,aB];and_intros<;>(try omega);apply Z;apply aE;refine zr q35_1 fun _ _ Z=>?_;simp(disch:=omega)[aA,aB];and_intros<;>(try omega);apply Z;apply aR;refine zk [3,6,12,13,14,16,81,82,83] ?_;refine aY (fun(k:Nat)=> [(83,.d (.v (.int .i64 (k:Int)))),(16,.d (.sl true ((lF nA ((aJ x.l id).attrs.take k) name).map dA)))]) [16,18,83,84,85,86,87,88,89,90,91,92,93,94,95] (fun(k:Nat)=>k<=(aJ x.l id).attrs.length) (fun(k:Nat)=>(aJ x.l id).attrs.length - k) (0) (by simp <;> rfl) ?_ ?_ ?_
   .simp [lF]
   .simp
   rintro k hk;simp only [aQ,aO];have hdl:=Ed nA ((aJ x.l id).attrs.take k) name;simp only [bG] at hdl;refine zr q35_1 fun _ _ Z=>?_;simp(disch:=omega)[aA,aB];apply Z;apply aE;refine zI ?_ ?_<;>intro c10<;>try simp at c10
   .apply jM;refine zr q35_1 fun _ _ Z=>?_;simp(disch:=omega)[aA,aB];and_intros<;>(try omega);apply Z;refine zk [3,6,12,13,14,16,18,81,82,83] ?_;refine zr q35_1 fun _ _ Z=>?_;simp(disch:=omega)[aA,aB];apply Z;refine zI ?_ ?_<;>intro c11<;>try simp at c11
    .refine zk [3,6,12,13,14,16,18,81,82,83] ?_;refine zt q35_1 fun _ _ Z=>?_;simp(disch:=omega)[aA,aB];and_intros<;>(try omega);apply Z;apply zB;refine zk [3,6,12,13,14,16,81,82,83] ?_;refine zt q35_1 fun _ _ Z=>?_;simp(disch:=omega)[aA,aB];and_intros<;>(try omega);apply Z;refine zq (k+1) ?_ ?_ ?_
     .omega
     .try dsimp only
      omega
     simp(disch:=omega)[aA,aB,yM, *]
    apply mS;refine zk [3,6,12,13,14,16,81,82,83] ?_;refine zt q35_1 fun _ _ Z=>?_;simp(disch:=omega)[aA,aB];and_intros<;>(try omega);apply Z;refine zq (k+1) ?_ ?_ ?_
    .omega
    .try dsimp only
     omega
    simp(disch:=omega)[aA,aB,yM, *]
   obtain rfl:k=(aJ x.l id).attrs.length:=by omega
   rw [dY] at hdl;simp only [dY];apply zE;apply aE;refine zr q35_1 fun _ _ Z=>?_;simp(disch:=omega)[aA,aB];and_intros<;>(try omega);apply Z;refine zI ?_ ?_<;>intro c12<;>try simp at c12
   .have hh:mA nA (aJ x.l id).attrs name=false:=(Ml nA name).1 (by omega);refine zk [6,12,13,14,16] ?_;refine zr q35_1 fun _ _ Z=>?_;simp(disch:=omega)[aA,aB];apply Z;apply aC;subst c9;have e:=Dd (name:=name) (v:=v) (num:=num) c1 c2 c3 (.inr c5) (by simp [chN,hh]);simp [aH,e]
   have hh:mA nA (aJ x.l id).attrs name=true:=by
     cases e:mA nA (aJ x.l id).attrs name with
     | true=>rfl
     | false=>have:=(Ml nA name).2 e;omega
   apply zA;refine zk [6,12,13,14,16] ?_;refine zt q35_1 fun _ _ Z=>?_;simp(disch:=omega)[aA,aB];apply Z;apply zB;refine zr q35_1 fun _ _ Z=>?_;refine zs 2 fun _ Y=>?_;simp(disch:=omega)[aA,aB];apply Y;refine aF fun _ Y=>?_;simp(disch:=omega)[aA,aB];refine cT (oJ x { (aJ x.l id)with attrs:=lF nA (aJ x.l id).attrs name } _ hx) ?_;apply Y;simp(disch:=omega)[aA,aB];apply Z;apply aC;subst c9;have e:=qZ (name:=name) (v:=v) (num:=num) c1 c2 c3 (.inr c5) (n:= { (aJ x.l id)with attrs:=lF nA (aJ x.l id).attrs name }) (by simp [chN,hh]);simp [aH,e]
  refine zk [3,5,6,12,13,14,48] ?_;refine zr q35_1 fun _ _ Z=>?_;simp(disch:=omega)[aA,aB];apply Z;refine zI ?_ ?_<;>intro c13<;>try simp at c13
  .refine zk [3,5,6,12,13,14] ?_;refine zt q35_1 fun _ _ Z=>?_;refine zs 6 fun _ Y=>?_;simp(disch:=omega)[aA,aB];and_intros<;>(try omega);apply Y;refine aF fun _ Y=>?_;simp(disch:=omega)[aA,aB];refine cT (aPw num _) ?_;rw [aTz];apply Y;refine zs 3 fun _ Y=>?_;simp(disch:=omega)[aA,aB];and_intros<;>(try omega);apply Y;refine aF fun _ Y=>?_;simp(disch:=omega)[aA,aB];refine cT (Ry ((aJ x.l id).styles++ [⟨name,Av num⟩]) _ (by simp;omega)) ?_;rw [xI,rP nP hss];apply Y;simp(disch:=omega)[aA,aB];apply Z;apply zB;refine zk [6,12,13,14] ?_;refine zr q35_1 fun _ _ Z=>?_;refine zs 2 fun _ Y=>?_;simp(disch:=omega)[aA,aB];apply Y;refine aF fun _ Y=>?_;simp(disch:=omega)[aA,aB];refine cT (oJ x { (aJ x.l id)with styles:=fU nP (aJ x.l id).styles ⟨name,Av num⟩ } _ hx) ?_;apply Y;simp(disch:=omega)[aA,aB];apply Z;apply aC;subst c13;have e:=qZ (name:=name) (v:=v) (num:=num) c1 c2 c3 (.inr c5) (n:= { (aJ x.l id)with styles:=fU nP (aJ x.l id).styles ⟨name,Av num⟩ }) (by simp [chN]);simp [aH,e]
  refine zr q35_1 fun _ _ Z=>?_;simp(disch:=omega)[aA,aB];apply Z;refine zI ?_ ?_<;>intro c14<;>try simp at c14
  .apply aE;refine zr q35_1 fun _ _ Z=>?_;refine zs 3 fun _ Y=>?_;simp(disch:=omega)[aA,aB];apply Y;refine aF fun _ Y=>?_;simp(disch:=omega)[aA,aB];refine Mo (aOg (aJ x.l id).styles name _ (by omega)) ?_;rintro _ _ ⟨⟨gv,hr9⟩,hs9⟩;subst hr9;replace hs9:=hs9.symm;subst hs9;apply Y;simp(disch:=omega)[aA,aB];apply Z;refine zk [3,6,12,13,14,20] ?_;refine zr q35_1 fun _ _ Z=>?_;simp(disch:=omega)[aA,aB];apply Z;refine zI ?_ ?_<;>intro c15<;>try simp at c15
   .refine zr q35_1 fun _ _ Z=>?_;simp(disch:=omega)[aA,aB];apply Z;apply aC;subst c14;have e:=Dd (name:=name) (v:=v) (num:=num) c1 c2 c3 (.inr c5) (by simp [chN,c15]);simp [aH,e]
   apply zA;refine zt q35_1 fun _ _ Z=>?_;refine zs 3 fun _ Y=>?_;simp(disch:=omega)[aA,aB];apply Y;refine aF fun _ Y=>?_;simp(disch:=omega)[aA,aB];refine cT (aF3 (aJ x.l id).styles name _ (by omega) hss) ?_;apply Y;simp(disch:=omega)[aA,aB];apply Z;apply zB;refine zk [6,12,13,14] ?_;refine zr q35_1 fun _ _ Z=>?_;refine zs 2 fun _ Y=>?_;simp(disch:=omega)[aA,aB];apply Y;refine aF fun _ Y=>?_;simp(disch:=omega)[aA,aB];refine cT (oJ x { (aJ x.l id)with styles:=lF nP (aJ x.l id).styles name } _ hx) ?_;apply Y;simp(disch:=omega)[aA,aB];apply Z;apply aC;subst c14;have e:=qZ (name:=name) (v:=v) (num:=num) c1 c2 c3 (.inr c5) (n:= { (aJ x.l id)with styles:=lF nP (aJ x.l id).styles name }) (by simp [chN,c15]);simp [aH,e]
  refine zr q35_1 fun _ _ Z=>?_;simp(disch:=omega)[aA,aB];apply Z;refine zI ?_ ?_<;>intro c16<;>try simp at c16
  .apply aE;refine zk [3,6,12,13,14] ?_;refine zr q35_1 fun _ _ Z=>?_;refine zs 3 fun _ Y=>?_;simp(disch:=omega)[aA,aB];apply Y;refine aF fun _ Y=>?_;simp(disch:=omega)[aA,aB];refine cT (Ro (aJ x.l id).classes name _ (by omega)) ?_;apply Y;simp only [eJ];apply Z;refine zI ?_ ?_<;>intro c17<;>try simp at c17
   .refine zr q35_1 fun _ _ Z=>?_;simp(disch:=omega)[aA,aB];apply Z;apply aC;subst c16;have e:=Dd (name:=name) (v:=v) (num:=num) c1 c2 c3 (.inr c5) (by simp [chN,c17]);simp [aH,e]
   apply zA;refine zt q35_1 fun _ _ Z=>?_;refine zs 8 fun _ Y=>?_;simp(disch:=omega)[aA,aB];and_intros<;>(try omega);apply Y;simp(disch:=omega)[aA,aB];apply Z;apply zB;refine zk [6,12,13,14] ?_;refine zr q35_1 fun _ _ Z=>?_;refine zs 2 fun _ Y=>?_;simp(disch:=omega)[aA,aB];apply Y;refine aF fun _ Y=>?_;simp(disch:=omega)[aA,aB];refine cT (oJ x { (aJ x.l id)with classes:=(aJ x.l id).classes++ [name] } _ hx) ?_;apply Y;simp(disch:=omega)[aA,aB];apply Z;apply aC;subst c16;have e:=qZ (name:=name) (v:=v) (num:=num) c1 c2 c3 (.inr c5) (n:= { (aJ x.l id)with classes:=(aJ x.l id).classes++ [name] }) (by simp [chN,c17]);simp [aH,e]
  apply aE;refine zk [3,6,12,13,14] ?_;refine zr q35_1 fun _ _ Z=>?_;refine zs 3 fun _ Y=>?_;simp(disch:=omega)[aA,aB];apply Y;refine aF fun _ Y=>?_;simp(disch:=omega)[aA,aB];refine cT (Ro (aJ x.l id).classes name _ (by omega)) ?_;apply Y;simp(disch:=omega)[aA,aB];apply Z;refine zI ?_ ?_<;>intro c18<;>try simp at c18
  .refine zr q35_1 fun _ _ Z=>?_;simp(disch:=omega)[aA,aB];apply Z;apply aC;have e:=Dd (name:=name) (v:=v) (num:=num) c1 c2 c3 (.inr c5) (by simp [chN,c6,c7,c8,c9,c13,c14,c16,c18]);simp [aH,e]
  apply zA;refine zt q35_1 fun _ _ Z=>?_;refine zs 3 fun _ Y=>?_;simp(disch:=omega)[aA,aB];apply Y;refine aF fun _ Y=>?_;simp(disch:=omega)[aA,aB];refine cT (aJw (aJ x.l id).classes name _ (by omega)) ?_;apply Y;simp(disch:=omega)[aA,aB];apply Z;apply zB;refine zk [6,12,13,14] ?_;refine zr q35_1 fun _ _ Z=>?_;refine zs 2 fun _ Y=>?_;simp(disch:=omega)[aA,aB];apply Y;refine aF fun _ Y=>?_;simp(disch:=omega)[aA,aB];refine cT (oJ x { (aJ x.l id)with classes:=kS (aJ x.l id).classes name } _ hx) ?_;apply Y;simp(disch:=omega)[aA,aB];apply Z;apply aC;have e:=qZ (name:=name) (v:=v) (num:=num) c1 c2 c3 (.inr c5) (n:= { (aJ x.l id)with classes:=kS (aJ x.l id).classes name }) (by simp [chN,c6,c7,c8,c9,c13,c14,c16,c18]);simp [aH,e]
 simp(disch:=omega)[aA,aB,ga2];apply Z;refine bA (t:=false) (by simp) (fun h=>by cases h) (fun _=>?_);apply zA;apply aE;refine zk [1,3,4,5,6,12,13,14] ?_;refine zr q35_1 fun _ _ Z=>?_;simp(disch:=omega)[aA,aB];apply Z;apply aR;refine zr q35_1 fun _ _ Z=>?_;simp(disch:=omega)[aA,aB];apply Z;refine zI ?_ ?_<;>intro c19<;>try simp at c19
 .omega
 refine zr q35_1 fun _ _ Z=>?_;simp(disch:=omega)[aA,aB];apply Z;refine zI ?_ ?_<;>intro c20<;>try simp at c20
 .refine zk [4,6,12,13,14] ?_;refine zt q35_1 fun _ _ Z=>?_;simp(disch:=omega)[aA,aB];apply Z;apply zB;refine zr q35_1 fun _ _ Z=>?_;refine zs 2 fun _ Y=>?_;simp(disch:=omega)[aA,aB];apply Y;refine aF fun _ Y=>?_;simp(disch:=omega)[aA,aB];refine cT (oJ x { (aJ x.l id)with text:=v } _ hx) ?_;apply Y;simp(disch:=omega)[aA,aB];apply Z;apply aC;subst c20;have e:=qZ (name:=name) (v:=v) (num:=num) c1 c2 c3 (.inl rfl) (n:= { (aJ x.l id)with text:=v }) (by simp [chN]);simp [aH,e]
 exact absurd g4 c20
structure EN where
 n:ND
 o:Nat
 t:Nat
structure DS where
 most:Int
 next:Int
 ck:Nat
 es:List EN
abbrev DS.l(d:DS):List ND:=d.es.map EN.n
abbrev DS.x(d:DS):RD:=⟨d.most,d.next,d.l⟩
abbrev jU(n:ND):List D:= [D.int n.ID,D.int n.kind,D.str n.tag,D.str n.text,.sl false (n.classes.map D.str),.sl false (n.attrs.map dA),.sl false (n.styles.map cQ),D.int n.parent,.xs 1 (n.kids.map D.int)]
abbrev aY3(n:ND):List D:= [D.int n.ID,D.int n.kind,D.str n.tag,D.str n.text,.sl true (n.classes.map D.str),.sl true (n.attrs.map dA),.sl true (n.styles.map cQ),D.int n.parent,.sl false (n.kids.map D.int)]
def kvE(e:EN):Value×Nat×D:=(.int .i64 e.n.ID,e.t,.ref e.o 0)
abbrev At(M:Nat)(d:DS):List D:= [D.int d.most,D.int d.next,.mp M (.int .i64) d.ck (d.es.map kvE)]
structure DO(m M:Nat)(d:DS)(σ:List (List D)):Prop where
 hm:σ[m]?=some (At M d)
 hn:∀e∈d.es,σ[e.o]?=some (jU e.n)
 nm:∀e∈d.es,e.o≠m
 nd:(d.es.map EN.o).Nodup
 hM:M<σ.length
theorem uD(k:Int):MapKept.IsKey (.int .i64) (.int .i64 k):=rfl
theorem aBx {m:Nat} {cs:List D} (h:σ[m]?=some cs)(i N:Nat)(kd:TypeDesc)(ck:Nat)(kvs:List (Value×Nat×D)):putM σ m i N kd ck kvs=σ.set m (cs.set i (.mp N kd ck kvs)):=by
 unfold putM;rw [lN,h];rfl
theorem oL {es:List EN} {e:EN} (he:e∈es)(z:D):Zm (es.map kvE) (.int .i64 e.n.ID) z (.ref e.o 0) true:=by
 obtain⟨j,hj,rfl⟩:=iN he;exact .inl ⟨rfl,j,es[j].t,by rw [cF,aS hj];rfl⟩
theorem zY {l:List ND} {id:Int} (h:fP l id=false):∀n∈l,n.ID≠id:=by
 intro n hn e;unfold fP kU at h;have:(l.find? fun n=>decide (n.ID=id))=none:=by simpa using h
 rw [nQ] at this;exact this n hn (by simpa using e)
theorem Bm {es:List EN} {id:Int} (h:fP (es.map EN.n) id=false)(z:D):Zm (es.map kvE) (.int .i64 id) z z false:=
 .inr ⟨rfl,rfl,fun kv hkv=>by
  obtain⟨e,he,rfl⟩:=aV.1 hkv;intro h2;simp only [kvE,Value.int.injEq,sG] at h2;exact zY h e.n (aV.2 ⟨e,he,rfl⟩) h2⟩
theorem yU {d:DS} {id:Int} (h:fP d.l id=true):∃e∈d.es,e.n.ID=id/\aJ d.l id=e.n:=by
 unfold fP at h;cases hq:kU d.l id with
 | none=>rw [hq] at h;cases h
 | some n=>
  obtain⟨h1,h2⟩:=oS hq;obtain⟨e,he,rfl⟩:=aV.1 h1;exact⟨e,he,h2,by unfold aJ;rw [hq];rfl⟩
theorem Td {d:DS} {e:EN} (he:e∈d.es):fP d.l e.n.ID=true:=by
 cases h:fP d.l e.n.ID with
 | true=>rfl
 | false=>exact absurd rfl (zY h e.n (aV.2 ⟨e,he,rfl⟩))
theorem Ei(m M:Nat)(d:DS)(σ:List (List D))(ho:DO m M d σ)(hl:d.es.length<=100000):Ct prog 56 [.ref m 0] σ (fun r σ'=>r= .int ((d.es.length:Int) - 1)/\σ'=σ):=by
 refine zf func56 ?_;have hq:=ho.hm;refine zr ⟨[],[],[],[],[7,7,1000007]⟩ fun _ _ Z=>?_;simp[hq];apply Z;refine zr ⟨[],[],[],[],[7,7,1000007]⟩ fun _ _ Z=>?_;refine zs 5 fun _ Y=>?_;simp[hq];refine⟨m,2,d.ck,_,⟨_,hq,rfl⟩,?_⟩;simp only [bQ];and_intros<;>(try omega);apply Y;simp[hq];and_intros<;>(try omega);apply Z;apply aC;simp [aH]
theorem Da(m M:Nat)(d:DS)(σ:List (List D))(ho:DO m M d σ)(hl:d.es.length<=100000)(hmo:0<=d.most/\d.most<=100000):Ct prog 82 [.ref m 0] σ (fun r σ'=>r= .int (d.most - ((d.es.length:Int) - 1))/\σ'=σ):=by
 refine zf func82 ?_;have hq:=ho.hm;refine bB fun _ _ Z=>?_;simp[hq];apply Z;refine zd ⟨[],[],[],[],[]⟩ [.op {},.op {},.op {},.op {rO:=true},.op {},.read,.op {},.op {}] fun all hall _ Z=>?_;refine kF 5 fun _ Y=>?_;simp[hq];apply Y;refine bY fun _ Y=>?_;simp[hq];refine zdr (Ei m M d _ ho hl) ?_;apply Y;simp[hq];and_intros<;>(try omega);apply Z;apply aC;simp [aH]
theorem aWo {a0 a1 a2 a3 a4 a5 a6 a7 a8 b:D} :([a0,a1,a2,a3,a4,a5,a6,a7,a8]:List D).set 8 b= [a0,a1,a2,a3,a4,a5,a6,a7,b]:=rfl
theorem aGe(o:Nat)(n:ND)(σ:List (List D))(hq:σ[o]?=some (jU n))(h1:n.kids.length<=1000)(h2:n.classes.length<=1000)(h3:n.attrs.length<=1000)(h4:n.styles.length<=1000):Ct prog 66 [.ref o 0] σ (fun r σ'=>r= .ref (σ.length+1) 0/\σ'=σ++ [[],aY3 n]):=by
 refine zf func66 ?_;refine Zt o 8 1 (es:=n.kids.map D.int) hq rfl (by decide) fun cap rest hcap hcm hrest hes=>?_;simp only [bQ,aWo] at hcap hrest |-;rw [uH (f:=D.int) (fun _=>rfl)];refine zr ⟨[],[],[3],[],[]⟩ fun _ _ Z=>?_;simp[bI,aX,aI,aG,hq,aM hq,iF hq,fA hq,iO hq,gB hq,fM,dF,eP,cU,fG,dE,fE,dD];apply Z;refine zr ⟨[],[],[3],[],[]⟩ fun _ _ Z=>?_;simp[bI,aX,aI,aG,hq,aM hq,iF hq,fA hq,iO hq,gB hq,fM,dF,eP,cU,fG,dE,fE,dD];and_intros<;>(try omega);apply Z;refine zk [0,2,3] ?_;refine zd ⟨[],[],[3],[],[]⟩ [.op {},.op {},.op {},.op {rO:=true},.pure,.op {},.op {},.op {},.op {rO:=true},.read,.op {},.op {rO:=true,wO:=true},.op {},.op {rO:=true,wO:=true}] fun all hall _ Z=>?_;refine kF 4 fun _ Y=>?_;simp[bI,aX,aI,aG,hq,aM hq,iF hq,fA hq,iO hq,gB hq,fM,dF,eP,cU,fG,dE,fE,dD];apply Y;refine bY fun _ Y=>?_;simp[bI,aX,aI,aG,hq,aM hq,iF hq,fA hq,iO hq,gB hq,fM,dF,eP,cU,fG,dE,fE,dD];refine wI (fun _=>(Mj n.classes _ (by omega))) ?_;apply Y;refine kF 4 fun _ Y=>?_;simp[bI,aX,aI,aG,hq,aM hq,iF hq,fA hq,iO hq,gB hq,fM,dF,eP,cU,fG,dE,fE,dD];apply Y;refine bY fun _ Y=>?_;simp[bI,aX,aI,aG,hq,aM hq,iF hq,fA hq,iO hq,gB hq,fM,dF,eP,cU,fG,dE,fE,dD];refine zdr (aDx σ.length cap n.kids rest _ (by omega) (by simp [fM])) ?_;apply Y;simp[bI,aX,aI,aG,hq,aM hq,iF hq,fA hq,iO hq,gB hq,fM,dF,eP,cU,fG,dE,fE,dD];apply Z;refine zk [0,2,3] ?_;refine zd ⟨[],[],[3],[],[]⟩ [.op {},.op {},.op {},.op {rO:=true},.pure,.op {},.op {},.op {},.op {rO:=true},.pure,.op {},.op {rO:=true,wO:=true},.op {},.op {rO:=true,wO:=true}] fun all hall _ Z=>?_;refine kF 4 fun _ Y=>?_;simp[bI,aX,aI,aG,hq,aM hq,iF hq,fA hq,iO hq,gB hq,fM,dF,eP,cU,fG,dE,fE,dD];apply Y;refine bY fun _ Y=>?_;simp[bI,aX,aI,aG,hq,aM hq,iF hq,fA hq,iO hq,gB hq,fM,dF,eP,cU,fG,dE,fE,dD];refine wI (fun _=>(aEk n.attrs _ (by omega))) ?_;apply Y;refine kF 4 fun _ Y=>?_;simp[bI,aX,aI,aG,hq,aM hq,iF hq,fA hq,iO hq,gB hq,fM,dF,eP,cU,fG,dE,fE,dD];apply Y;refine bY fun _ Y=>?_;simp[bI,aX,aI,aG,hq,aM hq,iF hq,fA hq,iO hq,gB hq,fM,dF,eP,cU,fG,dE,fE,dD];refine wI (fun _=>(aEg n.styles _ (by omega))) ?_;apply Y;simp[bI,aX,aI,aG,hq,aM hq,iF hq,fA hq,iO hq,gB hq,fM,dF,eP,cU,fG,dE,fE,dD];apply Z;refine zk [2,3] ?_;refine zr ⟨[],[],[3],[],[]⟩ fun _ _ Z=>?_;simp[bI,aX,aI,aG,hq,aM hq,iF hq,fA hq,iO hq,gB hq,fM,dF,eP,cU,fG,dE,fE,dD];apply Z;refine Xr o 8 1 σ.length n.kids.length cap (n.kids.map D.int) _ (n.kids.map D.int++rest) (iF hq _ _) rfl (by simp [fM]) (by have:=pY hq;omega) (by decide) (by simp [hrest];omega) (by simp) hes (by rw [uH (f:=D.int) (fun _=>rfl)];exact dC _ _) ?_;simp only [aWo,iO hq,dF];apply aC;simp [aH];exact Cc hq
theorem NB.en {d:DS} (h:NB d.l) {e:EN} (he:e∈d.es):e.n.kids.length<=1000/\e.n.classes.length<=1000/\e.n.attrs.length<=1000/\e.n.styles.length<=1000:=by
 have hm:e.n∈d.l:=aV.2 ⟨e,he,rfl⟩;exact⟨h.kids _ hm,h.cls _ hm,h.ats _ hm,h.sts _ hm⟩
theorem aQs(m M:Nat)(d:DS)(e:EN)(σ:List (List D))(ho:DO m M d σ)(hx:NB d.l)(he:e∈d.es):Ct prog 15 [.ref m 0,D.int e.n.ID] σ (fun r σ'=>r= .tup [Fg e.n,.bool true]/\∃J,σ'=σ++J):=by
 refine zf func15 ?_;have hq:=ho.hm;have hne:=ho.hn e he;obtain⟨b1,b2,b3,b4⟩:=hx.en he;refine bB fun _ _ Z=>?_;simp[hq,hne,bI,aX,aI,aG];apply Z;refine bB fun _ _ Z=>?_;refine zs 6 fun _ Y=>?_;simp[hq,hne,bI,aX,aI,aG];refine⟨m,2,d.ck,_,.ref e.o 0,.inr ⟨⟨⟨_,hq,rfl⟩,uD _,oL he _⟩,?_⟩⟩;and_intros<;>(try omega);apply Y;simp[hq,hne,bI,aX,aI,aG];apply Z;apply aE;refine zk [4,5,6,7] ?_;refine bB fun _ _ Z=>?_;simp[hq,hne,bI,aX,aI,aG];apply Z;refine zI ?_ ?_<;>intro c1<;>try simp at c1
 apply zA;refine bB fun _ _ Z=>?_;refine zs 1 fun _ Y=>?_;simp[hq,hne,bI,aX,aI,aG];apply Y;refine aF fun _ Y=>?_;simp[hq,hne,bI,aX,aI,aG];refine cT (aGe e.o e.n _ hne b1 b2 b3 b4) ?_;apply Y;simp[hq,hne,bI,aX,aI,aG];apply Z;apply aC;simp [aH]
theorem aQq(m M:Nat)(d:DS)(id:Int)(σ:List (List D))(ho:DO m M d σ)(hno:fP d.l id=false):Ct prog 15 [.ref m 0,D.int id] σ (fun r σ'=>r= .tup [aX2 Ts,.bool false]/\∃J,σ'=σ++J):=by
 refine zf func15 ?_;have hq:=ho.hm;refine bB fun _ _ Z=>?_;simp[hq];apply Z;refine bB fun _ _ Z=>?_;refine zs 6 fun _ Y=>?_;simp[hq];refine⟨m,2,d.ck,_,.v (.pointer none),.inl ⟨⟨⟨_,hq,rfl⟩,uD _,Bm hno _⟩,?_⟩⟩;and_intros<;>(try omega);apply Y;simp[hq];apply Z;apply aE;refine zk [4,5,6,7] ?_;refine bB fun _ _ Z=>?_;simp[hq];apply Z;refine zI ?_ ?_<;>intro c1<;>try simp at c1
 refine bB fun _ _ Z=>?_;simp[hq];apply Z;apply aC;simp [aH,Ts]
theorem Wv {f:FuncId} {args:List D} {R:D->Prop} (h:Ct prog f args σ (fun r σ'=>R r/\∃J,σ'=σ++J))(hs:∀r,R r->Sc σ.length r):Ct prog f args σ (fun r σ'=>R r/\σ'=σ):=
 h.trim fun r σ' ⟨hr,J,hs'⟩=>⟨σ,J,hs',rfl,hs r hr,fun n cs h=> .inl h,hr,rfl⟩
theorem aJb(m M:Nat)(d:DS)(id:Int)(σ:List (List D))(ho:DO m M d σ)(hx:NB d.l):Ct prog 15 [.ref m 0,D.int id] σ (fun r σ'=>r= .tup [Fg (aJ d.l id),.bool (fP d.l id)]/\σ'=σ):=by
 cases hl:fP d.l id with
 | true=>
  obtain⟨e,he,rfl,hf⟩:=yU hl;rw [hf];exact Wv (aQs m M d e σ ho hx he) fun r hr=>by rw [hr];exact Se (aNn _ _) (Sc.v _)
 | false =>
  have hz:aJ d.l id=Ts:=by
   unfold aJ;unfold fP at hl;cases hq:kU d.l id with
   | none=>rfl
   | some n=>rw [hq] at hl;cases hl
  rw [hz];refine(Wv ((aQq m M d id σ ho hl).strip (Q':=fun r σ'=>r= .tup [Fg Ts,.bool false]/\∃J,σ'=σ++J) fun r σ' ⟨hr,hs⟩=>?_) fun r hr=>by rw [hr];exact Se (aNn _ _) (Sc.v _));subst hr;exact⟨by simp [D.plain],by simp [D.strip,D.s2,D.s1,Ts],hs⟩
structure EO(m M q:Nat)(d:DS)(bel:Int->List Int)(id:Int)(l:List Int)(σ:List (List D)):Prop where
 hm:σ[m]?=some (At M d)
 hcl:∀i∈bel id,∀e∈d.es,e.n.ID=i->σ[e.o]?=some (jU e.n)
 hq:σ[q]?=some [.xs 1 (l.map D.int)]
 hl:l.length+(bel id).length<=100000
structure EF(m q:Nat)(d:DS)(bel:Int->List Int)(rk:Int->Nat):Prop where
 qm:q≠m
 qo:∀e∈d.es,e.o≠q
 nm:∀e∈d.es,e.o≠m
 nd:(d.es.map EN.o).Nodup
 nb:NB d.l
 ids:∀e∈d.es,aJ d.l e.n.ID=e.n
 tr:Tr d.l bel rk
 kids:∀e∈d.es,∀k∈e.n.kids,fP d.l k=true
theorem Tr.self {l:List ND} {bel:Int->List Int} {rk:Int->Nat} (h:Tr l bel rk)(id:Int):id∈bel id:=by rw [h.eq id];exact dH
theorem Uy {d:DS} (h:(d.es.map EN.o).Nodup) {a b:EN} (ha:a∈d.es)(hb:b∈d.es)(e:a.o=b.o):a=b:=by
 obtain⟨i,hi,rfl⟩:=iN ha;obtain⟨j,hj,rfl⟩:=iN hb;have hp:=qR.1 h;rcases vK i j with h1 | rfl | h1
 .exact absurd e (by have:=hp i j (by simpa using hi) (by simpa using hj) h1;rwa [kN,kN] at this)
 .rfl
 exact absurd e.symm (by have:=hp j i (by simpa using hj) (by simpa using hi) h1;rwa [kN,kN] at this)
end Go.Proofs.YtbgfljpnhhdkoaaGreat
