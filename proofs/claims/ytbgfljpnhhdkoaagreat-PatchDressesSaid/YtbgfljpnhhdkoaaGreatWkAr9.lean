import Derived.Test.YtbgfljpnhhdkoaaGreatWkAr7
set_option linter.all false
set_option maxRecDepth 20000
set_option maxHeartbeats 8000000
open Go.Proofs.Tryz
namespace Go.Proofs.YtbgfljpnhhdkoaaGreat
open Go Go.Vm
variable {Y:List Int}{args cs row:List D}{bel:Int->List Int}{o q:Nat}{rk:Int->Nat}{σ:List (List D)}
def chN(n:ND)(kind:Int)(name v:ByteArray)(num:Int):Option ND:=
 if kind=0 then some { n with tag:=name }
 else if kind=1 then some { n with text:=v }
 else if kind=2 then some { n with attrs:=gS nA n.attrs ⟨name,v⟩ }
 else if kind=3 then(if jJ nA n.attrs name=true then some { n with attrs:=lN nA n.attrs name } else none)
 else if kind=4 then some { n with styles:=gS nP n.styles ⟨name,Ny num⟩ }
 else if kind=5 then(if jJ nP n.styles name=true then some { n with styles:=lN nP n.styles name } else none)
 else if kind=6 then(if has name n.classes=true then none else some { n with classes:=n.classes++ [name] })
 else(if has name n.classes=true then some { n with classes:=kX n.classes name } else none)
def setX(x:RD)(kind id:Int)(name v:ByteArray)(num:Int):RD×Int:=
 if eN x.l id=false then(x,11)else if id=0 then(x,1)
 else if ¬(kind=1↔(aG x.l id).kind=1)then(x,14)
 else if ¬kind=1/\fF name=false then(x,2)
 else match chN (aG x.l id) kind name v num with
  | none=>(x,1)
  | some n=>(⟨x.most,x.next,fI x.l n⟩,0)
section
variable {x:RD} {kind id:Int} {name v:ByteArray} {num:Int}
theorem Rr(h1:eN x.l id=false):setX x kind id name v num=(x,11):=by unfold setX;rw [aI h1]
theorem aH7(h1:eN x.l id=true)(h2:id=0):setX x kind id name v num=(x,1):=by unfold setX;rw [aC (by rw [h1];simp),aI h2]
theorem aCl(h1:eN x.l id=true)(h2:¬id=0)(h3:¬(kind=1↔(aG x.l id).kind=1)):setX x kind id name v num=(x,14):=by unfold setX;rw [aC (by rw [h1];simp),aC h2,aI h3]
theorem aOn(h1:eN x.l id=true)(h2:¬id=0)(h3:kind=1↔(aG x.l id).kind=1)(h4:¬kind=1)(h5:fF name=false):setX x kind id name v num=(x,2):=by
 unfold setX;rw [aC (by rw [h1];simp),aC h2,aC (fun h=>h h3),aI ⟨h4,h5⟩]
theorem rD {n:ND} (h1:eN x.l id=true)(h2:¬id=0)(h3:kind=1↔(aG x.l id).kind=1)(h5:kind=1\/fF name=true)(h:chN (aG x.l id) kind name v num=some n):setX x kind id name v num=(⟨x.most,x.next,fI x.l n⟩,0):=by
 unfold setX;rw [aC (by rw [h1];simp),aC h2,aC (fun h=>h h3),aC (by rintro⟨a,b⟩;rcases h5 with h5 | h5;exact a h5;rw [h5] at b;cases b),h]
theorem Ds(h1:eN x.l id=true)(h2:¬id=0)(h3:kind=1↔(aG x.l id).kind=1)(h5:kind=1\/fF name=true)(h:chN (aG x.l id) kind name v num=none):setX x kind id name v num=(x,1):=by
 unfold setX;rw [aC (by rw [h1];simp),aC h2,aC (fun h=>h h3),aC (by rintro⟨a,b⟩;rcases h5 with h5 | h5;exact a h5;rw [h5] at b;cases b),h]
end
@[simp] abbrev q38_1:Cfg:=⟨[16,91],[],[],[],[]⟩
theorem aBw(x:RD)(kind id:Int)(name v:ByteArray)(num:Int)(σ:List (List D))(hx:NB x.l)(hn:name.size<=1000)(hsa:Sorted nA (aG x.l id).attrs)(hss:Sorted nP (aG x.l id).styles):Ct prog 22 [gB x,D.int kind,D.int id,D.str name,D.str v,D.int num] σ (fun r σ'=>r= .tup [gB (setX x kind id name v num).1,D.int (setX x kind id name v num).2]/\σ'=σ):=by
 refine zf func22 ?_;have hfc:=hx.fc id;have hfa:=hx.fa id;have hfs:=hx.fs id;refine zr q38_1 fun _ _ Z=>?_;simp(disch:=omega)[aB,aA];apply Z;refine zr q38_1 fun _ _ Z=>?_;refine zs 2 fun _ Y=>?_;simp(disch:=omega)[aB,aA];apply Y;refine aE fun _ Y=>?_;simp(disch:=omega)[aB,aA];refine cB (lD x id _ hx) ?_;apply Y;simp(disch:=omega)[aB,aA];apply Z;apply aF;refine zr q38_1 fun _ _ Z=>?_;simp(disch:=omega)[aB,aA];apply Z;refine zI ?_ ?_<;>intro c1<;>try simp at c1
 .refine zk [1,2,3,4,5,6,12,13,14] ?_;refine zr q38_1 fun _ _ Z=>?_;simp(disch:=omega)[aB,aA];apply Z;apply aD;have e:=Rr (kind:=kind) (name:=name) (v:=v) (num:=num) c1;simp [aK,e]
 apply zA;apply aF;refine zk [1,2,3,4,5,6,12,13,14] ?_;refine zr q38_1 fun _ _ Z=>?_;simp(disch:=omega)[aB,aA];apply Z;refine zI ?_ ?_<;>intro c2<;>try simp at c2
 .refine zr q38_1 fun _ _ Z=>?_;simp(disch:=omega)[aB,aA];apply Z;apply aD;have e:=aH7 (kind:=kind) (name:=name) (v:=v) (num:=num) c1 c2;simp [aK,e]
 apply zA;apply aF;refine zr q38_1 fun _ _ Z=>?_;simp(disch:=omega)[aB,aA];apply Z;refine zI ?_ ?_<;>intro c3<;>try simp at c3
 .refine zk [1,3,4,5,6,12,13,14] ?_;refine zr q38_1 fun _ _ Z=>?_;simp(disch:=omega)[aB,aA];apply Z;apply aD;have e:=aCl (name:=name) (v:=v) (num:=num) c1 c2 c3;simp [aK,e]
 apply zA;apply aF;refine zk [1,3,4,5,6,12,13,14] ?_;refine pB q38_1 fun all hall _ Z=>?_;have ga2:aT all 2=some 42:=hall 2;refine zs 3 fun _ Y=>?_;simp(disch:=omega)[aB,aA,ga2];apply Y;refine zb 42 ?_ ?_<;>intro g4<;>try simp at g4
 .refine zs 1 fun _ Y=>?_;simp(disch:=omega)[aB,aA,ga2];apply Y;refine zg ga2 fun _ Y=>?_;simp(disch:=omega)[aB,aA,ga2];refine cB (Ku name _ (by omega)) ?_;apply Y;simp(disch:=omega)[aB,aA,ga2];apply Z;refine zI ?_ ?_<;>intro c5<;>try simp at c5
  .refine zk [1,3,4,5,6,12,13,14] ?_;refine zr q38_1 fun _ _ Z=>?_;simp(disch:=omega)[aB,aA];apply Z;apply aD;have e:=aOn (v:=v) (num:=num) c1 c2 c3 g4 c5;simp [aK,e]
  apply zA;apply aF;refine zk [1,3,4,5,6,12,13,14] ?_;refine zr q38_1 fun _ _ Z=>?_;simp(disch:=omega)[aB,aA];apply Z;apply aS;refine zr q38_1 fun _ _ Z=>?_;simp(disch:=omega)[aB,aA];apply Z;refine zI ?_ ?_<;>intro c6<;>try simp at c6
  .refine zt q38_1 fun _ _ Z=>?_;simp(disch:=omega)[aB,aA];apply Z;apply zB;refine zk [6,12,13,14] ?_;refine zr q38_1 fun _ _ Z=>?_;refine zs 2 fun _ Y=>?_;simp(disch:=omega)[aB,aA];apply Y;refine aE fun _ Y=>?_;simp(disch:=omega)[aB,aA];refine cB (oJ x { (aG x.l id)with tag:=name } _ hx) ?_;apply Y;simp(disch:=omega)[aB,aA];apply Z;apply aD;subst c6;have e:=rD (name:=name) (v:=v) (num:=num) c1 c2 c3 (.inr c5) (n:= { (aG x.l id)with tag:=name }) (by simp [chN]);simp [aK,e]
  refine zr q38_1 fun _ _ Z=>?_;simp(disch:=omega)[aB,aA];apply Z;refine zI ?_ ?_<;>intro c7<;>try simp at c7
  .exact absurd c7 g4
  refine zk [3,4,5,6,12,13,14,48] ?_;refine zr q38_1 fun _ _ Z=>?_;simp(disch:=omega)[aB,aA];apply Z;refine zI ?_ ?_<;>intro c8<;>try simp at c8
  .refine zt q38_1 fun _ _ Z=>?_;refine zs 5 fun _ Y=>?_;simp(disch:=omega)[aB,aA];apply Y;refine aE fun _ Y=>?_;simp(disch:=omega)[aB,aA];refine cB (Vh (aG x.l id).attrs ⟨name,v⟩ _ (by omega) hsa) ?_;apply Y;simp(disch:=omega)[aB,aA];apply Z;apply zB;refine zk [6,12,13,14] ?_;refine zr q38_1 fun _ _ Z=>?_;refine zs 2 fun _ Y=>?_;simp(disch:=omega)[aB,aA];apply Y;refine aE fun _ Y=>?_;simp(disch:=omega)[aB,aA];refine cB (oJ x { (aG x.l id)with attrs:=gS nA (aG x.l id).attrs ⟨name,v⟩ } _ hx) ?_;apply Y;simp(disch:=omega)[aB,aA];apply Z;apply aD;subst c8;have e:=rD (name:=name) (v:=v) (num:=num) c1 c2 c3 (.inr c5) (n:= { (aG x.l id)with attrs:=gS nA (aG x.l id).attrs ⟨name,v⟩ }) (by simp [chN]);simp [aK,e]
  refine zr q38_1 fun _ _ Z=>?_;simp(disch:=omega)[aB,aA];apply Z;refine zI ?_ ?_<;>intro c9<;>try simp at c9
  .refine zk [3,6,12,13,14] ?_;refine zr q38_1 fun _ _ Z=>?_;simp(disch:=omega)[aB,aA];and_intros<;>(try omega);apply Z;apply aF;refine zr q38_1 fun _ _ Z=>?_;simp(disch:=omega)[aB,aA];and_intros<;>(try omega);apply Z;apply aS;refine zk [3,6,12,13,14,16,81,82,83] ?_;refine aZ (fun(k:Nat)=> [(83,.d (.v (.int .i64 (k:Int)))),(16,.d (.sl true ((lN nA ((aG x.l id).attrs.take k) name).map dU)))]) [16,18,83,84,85,86,87,88,89,90,91,92,93,94,95] (fun(k:Nat)=>k<=(aG x.l id).attrs.length) (fun(k:Nat)=>(aG x.l id).attrs.length - k) (0) (by simp <;> rfl) ?_ ?_ ?_
   .simp [lN]
   .simp
   rintro k hk;simp only [aP,aN];have hdl:=Dr nA ((aG x.l id).attrs.take k) name;simp only [bF] at hdl;refine zr q38_1 fun _ _ Z=>?_;simp(disch:=omega)[aB,aA];apply Z;apply aF;refine zI ?_ ?_<;>intro c10<;>try simp at c10
   .apply kR;refine zr q38_1 fun _ _ Z=>?_;simp(disch:=omega)[aB,aA];and_intros<;>(try omega);apply Z;refine zk [3,6,12,13,14,16,18,81,82,83] ?_;refine zr q38_1 fun _ _ Z=>?_;simp(disch:=omega)[aB,aA];apply Z;refine zI ?_ ?_<;>intro c11<;>try simp at c11
    .refine zk [3,6,12,13,14,16,18,81,82,83] ?_;refine zt q38_1 fun _ _ Z=>?_;simp(disch:=omega)[aB,aA];and_intros<;>(try omega);apply Z;apply zB;refine zk [3,6,12,13,14,16,81,82,83] ?_;refine zt q38_1 fun _ _ Z=>?_;simp(disch:=omega)[aB,aA];and_intros<;>(try omega);apply Z;refine zq (k+1) ?_ ?_ ?_
     .omega
     .try dsimp only
      omega
     simp(disch:=omega)[aB,aA,zQ, *]
    apply mM;refine zk [3,6,12,13,14,16,81,82,83] ?_;refine zt q38_1 fun _ _ Z=>?_;simp(disch:=omega)[aB,aA];and_intros<;>(try omega);apply Z;refine zq (k+1) ?_ ?_ ?_
    .omega
    .try dsimp only
     omega
    simp(disch:=omega)[aB,aA,zQ, *]
   obtain rfl:k=(aG x.l id).attrs.length:=by omega
   rw [eH] at hdl;simp only [eH];apply zE;apply aF;refine zr q38_1 fun _ _ Z=>?_;simp(disch:=omega)[aB,aA];and_intros<;>(try omega);apply Z;refine zI ?_ ?_<;>intro c12<;>try simp at c12
   .have hh:jJ nA (aG x.l id).attrs name=false:=(Jz nA name).1 (by omega);refine zk [6,12,13,14,16] ?_;refine zr q38_1 fun _ _ Z=>?_;simp(disch:=omega)[aB,aA];apply Z;apply aD;subst c9;have e:=Ds (name:=name) (v:=v) (num:=num) c1 c2 c3 (.inr c5) (by simp [chN,hh]);simp [aK,e]
   have hh:jJ nA (aG x.l id).attrs name=true:=by
     cases e:jJ nA (aG x.l id).attrs name with
     | true=>rfl
     | false=>have:=(Jz nA name).2 e;omega
   apply zA;refine zk [6,12,13,14,16] ?_;refine zt q38_1 fun _ _ Z=>?_;simp(disch:=omega)[aB,aA];apply Z;apply zB;refine zr q38_1 fun _ _ Z=>?_;refine zs 2 fun _ Y=>?_;simp(disch:=omega)[aB,aA];apply Y;refine aE fun _ Y=>?_;simp(disch:=omega)[aB,aA];refine cB (oJ x { (aG x.l id)with attrs:=lN nA (aG x.l id).attrs name } _ hx) ?_;apply Y;simp(disch:=omega)[aB,aA];apply Z;apply aD;subst c9;have e:=rD (name:=name) (v:=v) (num:=num) c1 c2 c3 (.inr c5) (n:= { (aG x.l id)with attrs:=lN nA (aG x.l id).attrs name }) (by simp [chN,hh]);simp [aK,e]
  refine zk [3,5,6,12,13,14,48] ?_;refine zr q38_1 fun _ _ Z=>?_;simp(disch:=omega)[aB,aA];apply Z;refine zI ?_ ?_<;>intro c13<;>try simp at c13
  .refine zk [3,5,6,12,13,14] ?_;refine zt q38_1 fun _ _ Z=>?_;refine zs 6 fun _ Y=>?_;simp(disch:=omega)[aB,aA];and_intros<;>(try omega);apply Y;refine aE fun _ Y=>?_;simp(disch:=omega)[aB,aA];refine cB (aRo num _) ?_;rw [aT8];apply Y;refine zs 3 fun _ Y=>?_;simp(disch:=omega)[aB,aA];and_intros<;>(try omega);apply Y;refine aE fun _ Y=>?_;simp(disch:=omega)[aB,aA];refine cB (Np ((aG x.l id).styles++ [⟨name,Ny num⟩]) _ (by simp;omega)) ?_;rw [xZ,rT nP hss];apply Y;simp(disch:=omega)[aB,aA];apply Z;apply zB;refine zk [6,12,13,14] ?_;refine zr q38_1 fun _ _ Z=>?_;refine zs 2 fun _ Y=>?_;simp(disch:=omega)[aB,aA];apply Y;refine aE fun _ Y=>?_;simp(disch:=omega)[aB,aA];refine cB (oJ x { (aG x.l id)with styles:=gS nP (aG x.l id).styles ⟨name,Ny num⟩ } _ hx) ?_;apply Y;simp(disch:=omega)[aB,aA];apply Z;apply aD;subst c13;have e:=rD (name:=name) (v:=v) (num:=num) c1 c2 c3 (.inr c5) (n:= { (aG x.l id)with styles:=gS nP (aG x.l id).styles ⟨name,Ny num⟩ }) (by simp [chN]);simp [aK,e]
  refine zr q38_1 fun _ _ Z=>?_;simp(disch:=omega)[aB,aA];apply Z;refine zI ?_ ?_<;>intro c14<;>try simp at c14
  .apply aF;refine zr q38_1 fun _ _ Z=>?_;refine zs 3 fun _ Y=>?_;simp(disch:=omega)[aB,aA];apply Y;refine aE fun _ Y=>?_;simp(disch:=omega)[aB,aA];refine zcm (aJs (aG x.l id).styles name _ (by omega)) ?_;rintro _ _ ⟨⟨gv,hr9⟩,hs9⟩;subst hr9;replace hs9:=hs9.symm;subst hs9;apply Y;simp(disch:=omega)[aB,aA];apply Z;refine zk [3,6,12,13,14,20] ?_;refine zr q38_1 fun _ _ Z=>?_;simp(disch:=omega)[aB,aA];apply Z;refine zI ?_ ?_<;>intro c15<;>try simp at c15
   .refine zr q38_1 fun _ _ Z=>?_;simp(disch:=omega)[aB,aA];apply Z;apply aD;subst c14;have e:=Ds (name:=name) (v:=v) (num:=num) c1 c2 c3 (.inr c5) (by simp [chN,c15]);simp [aK,e]
   apply zA;refine zt q38_1 fun _ _ Z=>?_;refine zs 3 fun _ Y=>?_;simp(disch:=omega)[aB,aA];apply Y;refine aE fun _ Y=>?_;simp(disch:=omega)[aB,aA];refine cB (aHp (aG x.l id).styles name _ (by omega) hss) ?_;apply Y;simp(disch:=omega)[aB,aA];apply Z;apply zB;refine zk [6,12,13,14] ?_;refine zr q38_1 fun _ _ Z=>?_;refine zs 2 fun _ Y=>?_;simp(disch:=omega)[aB,aA];apply Y;refine aE fun _ Y=>?_;simp(disch:=omega)[aB,aA];refine cB (oJ x { (aG x.l id)with styles:=lN nP (aG x.l id).styles name } _ hx) ?_;apply Y;simp(disch:=omega)[aB,aA];apply Z;apply aD;subst c14;have e:=rD (name:=name) (v:=v) (num:=num) c1 c2 c3 (.inr c5) (n:= { (aG x.l id)with styles:=lN nP (aG x.l id).styles name }) (by simp [chN,c15]);simp [aK,e]
  refine zr q38_1 fun _ _ Z=>?_;simp(disch:=omega)[aB,aA];apply Z;refine zI ?_ ?_<;>intro c16<;>try simp at c16
  .apply aF;refine zk [3,6,12,13,14] ?_;refine zr q38_1 fun _ _ Z=>?_;refine zs 3 fun _ Y=>?_;simp(disch:=omega)[aB,aA];apply Y;refine aE fun _ Y=>?_;simp(disch:=omega)[aB,aA];refine cB (Jc (aG x.l id).classes name _ (by omega)) ?_;apply Y;simp only [eE];apply Z;refine zI ?_ ?_<;>intro c17<;>try simp at c17
   .refine zr q38_1 fun _ _ Z=>?_;simp(disch:=omega)[aB,aA];apply Z;apply aD;subst c16;have e:=Ds (name:=name) (v:=v) (num:=num) c1 c2 c3 (.inr c5) (by simp [chN,c17]);simp [aK,e]
   apply zA;refine zt q38_1 fun _ _ Z=>?_;refine zs 8 fun _ Y=>?_;simp(disch:=omega)[aB,aA];and_intros<;>(try omega);apply Y;simp(disch:=omega)[aB,aA];apply Z;apply zB;refine zk [6,12,13,14] ?_;refine zr q38_1 fun _ _ Z=>?_;refine zs 2 fun _ Y=>?_;simp(disch:=omega)[aB,aA];apply Y;refine aE fun _ Y=>?_;simp(disch:=omega)[aB,aA];refine cB (oJ x { (aG x.l id)with classes:=(aG x.l id).classes++ [name] } _ hx) ?_;apply Y;simp(disch:=omega)[aB,aA];apply Z;apply aD;subst c16;have e:=rD (name:=name) (v:=v) (num:=num) c1 c2 c3 (.inr c5) (n:= { (aG x.l id)with classes:=(aG x.l id).classes++ [name] }) (by simp [chN,c17]);simp [aK,e]
  apply aF;refine zk [3,6,12,13,14] ?_;refine zr q38_1 fun _ _ Z=>?_;refine zs 3 fun _ Y=>?_;simp(disch:=omega)[aB,aA];apply Y;refine aE fun _ Y=>?_;simp(disch:=omega)[aB,aA];refine cB (Jc (aG x.l id).classes name _ (by omega)) ?_;apply Y;simp(disch:=omega)[aB,aA];apply Z;refine zI ?_ ?_<;>intro c18<;>try simp at c18
  .refine zr q38_1 fun _ _ Z=>?_;simp(disch:=omega)[aB,aA];apply Z;apply aD;have e:=Ds (name:=name) (v:=v) (num:=num) c1 c2 c3 (.inr c5) (by simp [chN,c6,c7,c8,c9,c13,c14,c16,c18]);simp [aK,e]
  apply zA;refine zt q38_1 fun _ _ Z=>?_;refine zs 3 fun _ Y=>?_;simp(disch:=omega)[aB,aA];apply Y;refine aE fun _ Y=>?_;simp(disch:=omega)[aB,aA];refine cB (aNi (aG x.l id).classes name _ (by omega)) ?_;apply Y;simp(disch:=omega)[aB,aA];apply Z;apply zB;refine zk [6,12,13,14] ?_;refine zr q38_1 fun _ _ Z=>?_;refine zs 2 fun _ Y=>?_;simp(disch:=omega)[aB,aA];apply Y;refine aE fun _ Y=>?_;simp(disch:=omega)[aB,aA];refine cB (oJ x { (aG x.l id)with classes:=kX (aG x.l id).classes name } _ hx) ?_;apply Y;simp(disch:=omega)[aB,aA];apply Z;apply aD;have e:=rD (name:=name) (v:=v) (num:=num) c1 c2 c3 (.inr c5) (n:= { (aG x.l id)with classes:=kX (aG x.l id).classes name }) (by simp [chN,c6,c7,c8,c9,c13,c14,c16,c18]);simp [aK,e]
 simp(disch:=omega)[aB,aA,ga2];apply Z;refine bS (t:=false) (by simp) (fun h=>by cases h) (fun _=>?_);apply zA;apply aF;refine zk [1,3,4,5,6,12,13,14] ?_;refine zr q38_1 fun _ _ Z=>?_;simp(disch:=omega)[aB,aA];apply Z;apply aS;refine zr q38_1 fun _ _ Z=>?_;simp(disch:=omega)[aB,aA];apply Z;refine zI ?_ ?_<;>intro c19<;>try simp at c19
 .omega
 refine zr q38_1 fun _ _ Z=>?_;simp(disch:=omega)[aB,aA];apply Z;refine zI ?_ ?_<;>intro c20<;>try simp at c20
 .refine zk [4,6,12,13,14] ?_;refine zt q38_1 fun _ _ Z=>?_;simp(disch:=omega)[aB,aA];apply Z;apply zB;refine zr q38_1 fun _ _ Z=>?_;refine zs 2 fun _ Y=>?_;simp(disch:=omega)[aB,aA];apply Y;refine aE fun _ Y=>?_;simp(disch:=omega)[aB,aA];refine cB (oJ x { (aG x.l id)with text:=v } _ hx) ?_;apply Y;simp(disch:=omega)[aB,aA];apply Z;apply aD;subst c20;have e:=rD (name:=name) (v:=v) (num:=num) c1 c2 c3 (.inl rfl) (n:= { (aG x.l id)with text:=v }) (by simp [chN]);simp [aK,e]
 exact absurd g4 c20
structure EN where
 n:ND
 o:Nat
 t:Nat
structure DS where
 most:Int
 next:Int
 ck:Nat
 es:List EN
abbrev DS.l(d:DS):List ND:=d.es.map EN.n
abbrev DS.x(d:DS):RD:=⟨d.most,d.next,d.l⟩
abbrev gT(n:ND):List D:= [D.int n.ID,D.int n.kind,D.str n.tag,D.str n.text,.sl false (n.classes.map D.str),.sl false (n.attrs.map dU),.sl false (n.styles.map cM),D.int n.parent,.xs 1 (n.kids.map D.int)]
abbrev aYe(n:ND):List D:= [D.int n.ID,D.int n.kind,D.str n.tag,D.str n.text,.sl true (n.classes.map D.str),.sl true (n.attrs.map dU),.sl true (n.styles.map cM),D.int n.parent,.sl false (n.kids.map D.int)]
def Ue(e:EN):Value×Nat×D:=(.int .i64 e.n.ID,e.t,.ref e.o 0)
abbrev sW(M:Nat)(d:DS):List D:= [D.int d.most,D.int d.next,.mp M (.int .i64) d.ck (d.es.map Ue)]
structure DO(m M:Nat)(d:DS)(σ:List (List D)):Prop where
 hm:σ[m]?=some (sW M d)
 hn:∀e∈d.es,σ[e.o]?=some (gT e.n)
 nm:∀e∈d.es,e.o≠m
 nd:(d.es.map EN.o).Nodup
 hM:M<σ.length
theorem mT(k:Int):MapKept.IsKey (.int .i64) (.int .i64 k):=rfl
theorem Rp {m:Nat} (h:σ[m]?=some cs)(i N:Nat)(kd:TypeDesc)(ck:Nat)(kvs:List (Value×Nat×D)):putM σ m i N kd ck kvs=σ.set m (cs.set i (.mp N kd ck kvs)):=by
 unfold putM;rw [fA,h];rfl
theorem iL {es:List EN} {e:EN} (he:e∈es)(z:D):Gf (es.map Ue) (.int .i64 e.n.ID) z (.ref e.o 0) true:=by
 obtain⟨j,hj,rfl⟩:=kN he;exact .inl ⟨rfl,j,es[j].t,by rw [bW,aQ hj];rfl⟩
theorem Al {l:List ND} {id:Int} (h:eN l id=false):∀n∈l,n.ID≠id:=by
 intro n hn e;unfold eN mF at h;have:(l.find? fun n=>decide (n.ID=id))=none:=by simpa using h
 rw [qC] at this;exact this n hn (by simpa using e)
theorem tK {es:List EN} {id:Int} (h:eN (es.map EN.n) id=false)(z:D):Gf (es.map Ue) (.int .i64 id) z z false:=
 .inr ⟨rfl,rfl,fun kv hkv=>by
  obtain⟨e,he,rfl⟩:=aX.1 hkv;intro h2;simp only [Ue,Value.int.injEq,true_and] at h2;exact Al h e.n (aX.2 ⟨e,he,rfl⟩) h2⟩
theorem pJ {d:DS} {id:Int} (h:eN d.l id=true):∃e∈d.es,e.n.ID=id/\aG d.l id=e.n:=by
 unfold eN at h;cases hq:mF d.l id with
 | none=>rw [hq] at h;cases h
 | some n=>
  obtain⟨h1,h2⟩:=oQ hq;obtain⟨e,he,rfl⟩:=aX.1 h1;exact⟨e,he,h2,by unfold aG;rw [hq];rfl⟩
theorem Gv {d:DS} {e:EN} (he:e∈d.es):eN d.l e.n.ID=true:=by
 cases h:eN d.l e.n.ID with
 | true=>rfl
 | false=>exact absurd rfl (Al h e.n (aX.2 ⟨e,he,rfl⟩))
theorem Qa(m M:Nat)(d:DS)(σ:List (List D))(ho:DO m M d σ)(hl:d.es.length<=100000):Ct prog 56 [.ref m 0] σ (fun r σ'=>r= .int ((d.es.length:Int) - 1)/\σ'=σ):=by
 refine zf func56 ?_;have hq:=ho.hm;refine zr ⟨[],[],[],[],[7,7,1000007]⟩ fun _ _ Z=>?_;simp[hq];apply Z;refine zr ⟨[],[],[],[],[7,7,1000007]⟩ fun _ _ Z=>?_;refine zs 5 fun _ Y=>?_;simp[hq];refine⟨m,2,d.ck,_,⟨_,hq,rfl⟩,?_⟩;simp only [bI];and_intros<;>(try omega);apply Y;simp[hq];and_intros<;>(try omega);apply Z;apply aD;simp [aK]
theorem Kk(m M:Nat)(d:DS)(σ:List (List D))(ho:DO m M d σ)(hl:d.es.length<=100000)(hmo:0<=d.most/\d.most<=100000):Ct prog 82 [.ref m 0] σ (fun r σ'=>r= .int (d.most - ((d.es.length:Int) - 1))/\σ'=σ):=by
 refine zf func82 ?_;have hq:=ho.hm;refine bE fun _ _ Z=>?_;simp[hq];apply Z;refine zd ⟨[],[],[],[],[]⟩ [.op {},.op {},.op {},.op {rO:=true},.op {},.read,.op {},.op {}] fun all hall _ Z=>?_;refine iU 5 fun _ Y=>?_;simp[hq];apply Y;refine dL fun _ Y=>?_;simp[hq];refine zdr (Qa m M d _ ho hl) ?_;apply Y;simp[hq];and_intros<;>(try omega);apply Z;apply aD;simp [aK]
theorem aJw(m M:Nat)(d:DS)(σ:List (List D))(ho:DO m M d σ):Ct prog 83 [.ref m 0] σ (fun r σ'=>r= .int d.next/\σ'=σ):=by
 refine zf func83 ?_;have hq:=ho.hm;refine bE fun _ _ Z=>?_;simp[hq];apply Z;refine bE fun _ _ Z=>?_;simp[hq];apply Z;apply aD;simp [aK]
theorem aG8 {a0 a1 a2 a3 a4 a5 a6 a7 a8 b:D} :([a0,a1,a2,a3,a4,a5,a6,a7,a8]:List D).set 8 b= [a0,a1,a2,a3,a4,a5,a6,a7,b]:=rfl
theorem aDz(o:Nat)(n:ND)(σ:List (List D))(hq:σ[o]?=some (gT n))(h1:n.kids.length<=1000)(h2:n.classes.length<=1000)(h3:n.attrs.length<=1000)(h4:n.styles.length<=1000):Ct prog 66 [.ref o 0] σ (fun r σ'=>r= .ref (σ.length+1) 0/\σ'=σ++ [[],aYe n]):=by
 refine zf func66 ?_;refine nR o 8 1 (es:=n.kids.map D.int) hq rfl (by decide) fun cap rest hcap hcm hrest hes=>?_;simp only [bI,aG8] at hcap hrest |-;rw [gH (f:=D.int) (fun _=>rfl)];refine zr ⟨[],[],[3],[],[]⟩ fun _ _ Z=>?_;simp[aY,aR,aL,aJ,hq,aO hq,dE hq,fB hq,eG hq,gY hq,cX,cO,cQ,dB,dA,dR,fO,dQ];apply Z;refine zr ⟨[],[],[3],[],[]⟩ fun _ _ Z=>?_;simp[aY,aR,aL,aJ,hq,aO hq,dE hq,fB hq,eG hq,gY hq,cX,cO,cQ,dB,dA,dR,fO,dQ];and_intros<;>(try omega);apply Z;refine zk [0,2,3] ?_;refine zd ⟨[],[],[3],[],[]⟩ [.op {},.op {},.op {},.op {rO:=true},.pure,.op {},.op {},.op {},.op {rO:=true},.read,.op {},.op {rO:=true,wO:=true},.op {},.op {rO:=true,wO:=true}] fun all hall _ Z=>?_;refine iU 4 fun _ Y=>?_;simp[aY,aR,aL,aJ,hq,aO hq,dE hq,fB hq,eG hq,gY hq,cX,cO,cQ,dB,dA,dR,fO,dQ];apply Y;refine dL fun _ Y=>?_;simp[aY,aR,aL,aJ,hq,aO hq,dE hq,fB hq,eG hq,gY hq,cX,cO,cQ,dB,dA,dR,fO,dQ];refine Ia (fun _=>(Ly n.classes _ (by omega))) ?_;apply Y;refine iU 4 fun _ Y=>?_;simp[aY,aR,aL,aJ,hq,aO hq,dE hq,fB hq,eG hq,gY hq,cX,cO,cQ,dB,dA,dR,fO,dQ];apply Y;refine dL fun _ Y=>?_;simp[aY,aR,aL,aJ,hq,aO hq,dE hq,fB hq,eG hq,gY hq,cX,cO,cQ,dB,dA,dR,fO,dQ];refine zdr (aEy σ.length cap n.kids rest _ (by omega) (by simp [cX])) ?_;apply Y;simp[aY,aR,aL,aJ,hq,aO hq,dE hq,fB hq,eG hq,gY hq,cX,cO,cQ,dB,dA,dR,fO,dQ];apply Z;refine zk [0,2,3] ?_;refine zd ⟨[],[],[3],[],[]⟩ [.op {},.op {},.op {},.op {rO:=true},.pure,.op {},.op {},.op {},.op {rO:=true},.pure,.op {},.op {rO:=true,wO:=true},.op {},.op {rO:=true,wO:=true}] fun all hall _ Z=>?_;refine iU 4 fun _ Y=>?_;simp[aY,aR,aL,aJ,hq,aO hq,dE hq,fB hq,eG hq,gY hq,cX,cO,cQ,dB,dA,dR,fO,dQ];apply Y;refine dL fun _ Y=>?_;simp[aY,aR,aL,aJ,hq,aO hq,dE hq,fB hq,eG hq,gY hq,cX,cO,cQ,dB,dA,dR,fO,dQ];refine Ia (fun _=>(aF0 n.attrs _ (by omega))) ?_;apply Y;refine iU 4 fun _ Y=>?_;simp[aY,aR,aL,aJ,hq,aO hq,dE hq,fB hq,eG hq,gY hq,cX,cO,cQ,dB,dA,dR,fO,dQ];apply Y;refine dL fun _ Y=>?_;simp[aY,aR,aL,aJ,hq,aO hq,dE hq,fB hq,eG hq,gY hq,cX,cO,cQ,dB,dA,dR,fO,dQ];refine Ia (fun _=>(aHn n.styles _ (by omega))) ?_;apply Y;simp[aY,aR,aL,aJ,hq,aO hq,dE hq,fB hq,eG hq,gY hq,cX,cO,cQ,dB,dA,dR,fO,dQ];apply Z;refine zk [2,3] ?_;refine zr ⟨[],[],[3],[],[]⟩ fun _ _ Z=>?_;simp[aY,aR,aL,aJ,hq,aO hq,dE hq,fB hq,eG hq,gY hq,cX,cO,cQ,dB,dA,dR,fO,dQ];apply Z;refine rH o 8 1 σ.length n.kids.length cap (n.kids.map D.int) _ (n.kids.map D.int++rest) (dE hq _ _) rfl (by simp [cX]) (by have:=lC hq;omega) (by decide) (by simp [hrest];omega) (by simp) hes (by rw [gH (f:=D.int) (fun _=>rfl)];exact cD _ _) ?_;simp only [aG8,eG hq,cO];apply aD;simp [aK];exact nU hq
theorem NB.en {d:DS} (h:NB d.l) {e:EN} (he:e∈d.es):e.n.kids.length<=1000/\e.n.classes.length<=1000/\e.n.attrs.length<=1000/\e.n.styles.length<=1000:=by
 have hm:e.n∈d.l:=aX.2 ⟨e,he,rfl⟩;exact⟨h.kids _ hm,h.cls _ hm,h.ats _ hm,h.sts _ hm⟩
theorem aQu(m M:Nat)(d:DS)(e:EN)(σ:List (List D))(ho:DO m M d σ)(hx:NB d.l)(he:e∈d.es):Ct prog 15 [.ref m 0,D.int e.n.ID] σ (fun r σ'=>r= .tup [xE e.n,.bool true]/\∃J,σ'=σ++J):=by
 refine zf func15 ?_;have hq:=ho.hm;have hne:=ho.hn e he;obtain⟨b1,b2,b3,b4⟩:=hx.en he;refine bE fun _ _ Z=>?_;simp[hq,hne,aY,aR,aL,aJ];apply Z;refine bE fun _ _ Z=>?_;refine zs 6 fun _ Y=>?_;simp[hq,hne,aY,aR,aL,aJ];refine⟨m,2,d.ck,_,.ref e.o 0,.inr ⟨⟨⟨_,hq,rfl⟩,mT _,iL he _⟩,?_⟩⟩;and_intros<;>(try omega);apply Y;simp[hq,hne,aY,aR,aL,aJ];apply Z;apply aF;refine zk [4,5,6,7] ?_;refine bE fun _ _ Z=>?_;simp[hq,hne,aY,aR,aL,aJ];apply Z;refine zI ?_ ?_<;>intro c1<;>try simp at c1
 apply zA;refine bE fun _ _ Z=>?_;refine zs 1 fun _ Y=>?_;simp[hq,hne,aY,aR,aL,aJ];apply Y;refine aE fun _ Y=>?_;simp[hq,hne,aY,aR,aL,aJ];refine cB (aDz e.o e.n _ hne b1 b2 b3 b4) ?_;apply Y;simp[hq,hne,aY,aR,aL,aJ];apply Z;apply aD;simp [aK]
theorem aRu(m M:Nat)(d:DS)(id:Int)(σ:List (List D))(ho:DO m M d σ)(hno:eN d.l id=false):Ct prog 15 [.ref m 0,D.int id] σ (fun r σ'=>r= .tup [aWo Ud,.bool false]/\∃J,σ'=σ++J):=by
 refine zf func15 ?_;have hq:=ho.hm;refine bE fun _ _ Z=>?_;simp[hq];apply Z;refine bE fun _ _ Z=>?_;refine zs 6 fun _ Y=>?_;simp[hq];refine⟨m,2,d.ck,_,.v (.pointer none),.inl ⟨⟨⟨_,hq,rfl⟩,mT _,tK hno _⟩,?_⟩⟩;and_intros<;>(try omega);apply Y;simp[hq];apply Z;apply aF;refine zk [4,5,6,7] ?_;refine bE fun _ _ Z=>?_;simp[hq];apply Z;refine zI ?_ ?_<;>intro c1<;>try simp at c1
 refine bE fun _ _ Z=>?_;simp[hq];apply Z;apply aD;simp [aK,Ud]
theorem xA {f:FuncId} {R:D->Prop} (h:Ct prog f args σ (fun r σ'=>R r/\∃J,σ'=σ++J))(hs:∀r,R r->Sc σ.length r):Ct prog f args σ (fun r σ'=>R r/\σ'=σ):=
 h.trim fun r σ' ⟨hr,J,hs'⟩=>⟨σ,J,hs',rfl,hs r hr,fun n cs h=> .inl h,hr,rfl⟩
theorem Be(m M:Nat)(d:DS)(id:Int)(σ:List (List D))(ho:DO m M d σ)(hx:NB d.l):Ct prog 15 [.ref m 0,D.int id] σ (fun r σ'=>r= .tup [xE (aG d.l id),.bool (eN d.l id)]/\σ'=σ):=by
 cases hl:eN d.l id with
 | true=>
  obtain⟨e,he,rfl,hf⟩:=pJ hl;rw [hf];exact xA (aQu m M d e σ ho hx he) fun r hr=>by rw [hr];exact Tq (aL3 _ _) (Sc.v _)
 | false =>
  have hz:aG d.l id=Ud:=by
   unfold aG;unfold eN at hl;cases hq:mF d.l id with
   | none=>rfl
   | some n=>rw [hq] at hl;cases hl
  rw [hz];refine(xA ((aRu m M d id σ ho hl).strip (Q':=fun r σ'=>r= .tup [xE Ud,.bool false]/\∃J,σ'=σ++J) fun r σ' ⟨hr,hs⟩=>?_) fun r hr=>by rw [hr];exact Tq (aL3 _ _) (Sc.v _));subst hr;exact⟨by simp [D.plain],by simp [D.strip,D.s2,D.s1,Ud],hs⟩
theorem aIx(o q:Nat)(n:ND)(l:List Int)(σ:List (List D))(ho:σ[o]?=some (gT n))(hq:σ[q]?=some [.xs 1 (l.map D.int)])(hne:o≠q)(hl:l.length<=100000):Ct prog 166 [.ref o 0,.ref q 0] σ (fun r σ'=>r= .tup []/\∃J,σ'=σ.set q [.xs 1 ((l++ [n.ID]).map D.int)]++J):=by
 refine zf func166 ?_;refine nR q 0 1 (es:=l.map D.int) hq rfl (by decide) fun cap rest hcap hcm hrest hes=>?_;simp only [bI,eQ] at hcap hrest |-;rw [gH (f:=D.int) (fun _=>rfl)];have ho2:∀a J,(σ.set q a++J)[o]?=some (gT n):=fun a J=>by rw [aW (by simpa using lC ho),eY hne.symm];exact ho
 refine ze ⟨[],[],[],[9],[]⟩ [.op {rO:=true},.op {},.op {},.op {},.op {rO:=true},.op {},.op {rO:=true,wO:=true},.op {rO:=true,wO:=true}] fun all hall _ Z=>?_;refine iU 7 fun _ Y=>?_;simp[ho2,cX,dE hq,eG hq,cO,aH,aY,aR,aL,aJ];refine⟨rfl,_,l.map D.int,⟨rfl,by simp [hrest];omega,by simp,hes,by rw [gH (f:=D.int) (fun _=>rfl)];exact cD _ _,by simp;omega,by simp;omega⟩,?_⟩;and_intros<;>(try omega);apply Y;simp[ho2,cX,dE hq,eG hq,cO,aH,aY,aR,aL,aJ];apply Z;simp [aK]
theorem aNy(o q:Nat)(n:ND)(l:List Int)(σ:List (List D))(ho:σ[o]?=some (gT n))(hq:σ[q]?=some [.xs 1 (l.map D.int)])(hne:o≠q)(hl:l.length<=100000):Ct prog 209 [.ref o 0,.ref q 0] σ (fun r σ'=>r= .tup []/\∃J,σ'=σ.set q [.xs 1 ((l++ [n.ID]).map D.int)]++J):=by
 refine zf func209 ?_;refine nR q 0 1 (es:=l.map D.int) hq rfl (by decide) fun cap rest hcap hcm hrest hes=>?_;simp only [bI,eQ] at hcap hrest |-;rw [gH (f:=D.int) (fun _=>rfl)];have ho2:∀a J,(σ.set q a++J)[o]?=some (gT n):=fun a J=>by rw [aW (by simpa using lC ho),eY hne.symm];exact ho
 refine ze ⟨[],[],[],[9],[]⟩ [.op {rO:=true},.op {},.op {},.op {},.op {rO:=true},.op {},.op {rO:=true,wO:=true},.op {rO:=true,wO:=true}] fun all hall _ Z=>?_;refine iU 7 fun _ Y=>?_;simp[ho2,cX,dE hq,eG hq,cO,aH,aY,aR,aL,aJ];refine⟨rfl,_,l.map D.int,⟨rfl,by simp [hrest];omega,by simp,hes,by rw [gH (f:=D.int) (fun _=>rfl)];exact cD _ _,by simp;omega,by simp;omega⟩,?_⟩;and_intros<;>(try omega);apply Y;simp[ho2,cX,dE hq,eG hq,cO,aH,aY,aR,aL,aJ];apply Z;simp [aK]
theorem aC7 {f:FuncId} (h:Ct prog f args σ (fun r σ'=>r= .tup []/\∃J,σ'=σ.set q cs++J))(hc:∀d∈cs,Sc σ.length d):Ct prog f args σ (fun r σ'=>r= .tup []/\σ'=σ.set q cs):=
 h.trim fun r σ' ⟨hr,J,hs'⟩=>⟨σ.set q cs,J,hs',by simp,by rw [hr];exact Sc.tup (by simp),fun n cs' h=>by
  rw [bP] at h;split at h
  .split at h
   .simp only [bC] at h;subst h;exact .inr hc
   cases h
  exact .inl h,hr,rfl⟩
theorem aB7(N:Nat)(l:List Int):∀d∈ [D.xs 1 (l.map D.int)],Sc N d:=fun d hd=>by
 simp only [gO] at hd;subst hd;exact aEa N l
def aCr(f:FuncId)(q:Nat):Prop:=∀(o:Nat) (n:ND) (l:List Int) (τ:List (List D)),τ[o]?=some (gT n)->τ[q]?=some [.xs 1 (l.map D.int)]->o≠q->l.length<=100000->Ct prog f [.ref o 0,.ref q 0] τ (fun r τ'=>r= .tup []/\τ'=τ.set q [.xs 1 ((l++ [n.ID]).map D.int)])
theorem aEw(q:Nat):aCr 166 q:=fun o n l τ h1 h2 h3 h4=>aC7 (aIx o q n l τ h1 h2 h3 h4) (aB7 _ _)
theorem aGg(q:Nat):aCr 209 q:=fun o n l τ h1 h2 h3 h4=>aC7 (aNy o q n l τ h1 h2 h3 h4) (aB7 _ _)
structure EO(m M q:Nat)(d:DS)(bel:Int->List Int)(id:Int)(l:List Int)(σ:List (List D)):Prop where
 hm:σ[m]?=some (sW M d)
 hcl:∀i∈bel id,∀e∈d.es,e.n.ID=i->σ[e.o]?=some (gT e.n)
 hq:σ[q]?=some [.xs 1 (l.map D.int)]
 hl:l.length+(bel id).length<=100000
structure EF(m q:Nat)(d:DS)(bel:Int->List Int)(rk:Int->Nat):Prop where
 qm:q≠m
 qo:∀e∈d.es,e.o≠q
 nm:∀e∈d.es,e.o≠m
 nd:(d.es.map EN.o).Nodup
 nb:NB d.l
 ids:∀e∈d.es,aG d.l e.n.ID=e.n
 tr:Tr d.l bel rk
 kids:∀e∈d.es,∀k∈e.n.kids,eN d.l k=true
theorem Tr.rk_le {l:List ND} (h:Tr l bel rk):∀(n:Nat) (id:Int),rk id<=n->∀i∈bel id,rk i<=rk id:=by
 intro n;induction n with
 | zero=>
  intro id hn i hi;rw [h.eq id] at hi;rcases bU.1 hi with rfl | hi
  .exact aV _
  obtain⟨k,hk,_⟩:=kQ.1 hi;have:=h.dec id k hk;omega
 | succ n ih=>
  intro id hn i hi;rw [h.eq id] at hi;rcases bU.1 hi with rfl | hi
  .exact aV _
  obtain⟨k,hk,hik⟩:=kQ.1 hi;have h1:=h.dec id k hk;have:=ih k (by omega) i hik;omega
theorem Tr.self {l:List ND} (h:Tr l bel rk)(id:Int):id∈bel id:=by rw [h.eq id];exact kO
theorem Tr.kid {l:List ND} (h:Tr l bel rk) {id k i:Int} (hk:k∈(aG l id).kids)(hi:i∈bel k):i∈bel id:=by
 rw [h.eq id];exact lE _ (kQ.2 ⟨k,hk,hi⟩)
theorem Pw {d:DS} (h:(d.es.map EN.o).Nodup) {a b:EN} (ha:a∈d.es)(hb:b∈d.es)(e:a.o=b.o):a=b:=by
 obtain⟨i,hi,rfl⟩:=kN ha;obtain⟨j,hj,rfl⟩:=kN hb;have hp:=pZ.1 h;rcases sH i j with h1 | rfl | h1
 .exact absurd e (by have:=hp i j (by simpa using hi) (by simpa using hj) h1;rwa [jM,jM] at this)
 .rfl
 exact absurd e.symm (by have:=hp j i (by simpa using hj) (by simpa using hi) h1;rwa [jM,jM] at this)
def Wo(σ:List (List D))(q o:Nat)(cs row:List D)(Y:List Int):List (List D):=(σ.set q [.xs 1 (Y.map D.int)]).set o cs++ [row]
theorem aRe {Z:List Int} (hq:q<σ.length)(hne:o≠q):(Wo σ q o cs row Y).set q [.xs 1 (Z.map D.int)]=Wo σ q o cs row Z:=by
 unfold Wo;rw [Ak _ _ (by simpa using hq),Gm _ _ hne,aH]
theorem oI :(Wo σ q o cs row Y)[σ.length]?=some row:=by
 unfold Wo;rw [bQ (by simp)];simp
theorem aW6 (h:o<σ.length):(Wo σ q o cs row Y)[o]?=some cs:=by
 unfold Wo;rw [aW (by simpa using h)];simp [h]
theorem aK7 {i:Nat} {a:List D} (h:σ[i]?=some a)(h1:i≠q)(h2:i≠o):(Wo σ q o cs row Y)[i]?=some a:=by
 have hi:=lC h;unfold Wo;rw [aW (by simpa using hi),eY (gP h2),eY (gP h1)];exact h
theorem aW8 (hq:q<σ.length)(hne:o≠q):(Wo σ q o cs row Y)[q]?=some [.xs 1 (Y.map D.int)]:=by
 unfold Wo;rw [aW (by simpa using hq),eY hne];simp [hq]
theorem aFe {c2:List D} (h:σ[o]?=some c2)(hne:o≠q):((Wo σ q o cs row Y).set o c2).set σ.length []=σ.set q [.xs 1 (Y.map D.int)]++ [[]]:=by
 have ho:=lC h;unfold Wo;rw [Ak _ _ (by simpa using ho),aH];have e:(σ.set q [D.xs 1 (Y.map D.int)]).set o c2=σ.set q [D.xs 1 (Y.map D.int)]:=nU (by rw [eY (gP hne)];exact h);rw [e,lR _ _ (by simp)];simp
theorem EO.kid {m M:Nat} {d:DS} {e:EN} {l:List Int} (hf:EF m q d bel rk)(ho:EO m M q d bel e.n.ID l σ)(he:e∈d.es) {kid:Int} (hk:kid∈e.n.kids)(Y:List Int)(hY:Y.length+(bel kid).length<=100000)(cs row:List D):EO m M q d bel kid Y (Wo σ q e.o cs row Y):=by
 have hid:=hf.ids e he;have hk':kid∈(aG d.l e.n.ID).kids:=by rw [hid];exact hk
 refine⟨aK7 ho.hm (gP hf.qm) (gP (hf.nm e he)),fun i hi e' he' hei=>?_,aW8 (lC ho.hq) (hf.qo e he),hY⟩;refine aK7 (ho.hcl i (hf.tr.kid hk' hi) e' he' hei) (hf.qo e' he') fun hoo=>?_;have hee:=Pw hf.nd he' he hoo;subst hee;subst hei;have h1:=hf.tr.dec _ kid hk';have h2:=hf.tr.rk_le (rk kid) kid (aV _) _ hi;omega
@[simp] abbrev q38_2:Cfg:=⟨[],[],[],[22,25],[]⟩
theorem Vu(m M q F:Nat)(d:DS)(bel:Int->List Int)(rk:Int->Nat)(e:EN)(l:List Int)(σ:List (List D))(he:e∈d.es)(hd:aCr F q)(hf:EF m q d bel rk)(ho:EO m M q d bel e.n.ID l σ)(ih:∀k∈e.n.kids,∀l' τ,EO m M q d bel k l' τ->Ct prog 165 [.ref m 0,D.int k,.clo (.func F) [] [.ref q 0]] τ (fun r τ'=>r= .tup []/\τ'=τ.set q [.xs 1 ((l'++bel k).map D.int)])):Ct prog 165 [.ref m 0,D.int e.n.ID,.clo (.func F) [] [.ref q 0]] σ (fun r σ'=>r= .tup []/\∃J,σ'=σ.set q [.xs 1 ((l++bel e.n.ID).map D.int)]++J):=by
 refine zf func165 ?_;have hq:=ho.hm;have hqq:=ho.hq;have hself:=ho.hcl _ (hf.tr.self e.n.ID) e he rfl;obtain⟨b1,_,_,_⟩:=hf.nb.en he;have hel:=ho.hl;have hbl:1<=(bel e.n.ID).length:=by rw [hf.tr.eq];simp
 have hqo:=hf.qo e he;have hno:=hf.nm e he;have hbe:bel e.n.ID=e.n.ID::e.n.kids.flatMap bel:=by rw [hf.tr.eq,hf.ids e he]
 have hcell:∀a,(σ.set q a)[e.o]?=some (gT e.n):=fun a=>by rw [eY (gP hqo)];exact hself
 have ho9:∀cs row Y,(Wo σ q e.o cs row Y)[e.o]?=some cs:=fun cs row Y=>aW6 (lC hself);have hopn:∀X cs J,((σ.set q X).set e.o cs++J)[e.o]?=some cs:=fun X cs J=>dE (hcell X) cs J;refine zr q38_2 fun _ _ Z=>?_;refine zs 6 fun _ Y=>?_;simp(disch:=omega)[hq,hqq,hcell,bD,oI,ho9,hopn];refine⟨m,2,d.ck,_,.ref e.o 0,⟨⟨_,hq,rfl⟩,mT _,.inr (iL he _)⟩,?_⟩;and_intros<;>(try omega);apply Y;simp(disch:=omega)[hq,hqq,hcell,bD,oI,ho9,hopn];apply Z;refine zr q38_2 fun _ _ Z=>?_;refine zs 2 fun _ Y=>?_;simp(disch:=omega)[hq,hqq,hcell,bD,oI,ho9,hopn];apply Y;refine aE fun _ Y=>?_;simp(disch:=omega)[hq,hqq,hcell,bD,oI,ho9,hopn];refine cB (hd e.o e.n l _ hself hqq hqo (by omega)) ?_;apply Y;simp only [eE];apply Z;refine nR e.o 8 1 (es:=e.n.kids.map D.int) (hcell _) rfl (by decide) fun cap rest hcap hcm hrest hes=>?_;simp only [bI,aG8,cV] at hcap hrest |-;rw [gH (f:=D.int) (fun _=>rfl)];refine zr q38_2 fun _ _ Z=>?_;simp(disch:=omega)[hq,hqq,hcell,bD,oI,ho9,hopn];and_intros<;>(try omega);apply Z;apply aS;refine zk [0,2,21,22,23] ?_;refine jR (fun(k:Nat)=> [(23,.d (.v (.int .i64 (k:Int)))),(8,.d (.any))]) (fun(k:Nat)=> []) (fun(k:Nat)=>Wo σ q e.o [D.int e.n.ID,D.int e.n.kind,D.str e.n.tag,D.str e.n.text,.sl false (e.n.classes.map D.str),.sl false (e.n.attrs.map dU),.sl false (e.n.styles.map cM),D.int e.n.parent,.slo σ.length 0 e.n.kids.length cap] (e.n.kids.map D.int++rest) (l++e.n.ID::(e.n.kids.take k).flatMap bel)) [8,23,24,25,26,27,28,29,30,31] (fun(k:Nat)=>k<=e.n.kids.length) (fun(k:Nat)=>e.n.kids.length - k) (0) (by simp <;> rfl) ?_ (by simp) (by simp [Wo]) ?_ ?_
 .simp
 .simp
 rintro k hk;simp only [aP,aN];refine zr q38_2 fun _ _ Z=>?_;simp(disch:=omega)[hq,hqq,hcell,bD,oI,ho9,hopn];apply Z;apply aF;refine zI ?_ ?_<;>intro c1<;>try simp at c1
 .have hkk:k<e.n.kids.length:=by omega
  have hfl:=Ib bel e.n.kids (k+1);rw [Rv bel _ k hkk] at hfl;have hkl:(l++e.n.ID::(e.n.kids.take k).flatMap bel).length+(bel e.n.kids[k]).length<=100000:=by rw [hbe] at hel;simp only [bB,bT] at *;omega
  apply kR;refine zr q38_2 fun _ _ Z=>?_;simp(disch:=omega)[hq,hqq,hcell,bD,oI,ho9,hopn];and_intros<;>(try omega);apply Z;refine zt q38_2 fun _ _ Z=>?_;refine zs 3 fun _ Y=>?_;simp(disch:=omega)[hq,hqq,hcell,bD,oI,ho9,hopn];apply Y;refine aE fun _ Y=>?_;simp(disch:=omega)[hq,hqq,hcell,bD,oI,ho9,hopn];refine cB (ih _ (cN hkk) _ _ (EO.kid hf ho he (cN hkk) (l++e.n.ID::(e.n.kids.take k).flatMap bel) hkl _ _)) ?_;rw [aRe (lC hqq) hqo];apply Y;simp only [eE];apply Z;apply zB;refine zk [0,2,8,21,22,23] ?_;refine zt q38_2 fun _ _ Z=>?_;simp(disch:=omega)[hq,hqq,hcell,bD,oI,ho9,hopn];and_intros<;>(try omega);apply Z;refine eX (k+1) ?_ ?_ (dX rfl ?_ (by simp) (by rw [Rv bel _ k hkk];simp))
  .omega
  .try dsimp only
   omega
  simp(disch:=omega)[hq,hqq,hcell,bD,oI,ho9,hopn]
 refine rH e.o 8 1 σ.length e.n.kids.length cap (e.n.kids.map D.int) _ (e.n.kids.map D.int++rest) (ho9 _ _ _) rfl oI (by have:=lC hself;omega) (by decide) (by simp [hrest];omega) (by simp) hes (by rw [gH (f:=D.int) (fun _=>rfl)];exact cD _ _) ?_;simp only [aG8];rw [aFe hself hqo];apply uV;apply vH;apply yB;apply sL;simp [aK];rw [hbe,bL (by omega)];simp
theorem aDi(m M q F:Nat)(d:DS)(bel:Int->List Int)(rk:Int->Nat)(id:Int)(l:List Int)(σ:List (List D))(hd:aCr F q)(hf:EF m q d bel rk)(hi:eN d.l id=true)(ho:EO m M q d bel id l σ):Ct prog 165 [.ref m 0,D.int id,.clo (.func F) [] [.ref q 0]] σ (fun r σ'=>r= .tup []/\σ'=σ.set q [.xs 1 ((l++bel id).map D.int)]):=by
 have key:∀(n:Nat) (id:Int) (l:List Int) (σ:List (List D)),rk id<=n->eN d.l id=true->EO m M q d bel id l σ->Ct prog 165 [.ref m 0,D.int id,.clo (.func F) [] [.ref q 0]] σ (fun r σ'=>r= .tup []/\σ'=σ.set q [.xs 1 ((l++bel id).map D.int)]):=by
  intro n;induction n with
  | zero=>
   intro id l σ hn hi ho;obtain⟨e,he,rfl,hfe⟩:=pJ hi;refine aC7 (Vu m M q F d bel rk e l σ he hd hf ho fun k hk l' τ h=>?_) (aB7 _ _);have:=hf.tr.dec e.n.ID k (by rw [hfe];exact hk);omega
  | succ n ih=>
   intro id l σ hn hi ho;obtain⟨e,he,rfl,hfe⟩:=pJ hi;refine aC7 (Vu m M q F d bel rk e l σ he hd hf ho fun k hk l' τ h=>?_) (aB7 _ _);have:=hf.tr.dec e.n.ID k (by rw [hfe];exact hk);exact ih k l' τ (by omega) (hf.kids e he k hk) h
 exact key (rk id) id l σ (aV _) hi ho
end Go.Proofs.YtbgfljpnhhdkoaaGreat
