import Derived.Test.YtbdjepeabjangaaGreatWkAu13
set_option maxRecDepth 20000
set_option linter.all false
set_option maxHeartbeats 8000000
open Go.Proofs.Tryz
namespace Go.Proofs.YtbdjepeabjangaaGreat
open Go Go.Vm
@[simp] abbrev q33_1:Cfg:=⟨[2,3,51,79,94,143,211,222,226],[],[],[],[]⟩
theorem aBt(x:RPC)(σ:List (List D))(h:TI x.tree)(hg:iN x.tree=false)(hv:VG x.view)(hc:fG x.view<=100)(hk:x.kids.length<=100)(hp:x.pending.length<=100)(hh:x.hooks.length<=1000):Ct prog 9 [Hh x] σ (fun r σ'=>r= .sl true ((sW x).map mC)/\σ'=σ):=by
 refine zf func9 ?_;have hcl:=Dg x.tree x.view x.mounted;have htb:=aMs (Fc hv hc);refine zr q33_1 fun _ _ Z=>?_;simp(maxSteps:=999999)(disch:=omega)[aC,aB,hg];apply Z;refine zr q33_1 fun _ _ Z=>?_;simp(maxSteps:=999999)(disch:=omega)[aC,aB,hg];and_intros<;>try first|omega|exact rfl
 apply Z;refine zr q33_1 fun _ _ Z=>?_;refine zs 2 fun _ Y=>?_;simp(maxSteps:=999999)(disch:=omega)[aC,aB,hg];apply Y;refine aG fun _ Y=>?_;simp(maxSteps:=999999)(disch:=omega)[aC,aB,hg];refine dX (Hr x.tree h _) ?_;have hEI:=h.erase;obtain⟨E,hE⟩:∃E,jS x.tree=E:=⟨_,rfl⟩;rw [hE] at hEI |-;have hEl:=hEI.e.1.2.2.2;apply Y;simp(maxSteps:=999999)(disch:=omega)[aC,aB,hg];apply Z;apply aF;refine zr q33_1 fun _ _ Z=>?_;refine zs 2 fun _ Y=>?_;simp(maxSteps:=999999)(disch:=omega)[aC,aB,hg];apply Y;refine aG fun _ Y=>?_;simp(maxSteps:=999999)(disch:=omega)[aC,aB,hg];refine dX (wY x.tree _ h.e.1) ?_;apply Y;simp only [fS];apply Z;refine zI ?_ ?_<;>intro c1<;>try simp at c1
 .rw [hg] at c1;cases c1
 apply zA;refine zk [1,2,3,4] ?_;apply aF;refine iA (fun(_:Unit)=> [(3,.d (.sl true ((Rl x.tree x.view x.mounted).map mC)))]) (fun(_:Unit)=> []) (fun(_:Unit)=> []) [3,24,25,26,27,28,29,30,31,32,33,34,35,36,37,38,39,40,41,42,43,44,45,46,47,48,49,50,51,52,53,54] (fun(_:Unit)=>True) (by simp <;> rfl) ?_ ?_
 .refine zk [1,2,3,4] ?_;refine zd q33_1 [.op {},.op {rL:=true},.op {},.op {},.op {},.op {},.op {},.op {},.op {},.op {},.op {},.op {rL:=true},.pure,.pure,.op {},.op {},.op {},.op {},.op {},.op {rL:=true},.op {},.op {},.op {},.op {},.op {},.op {},.op {}] fun all hall _ Z=>?_;have ga2:aQ all 2=some 26:=hall 2;have ga6:aQ all 6=some 30:=hall 6;have ga17:aQ all 17=some 41:=hall 17;have ga21:aQ all 21=some 45:=hall 21;refine iK 3 fun _ Y=>?_;simp(maxSteps:=999999)(disch:=omega)[aC,aB,hg,ga2,ga6,ga17,ga21];apply Y;refine zbD 26 ?_ ?_<;>intro g2<;>try simp at g2
  .refine iK 4 fun _ Y=>?_;simp(maxSteps:=999999)(disch:=omega)[aC,aB,hg,ga2,ga6,ga17,ga21];and_intros<;>try first|omega|exact rfl
   apply Y;refine zbD 30 ?_ ?_<;>intro g3<;>try simp at g3
   .have hs1:=Xa (l:=E.kids) (o:=yJ (eR x.view)) (by omega);refine iK 8 fun _ Y=>?_;simp(maxSteps:=999999)(disch:=omega)[aC,aB,hg,ga2,ga6,ga17,ga21];and_intros<;>try first|omega|exact rfl
    apply Y;refine iK 3 fun _ Y=>?_;simp(maxSteps:=999999)(disch:=omega)[aC,aB,hg,ga2,ga6,ga17,ga21];apply Y;refine iK 8 fun _ Y=>?_;simp(maxSteps:=999999)(disch:=omega)[aC,aB,hg,ga2,ga6,ga17,ga21];and_intros<;>try first|omega|exact rfl
    apply Y;simp(maxSteps:=999999)(disch:=omega)[aC,aB,hg,ga2,ga6,ga17,ga21];apply Z;refine aY (t:=true) (by simp) (fun _=>?_) (fun h=>by cases h);refine zk [1,2,3,4] ?_;refine zt q33_1 fun _ _ Z=>?_;simp(maxSteps:=999999)(disch:=omega)[aC,aB,hg];and_intros<;>try first|omega|exact rfl
    apply Z;refine eQ (()) (trivial) (aU rfl ?_ (by simp) (by simp));simp [jG,Rl,nL,hE, *]
   have hs1:=Wx (l:=E.kids) (o:=yJ (eR x.view)) (by omega);refine iK 5 fun _ Y=>?_;simp(maxSteps:=999999)(disch:=omega)[aC,aB,hg,ga2,ga6,ga17,ga21];and_intros<;>try first|omega|exact rfl
   apply Y;refine zdg ga6 fun _ Y=>?_;simp(maxSteps:=999999)(disch:=omega)[aC,aB,hg,ga2,ga6,ga17,ga21];refine pH (fun _=>(aKm x.view _ hv hc)) ?_;apply Y;refine zdg ga6 fun _ Y=>?_;simp(maxSteps:=999999)(disch:=omega)[aC,aB,hg,ga2,ga6,ga17,ga21];refine pH (fun _=>(Pp (E.kids[0]'(by omega)) (yJ (eR x.view)) (hEI.k _ (bS _)).b htb _)) ?_;apply Y;refine iK 4 fun _ Y=>?_;simp(maxSteps:=999999)(disch:=omega)[aC,aB,hg,ga2,ga6,ga17,ga21];apply Y;refine zbD 41 ?_ ?_<;>intro g4<;>try simp at g4
   .refine iK 8 fun _ Y=>?_;simp(maxSteps:=999999)(disch:=omega)[aC,aB,hg,ga2,ga6,ga17,ga21];and_intros<;>try first|omega|exact rfl
    apply Y;simp(maxSteps:=999999)(disch:=omega)[aC,aB,hg,ga2,ga6,ga17,ga21];apply Z;refine aY (t:=true) (by simp) (fun _=>?_) (fun h=>by cases h);refine zk [1,2,3,4] ?_;refine zt q33_1 fun _ _ Z=>?_;simp(maxSteps:=999999)(disch:=omega)[aC,aB,hg];and_intros<;>try first|omega|exact rfl
    apply Z;refine eQ (()) (trivial) (aU rfl ?_ (by simp) (by simp));simp [jG,Rl,nL,hE, *]
   refine iK 4 fun _ Y=>?_;simp(maxSteps:=999999)(disch:=omega)[aC,aB,hg,ga2,ga6,ga17,ga21];apply Y;refine zbD 45 ?_ ?_<;>intro g5<;>try simp at g5
   .rw [g2] at g5;cases g5
   simp(maxSteps:=999999)(disch:=omega)[aC,aB,hg,ga2,ga6,ga17,ga21];apply Z;refine aY (t:=false) (by simp) (fun h=>by cases h) (fun _=>?_);apply fM;refine eQ (()) (trivial) (aU rfl ?_ (by simp) (by simp));simp [jG,Rl,nL,hE, *]
  refine iK 8 fun _ Y=>?_;simp(maxSteps:=999999)(disch:=omega)[aC,aB,hg,ga2,ga6,ga17,ga21];and_intros<;>try first|omega|exact rfl
  apply Y;refine iK 7 fun _ Y=>?_;simp(maxSteps:=999999)(disch:=omega)[aC,aB,hg,ga2,ga6,ga17,ga21];apply Y;refine iK 4 fun _ Y=>?_;simp(maxSteps:=999999)(disch:=omega)[aC,aB,hg,ga2,ga6,ga17,ga21];apply Y;refine zbD 45 ?_ ?_<;>intro g6<;>try simp at g6
  .simp(maxSteps:=999999)(disch:=omega)[aC,aB,hg,ga2,ga6,ga17,ga21];and_intros<;>try first|omega|exact rfl
   apply Z;refine zI ?_ ?_<;>intro c7<;>try simp at c7
   .refine zk [1,2,3,4] ?_;refine zt q33_1 fun _ _ Z=>?_;simp(maxSteps:=999999)(disch:=omega)[aC,aB,hg];and_intros<;>try first|omega|exact rfl
    apply Z;refine eQ (()) (trivial) (aU rfl ?_ (by simp) (by simp));simp [jG,Rl,nL,hE, *]
   apply fM;refine eQ (()) (trivial) (aU rfl ?_ (by simp) (by simp));simp [jG,Rl,nL,hE, *]
  rw [g2] at g6;cases g6
 rintro - -;simp only [aM,aK,dD,cJ,bK,bN];apply aF;refine zr q33_1 fun _ _ Z=>?_;simp(maxSteps:=999999)(disch:=omega)[aC,aB,hg];and_intros<;>try first|omega|exact rfl
 apply Z;apply aN;refine zk [1,2,3,56,57,58] ?_;refine bA (fun(k:Nat)=> [(58,.d (.v (.int .i64 (k:Int)))),(3,.d (.sl true ((rK x k).map mC))),(6,.d (.any)),(7,.d (.any)),(8,.d (.any)),(9,.d (.any)),(10,.d (.any))]) [3,6,7,8,9,10,58,59,60,61,62,63,64,65,66,67,68,69,70,71,72,73,74,75,76,77,78,79,80,81,82,83,84,85,86,87,88,89,90,91,92,93,94,95,96,97,98,99,100,101,102,103,104,105,106,107,108,109,110,111,112,113,114,115,116,117,118,119,120,121,122,123,124,125,126,127,128,129,130,131,132,133,134,135,136,137,138,139,140,141,142,143,144,145,146,147,148,149] (fun(k:Nat)=>k<=x.kids.length) (fun(k:Nat)=>x.kids.length - k) (0) (by simp <;> rfl) ?_ ?_ ?_
 .simp [aSw]
 .simp
 rintro k hkk;simp only [aM,aK];have hkl:=aH1 x k hkk;refine zr q33_1 fun _ _ Z=>?_;simp(maxSteps:=999999)(disch:=omega)[aC,aB,hg];apply Z;apply aF;refine zI ?_ ?_<;>intro c8<;>try simp at c8
 .have hnx:=aKa (x:=x) c8;obtain⟨K,hK⟩:∃K,x.kids[k]=K:=⟨_,rfl⟩;rw [hK] at hnx;have hTI:=h.fnd K.ID;have hTE:=hTI.e;have hl1:=Nd x.tree K;have hl2:=Dh x.tree K;apply kL;refine zk [1,2,3,6,7,8,9,10,56,57,58] ?_;refine zr q33_1 fun _ _ Z=>?_;simp(maxSteps:=999999)(disch:=omega)[aC,aB,hg,hK];and_intros<;>try first|omega|exact rfl
  apply Z;refine zk [1,2,3,6,7,8,9,10,56,57,58] ?_;refine zr q33_1 fun _ _ Z=>?_;refine zs 4 fun _ Y=>?_;simp(maxSteps:=999999)(disch:=omega)[aC,aB,hg,hK];apply Y;refine aG fun _ Y=>?_;simp(maxSteps:=999999)(disch:=omega)[aC,aB,hg,hK];refine dX (Hp x.tree K.ID h.b _) ?_;apply Y;simp(maxSteps:=999999)(disch:=omega)[aC,aB,hg,hK];apply Z;refine zk [1,2,3,6,7,8,9,10,56,57,58] ?_;apply aF;refine iA (fun(_:Unit)=> [(3,.d (.sl true ((rK x k++Kg x.tree K).map mC)))]) (fun(_:Unit)=> []) (fun(_:Unit)=> []) [3,70,71,72,73,74,75,76,77,78,79,80,81,82,83,84] (fun(_:Unit)=>True) (by simp <;> rfl) ?_ ?_
  .refine oL q33_1 fun all hall _ Z=>?_;have ga2:aQ all 2=some 72:=hall 2;refine zs 3 fun _ Y=>?_;simp(maxSteps:=999999)(disch:=omega)[aC,aB,hg,ga2,hK];apply Y;refine zb 72 ?_ ?_<;>intro g9<;>try simp at g9
   .simp(maxSteps:=999999)(disch:=omega)[aC,aB,hg,ga2,hK];apply Z;refine aY (t:=true) (by simp) (fun _=>?_) (fun h=>by cases h);refine zk [1,2,3,6,7,8,9,10,56,57,58] ?_;refine zt q33_1 fun _ _ Z=>?_;simp(maxSteps:=999999)(disch:=omega)[aC,aB,hg,hK];and_intros<;>try first|omega|exact rfl
    apply Z;refine eQ (()) (trivial) (aU rfl ?_ (by simp) (by simp));simp [jG,Kg, *]
   refine zs 3 fun _ Y=>?_;simp(maxSteps:=999999)(disch:=omega)[aC,aB,hg,ga2,hK];apply Y;refine zg ga2 fun _ Y=>?_;simp(maxSteps:=999999)(disch:=omega)[aC,aB,hg,ga2,hK];refine dX (Pc (rB x.tree K.ID) K.look _ hTE.1) ?_;apply Y;simp(maxSteps:=999999)(disch:=omega)[aC,aB,hg,ga2,hK];apply Z;refine zI ?_ ?_<;>intro c10<;>try simp at c10
   .refine zk [1,2,3,6,7,8,9,10,56,57,58] ?_;refine zt q33_1 fun _ _ Z=>?_;simp(maxSteps:=999999)(disch:=omega)[aC,aB,hg,hK];and_intros<;>try first|omega|exact rfl
    apply Z;refine eQ (()) (trivial) (aU rfl ?_ (by simp) (by simp));simp [jG,Kg, *]
   apply fM;refine eQ (()) (trivial) (aU rfl ?_ (by simp) (by simp));simp [jG,Kg, *]
  rintro - -;simp only [aM,aK,dD,cJ,bK,bN];refine zk [1,2,3,6,7,8,9,10,56,57,58] ?_;apply aF;refine iA (fun(_:Unit)=> [(3,.d (.sl true ((rK x k++Kg x.tree K++k2F x.tree K).map mC)))]) (fun(_:Unit)=> []) (fun(_:Unit)=> []) [3,85,86,87,88,89,90,91,92,93,94,95,96,97,98,99] (fun(_:Unit)=>True) (by simp <;> rfl) ?_ ?_
  .refine zd q33_1 [.op {},.op {},.op {rL:=true},.pure,.op {},.op {rL:=true},.pure,.op {},.op {}] fun all hall _ Z=>?_;have ga1:aQ all 1=some 86:=hall 1;refine iK 2 fun _ Y=>?_;simp(maxSteps:=999999)(disch:=omega)[aC,aB,hg,ga1,hK];apply Y;refine zbD 86 ?_ ?_<;>intro g11<;>try simp at g11
   .refine iK 1 fun _ Y=>?_;simp(maxSteps:=999999)(disch:=omega)[aC,aB,hg,ga1,hK];apply Y;refine zdg ga1 fun _ Y=>?_;simp(maxSteps:=999999)(disch:=omega)[aC,aB,hg,ga1,hK];refine pH (fun _=>(wY (rB x.tree K.ID) _ hTE.1)) ?_;apply Y;refine iK 2 fun _ Y=>?_;simp(maxSteps:=999999)(disch:=omega)[aC,aB,hg,ga1,hK];apply Y;refine zdg ga1 fun _ Y=>?_;simp(maxSteps:=999999)(disch:=omega)[aC,aB,hg,ga1,hK];refine pH (fun _=>(Zg K.look _)) ?_;apply Y;simp(maxSteps:=999999)(disch:=omega)[aC,aB,hg,ga1,hK];apply Z;refine zI ?_ ?_<;>intro c12<;>try simp at c12
    .refine zk [1,2,3,6,7,8,9,10,56,57,58] ?_;refine zt q33_1 fun _ _ Z=>?_;simp(maxSteps:=999999)(disch:=omega)[aC,aB,hg,hK];and_intros<;>try first|omega|exact rfl
     apply Z;refine eQ (()) (trivial) (aU rfl ?_ (by simp) (by simp));simp [jG,k2F, *]
    apply fM;refine eQ (()) (trivial) (aU rfl ?_ (by simp) (by simp));simp [jG,k2F, *]
   simp(maxSteps:=999999)(disch:=omega)[aC,aB,hg,ga1,hK];apply Z;refine aY (t:=false) (by simp) (fun h=>by cases h) (fun _=>?_);apply fM;refine eQ (()) (trivial) (aU rfl ?_ (by simp) (by simp));simp [jG,k2F, *]
  rintro - -;simp only [aM,aK,dD,cJ,bK,bN];refine zr q33_1 fun _ _ Z=>?_;simp(maxSteps:=999999)(disch:=omega)[aC,aB,hg,hK];apply Z;refine zk [1,2,3,6,7,8,9,10,56,57,58] ?_;apply aF;refine iA (fun(_:Unit)=> [(9,.d (D.int (aBe K.look)))]) (fun(_:Unit)=> []) (fun(_:Unit)=> []) [9,100,101,102,103,104,105,106,107,108,109] (fun(_:Unit)=>True) (by simp <;> rfl) ?_ ?_
  .refine oL q33_1 fun all hall _ Z=>?_;have ga4:aQ all 4=some 104:=hall 4;refine zs 5 fun _ Y=>?_;simp(maxSteps:=999999)(disch:=omega)[aC,aB,hg,ga4,hK];apply Y;refine zb 104 ?_ ?_<;>intro g13<;>try simp at g13
   .simp(maxSteps:=999999)(disch:=omega)[aC,aB,hg,ga4,hK];apply Z;refine aY (t:=true) (by simp) (fun _=>?_) (fun h=>by cases h);refine zk [1,2,3,6,7,8,9,10,56,57,58] ?_;refine zt q33_1 fun _ _ Z=>?_;simp(maxSteps:=999999)(disch:=omega)[aC,aB,hg,hK];apply Z;refine eQ (()) (trivial) (aU rfl ?_ (by simp) (by simp));simp [jG,aBe, *]
   simp(maxSteps:=999999)(disch:=omega)[aC,aB,hg,ga4,hK];apply Z;refine zI ?_ ?_<;>intro c14<;>try simp at c14
   .refine zk [1,2,3,6,7,8,9,10,56,57,58] ?_;refine zt q33_1 fun _ _ Z=>?_;simp(maxSteps:=999999)(disch:=omega)[aC,aB,hg,hK];apply Z;refine eQ (()) (trivial) (aU rfl ?_ (by simp) (by simp));simp [jG,aBe, *]
   apply fM;refine eQ (()) (trivial) (aU rfl ?_ (by simp) (by simp));simp [jG,aBe, *]
  rintro - -;simp only [aM,aK,dD,cJ,bK,bN];refine zk [1,2,3,6,7,8,9,10,56,57,58] ?_;apply aF;refine iA (fun(_:Unit)=> [(9,.d (D.int (Cc K.look)))]) (fun(_:Unit)=> []) (fun(_:Unit)=> []) [9,110,111,112,113,114,115,116,117,118,119] (fun(_:Unit)=>True) (by simp <;> rfl) ?_ ?_
  .refine oL q33_1 fun all hall _ Z=>?_;have ga4:aQ all 4=some 114:=hall 4;refine zs 5 fun _ Y=>?_;simp(maxSteps:=999999)(disch:=omega)[aC,aB,hg,ga4,hK];apply Y;refine zb 114 ?_ ?_<;>intro g15<;>try simp at g15
   .simp(maxSteps:=999999)(disch:=omega)[aC,aB,hg,ga4,hK];apply Z;refine aY (t:=true) (by simp) (fun _=>?_) (fun h=>by cases h);refine zk [1,2,3,6,7,8,9,10,56,57,58] ?_;refine zt q33_1 fun _ _ Z=>?_;simp(maxSteps:=999999)(disch:=omega)[aC,aB,hg,hK];apply Z;refine eQ (()) (trivial) (aU rfl ?_ (by simp) (by simp));simp [jG,Cc, *]
   simp(maxSteps:=999999)(disch:=omega)[aC,aB,hg,ga4,hK];apply Z;refine zI ?_ ?_<;>intro c16<;>try simp at c16
   .refine zk [1,2,3,6,7,8,9,10,56,57,58] ?_;refine zt q33_1 fun _ _ Z=>?_;simp(maxSteps:=999999)(disch:=omega)[aC,aB,hg,hK];apply Z;refine eQ (()) (trivial) (aU rfl ?_ (by simp) (by simp));simp [jG,Cc, *]
   apply fM;refine eQ (()) (trivial) (aU rfl ?_ (by simp) (by simp));simp [jG,Cc, *]
  rintro - -;simp only [aM,aK,dD,cJ,bK,bN];refine zr q33_1 fun _ _ Z=>?_;simp(maxSteps:=999999)(disch:=omega)[aC,aB,hg,hK];apply Z;refine zk [1,2,3,6,7,8,9,10,56,57,58] ?_;apply aF;refine iA (fun(_:Unit)=> [(10,.d (D.int (tW K.look)))]) (fun(_:Unit)=> []) (fun(_:Unit)=> []) [10,123,124,125,126,127,128] (fun(_:Unit)=>True) (by simp <;> rfl) ?_ ?_
  .refine oL q33_1 fun all hall _ Z=>?_;have ga2:aQ all 2=some 125:=hall 2;refine zs 3 fun _ Y=>?_;simp(maxSteps:=999999)(disch:=omega)[aC,aB,hg,ga2,hK];apply Y;refine zb 125 ?_ ?_<;>intro g17<;>try simp at g17
   .simp(maxSteps:=999999)(disch:=omega)[aC,aB,hg,ga2,hK];apply Z;refine aY (t:=true) (by simp) (fun _=>?_) (fun h=>by cases h);refine zk [1,2,3,6,7,8,9,10,56,57,58] ?_;refine zt q33_1 fun _ _ Z=>?_;simp(maxSteps:=999999)(disch:=omega)[aC,aB,hg,hK];apply Z;refine eQ (()) (trivial) (aU rfl ?_ (by simp) (by simp));first | (simp [jG,tW, *];done) | (simp [jG,tW, *];omega)
   simp(maxSteps:=999999)(disch:=omega)[aC,aB,hg,ga2,hK];apply Z;refine zI ?_ ?_<;>intro c18<;>try simp at c18
   .refine zk [1,2,3,6,7,8,9,10,56,57,58] ?_;refine zt q33_1 fun _ _ Z=>?_;simp(maxSteps:=999999)(disch:=omega)[aC,aB,hg,hK];apply Z;refine eQ (()) (trivial) (aU rfl ?_ (by simp) (by simp));first | (simp [jG,tW, *];done) | (simp [jG,tW, *];omega)
   apply fM;refine eQ (()) (trivial) (aU rfl ?_ (by simp) (by simp));first | (simp [jG,tW, *];done) | (simp [jG,tW, *];omega)
  rintro - -;simp only [aM,aK,dD,cJ,bK,bN];refine zk [1,2,3,6,7,8,9,10,56,57,58] ?_;refine oL q33_1 fun all hall _ Z=>?_;have ga6:aQ all 6=some 135:=hall 6;refine zs 4 fun _ Y=>?_;simp(maxSteps:=999999)(disch:=omega)[aC,aB,hg,ga6,hK];apply Y;refine aG fun _ Y=>?_;simp(maxSteps:=999999)(disch:=omega)[aC,aB,hg,ga6,hK];refine dX (Uy x K.ID 1 (Cc K.look) _ (by omega)) ?_;apply Y;refine zs 2 fun _ Y=>?_;simp(maxSteps:=999999)(disch:=omega)[aC,aB,hg,ga6,hK];apply Y;refine zb 135 ?_ ?_<;>intro g19<;>try simp at g19
  .simp(maxSteps:=999999)(disch:=omega)[aC,aB,hg,ga6,hK];apply Z;refine aY (t:=true) (by simp) (fun _=>?_) (fun h=>by cases h);refine zk [1,2,3,6,7,8,9,10,56,57,58] ?_;refine zt q33_1 fun _ _ Z=>?_;simp(maxSteps:=999999)(disch:=omega)[aC,aB,hg,hK];and_intros<;>try first|omega|exact rfl
   apply Z;apply zB;refine zk [1,2,3,6,7,8,9,10,56,57,58] ?_;refine zt q33_1 fun _ _ Z=>?_;simp(maxSteps:=999999)(disch:=omega)[aC,aB,hg,hK];and_intros<;>try first|omega|exact rfl
   apply Z;refine zq (k+1) ?_ ?_ ?_
   .omega
   .try dsimp only
    omega
   simp [jG,hnx,yC,Rh, *]
  refine zs 4 fun _ Y=>?_;simp(maxSteps:=999999)(disch:=omega)[aC,aB,hg,ga6,hK];apply Y;refine zg ga6 fun _ Y=>?_;simp(maxSteps:=999999)(disch:=omega)[aC,aB,hg,ga6,hK];refine dX (Uy x K.ID 2 (tW K.look) _ (by omega)) ?_;apply Y;simp(maxSteps:=999999)(disch:=omega)[aC,aB,hg,ga6,hK];apply Z;refine zI ?_ ?_<;>intro c20<;>try simp at c20
  .refine zk [1,2,3,6,7,8,9,10,56,57,58] ?_;refine zt q33_1 fun _ _ Z=>?_;simp(maxSteps:=999999)(disch:=omega)[aC,aB,hg,hK];and_intros<;>try first|omega|exact rfl
   apply Z;apply zB;refine zk [1,2,3,6,7,8,9,10,56,57,58] ?_;refine zt q33_1 fun _ _ Z=>?_;simp(maxSteps:=999999)(disch:=omega)[aC,aB,hg,hK];and_intros<;>try first|omega|exact rfl
   apply Z;refine zq (k+1) ?_ ?_ ?_
   .omega
   .try dsimp only
    omega
   simp [jG,hnx,yC,Rh, *]
  apply lP;refine zk [1,2,3,6,7,8,9,10,56,57,58] ?_;refine zt q33_1 fun _ _ Z=>?_;simp(maxSteps:=999999)(disch:=omega)[aC,aB,hg,hK];and_intros<;>try first|omega|exact rfl
  apply Z;refine zq (k+1) ?_ ?_ ?_
  .omega
  .try dsimp only
   omega
  simp [jG,hnx,yC,Rh, *]
 obtain rfl:k=x.kids.length:=by omega
 apply zE;apply aF;refine zk [1,2,3] ?_;refine zr q33_1 fun _ _ Z=>?_;simp(maxSteps:=999999)(disch:=omega)[aC,aB,hg];and_intros<;>try first|omega|exact rfl
 apply Z;apply aN;refine zk [1,2,3,151,152,153] ?_;refine bA (fun(i:Nat)=> [(153,.d (.v (.int .i64 (i:Int)))),(3,.d (.sl true ((rK x x.kids.length++rI x i).map mC))),(12,.d (.any)),(13,.d (.any)),(15,.d (.any))]) [3,12,13,15,153,154,155,156,157,158,159,160,161,162,163,164,165,166,167,168,169,170,171,172,173,174,175,176,177,178,179,180,181,182,183,184,185,186,187,188,189,190,191,192,193,194,195,196,197,198,199,200,201,202,203,204,205,206,207,208,209,210,211,212,213,214,215,216,217] (fun(i:Nat)=>i<=x.pending.length) (fun(i:Nat)=>x.pending.length - i) (0) (by simp <;> rfl) ?_ ?_ ?_
 .simp [aSu]
 .simp
 rintro i hi;simp only [aM,aK];have hkl:=aH1 x x.kids.length (bG _);have hil:=aM3 x i;refine zr q33_1 fun _ _ Z=>?_;simp(maxSteps:=999999)(disch:=omega)[aC,aB,hg];apply Z;apply aF;refine zI ?_ ?_<;>intro c21<;>try simp at c21
 .have hiw := c21;obtain ⟨w, hw⟩ : ∃ w, x.pending[i] = w := ⟨_, rfl⟩;apply kL;refine zr q33_1 fun _ _ Z=>?_;simp (maxSteps:=999999)(disch:=omega)[aC,aB,hg,hw];and_intros<;>try first|omega|exact rfl
  apply Z;refine zk [1,2,3,12,13,15,151,152,153] ?_;refine zr q33_1 fun _ _ Z=>?_;simp(maxSteps:=999999)(disch:=omega)[aC,aB,hg,hw];apply Z;apply aF;refine zr q33_1 fun _ _ Z=>?_;simp(maxSteps:=999999)(disch:=omega)[aC,aB,hg,hw];and_intros<;>try first|omega|exact rfl
  apply Z;apply aN;refine zk [1,2,3,12,13,15,151,152,153,158,159,160] ?_;refine bA (fun(j:Nat)=> [(160,.d (.v (.int .i64 (j:Int)))),(13,.d (.bool (knK x.kids w.node j))),(15,.d (.any))]) [13,15,160,161,162,163,164,165,166,167,168,169,170,171,172] (fun(j:Nat)=>j<=x.kids.length) (fun(j:Nat)=>x.kids.length - j) (0) (by simp <;> rfl) ?_ ?_ ?_
  .simp [aPz]
  .simp
  rintro j hj;simp only [aM,aK];refine zk [1,2,3,12,13,15,151,152,153,158,159,160] ?_;refine zr q33_1 fun _ _ Z=>?_;simp(maxSteps:=999999)(disch:=omega)[aC,aB,hg,hw];apply Z;apply aF;refine zI ?_ ?_<;>intro c22<;>try simp at c22
  .apply kL;refine zk [1,2,3,12,13,15,151,152,153,158,159,160] ?_;refine zr q33_1 fun _ _ Z=>?_;simp(maxSteps:=999999)(disch:=omega)[aC,aB,hg,hw];and_intros<;>try first|omega|exact rfl
   apply Z;refine zk [1,2,3,12,13,15,151,152,153,158,159,160] ?_;refine ztg q33_1 fun all hall _ Z=>?_;have ga1:aQ all 1=some 165:=hall 1;refine zs 2 fun _ Y=>?_;simp(maxSteps:=999999)(disch:=omega)[aC,aB,hg,ga1,hw];apply Y;refine zb 165 ?_ ?_<;>intro g23<;>try simp at g23
   .simp(maxSteps:=999999)(disch:=omega)[aC,aB,hg,ga1,hw];apply Z;apply zB;refine zk [1,2,3,12,13,15,151,152,153,158,159,160] ?_;refine zt q33_1 fun _ _ Z=>?_;simp(maxSteps:=999999)(disch:=omega)[aC,aB,hg,hw];and_intros<;>try first|omega|exact rfl
    apply Z;refine zq (j+1) ?_ ?_ ?_
    .omega
    .try dsimp only
     omega
    simp(maxSteps:=999999)(disch:=omega)[aC,aB,hg,Mz, *,hw]
   simp(maxSteps:=999999)(disch:=omega)[aC,aB,hg,ga1,hw];apply Z;apply zB;refine zk [1,2,3,12,13,15,151,152,153,158,159,160] ?_;refine zt q33_1 fun _ _ Z=>?_;simp(maxSteps:=999999)(disch:=omega)[aC,aB,hg,hw];and_intros<;>try first|omega|exact rfl
   apply Z;refine zq (j+1) ?_ ?_ ?_
   .omega
   .try dsimp only
    omega
   simp(maxSteps:=999999)(disch:=omega)[aC,aB,hg,Mz, *,hw]
  obtain rfl:j=x.kids.length:=by omega
  apply zE;refine zk [1,2,3,12,13,15,151,152,153] ?_;refine oL q33_1 fun all hall _ Z=>?_;have ga2:aQ all 2=some 175:=hall 2;have ga6:aQ all 6=some 179:=hall 6;have ga12:aQ all 12=some 185:=hall 12;have ga15:aQ all 15=some 188:=hall 15;have ga20:aQ all 20=some 193:=hall 20;have ga26:aQ all 26=some 199:=hall 26;have ga30:aQ all 30=some 203:=hall 30;refine zs 3 fun _ Y=>?_;simp(maxSteps:=999999)(disch:=omega)[aC,aB,hg,ga2,ga6,ga12,ga15,ga20,ga26,ga30,hw];apply Y;refine zb 175 ?_ ?_<;>intro g24<;>try simp at g24
  .refine zs 8 fun _ Y=>?_;simp(maxSteps:=999999)(disch:=omega)[aC,aB,hg,ga2,ga6,ga12,ga15,ga20,ga26,ga30,hw];and_intros<;>try first|omega|exact rfl
   apply Y;refine zs 2 fun _ Y=>?_;simp(maxSteps:=999999)(disch:=omega)[aC,aB,hg,ga2,ga6,ga12,ga15,ga20,ga26,ga30,hw];apply Y;refine zs 8 fun _ Y=>?_;simp(maxSteps:=999999)(disch:=omega)[aC,aB,hg,ga2,ga6,ga12,ga15,ga20,ga26,ga30,hw];and_intros<;>try first|omega|exact rfl
   apply Y;refine zs 6 fun _ Y=>?_;simp(maxSteps:=999999)(disch:=omega)[aC,aB,hg,ga2,ga6,ga12,ga15,ga20,ga26,ga30,hw];apply Y;refine zs 8 fun _ Y=>?_;simp(maxSteps:=999999)(disch:=omega)[aC,aB,hg,ga2,ga6,ga12,ga15,ga20,ga26,ga30,hw];and_intros<;>try first|omega|exact rfl
   apply Y;simp(maxSteps:=999999)(disch:=omega)[aC,aB,hg,ga2,ga6,ga12,ga15,ga20,ga26,ga30,hw];apply Z;refine aY (t:=true) (by simp) (fun _=>?_) (fun h=>by cases h);refine zk [1,2,3,12,13,15,151,152,153] ?_;refine zt q33_1 fun _ _ Z=>?_;simp(maxSteps:=999999)(disch:=omega)[aC,aB,hg,hw];and_intros<;>try first|omega|exact rfl
   apply Z;apply zB;refine zk [1,2,3,12,13,15,151,152,153] ?_;refine zt q33_1 fun _ _ Z=>?_;simp(maxSteps:=999999)(disch:=omega)[aC,aB,hg,hw];and_intros<;>try first|omega|exact rfl
   apply Z;refine zq (i+1) ?_ ?_ ?_
   .omega
   .try dsimp only
    omega
   first | (have hr:=oI (x:=x) hiw (by rw [hw];simp [fZ, *]);rw [hr,hw];simp [jG];done) | (have hr:=tC (x:=x) hiw (by rw [hw];simp [fZ, *]);rw [hr];simp [jG];done)
  refine zs 4 fun _ Y=>?_;simp(maxSteps:=999999)(disch:=omega)[aC,aB,hg,ga2,ga6,ga12,ga15,ga20,ga26,ga30,hw];apply Y;refine zb 179 ?_ ?_<;>intro g25<;>try simp at g25
  .refine zs 6 fun _ Y=>?_;simp(maxSteps:=999999)(disch:=omega)[aC,aB,hg,ga2,ga6,ga12,ga15,ga20,ga26,ga30,hw];apply Y;refine zb 185 ?_ ?_<;>intro g26<;>try simp at g26
   .refine zs 8 fun _ Y=>?_;simp(maxSteps:=999999)(disch:=omega)[aC,aB,hg,ga2,ga6,ga12,ga15,ga20,ga26,ga30,hw];and_intros<;>try first|omega|exact rfl
    apply Y;refine zs 6 fun _ Y=>?_;simp(maxSteps:=999999)(disch:=omega)[aC,aB,hg,ga2,ga6,ga12,ga15,ga20,ga26,ga30,hw];apply Y;refine zs 8 fun _ Y=>?_;simp(maxSteps:=999999)(disch:=omega)[aC,aB,hg,ga2,ga6,ga12,ga15,ga20,ga26,ga30,hw];and_intros<;>try first|omega|exact rfl
    apply Y;simp(maxSteps:=999999)(disch:=omega)[aC,aB,hg,ga2,ga6,ga12,ga15,ga20,ga26,ga30,hw];apply Z;refine aY (t:=true) (by simp) (fun _=>?_) (fun h=>by cases h);refine zk [1,2,3,12,13,15,151,152,153] ?_;refine zt q33_1 fun _ _ Z=>?_;simp(maxSteps:=999999)(disch:=omega)[aC,aB,hg,hw];and_intros<;>try first|omega|exact rfl
    apply Z;apply zB;refine zk [1,2,3,12,13,15,151,152,153] ?_;refine zt q33_1 fun _ _ Z=>?_;simp(maxSteps:=999999)(disch:=omega)[aC,aB,hg,hw];and_intros<;>try first|omega|exact rfl
    apply Z;refine zq (i+1) ?_ ?_ ?_
    .omega
    .try dsimp only
     omega
    first | (have hr:=oI (x:=x) hiw (by rw [hw];simp [fZ, *]);rw [hr,hw];simp [jG];done) | (have hr:=tC (x:=x) hiw (by rw [hw];simp [fZ, *]);rw [hr];simp [jG];done)
   refine zs 3 fun _ Y=>?_;simp(maxSteps:=999999)(disch:=omega)[aC,aB,hg,ga2,ga6,ga12,ga15,ga20,ga26,ga30,hw];apply Y;refine zb 188 ?_ ?_<;>intro g27<;>try simp at g27
   .have hfr:=g27;refine zs 5 fun _ Y=>?_;simp(maxSteps:=999999)(disch:=omega)[aC,aB,hg,ga2,ga6,ga12,ga15,ga20,ga26,ga30,hw];apply Y;refine zb 193 ?_ ?_<;>intro g28<;>try simp at g28
    .refine zs 6 fun _ Y=>?_;simp(maxSteps:=999999)(disch:=omega)[aC,aB,hg,ga2,ga6,ga12,ga15,ga20,ga26,ga30,hw];apply Y;refine zb 199 ?_ ?_<;>intro g29<;>try simp at g29
     .refine zs 8 fun _ Y=>?_;simp(maxSteps:=999999)(disch:=omega)[aC,aB,hg,ga2,ga6,ga12,ga15,ga20,ga26,ga30,hw];and_intros<;>try first|omega|exact rfl
      apply Y;simp(maxSteps:=999999)(disch:=omega)[aC,aB,hg,ga2,ga6,ga12,ga15,ga20,ga26,ga30,hw];apply Z;refine aY (t:=true) (by simp) (fun _=>?_) (fun h=>by cases h);refine zk [1,2,3,12,13,15,151,152,153] ?_;refine zt q33_1 fun _ _ Z=>?_;simp(maxSteps:=999999)(disch:=omega)[aC,aB,hg,hw];and_intros<;>try first|omega|exact rfl
      apply Z;apply zB;refine zk [1,2,3,12,13,15,151,152,153] ?_;refine zt q33_1 fun _ _ Z=>?_;simp(maxSteps:=999999)(disch:=omega)[aC,aB,hg,hw];and_intros<;>try first|omega|exact rfl
      apply Z;refine zq (i+1) ?_ ?_ ?_
      .omega
      .try dsimp only
       omega
      first | (have hr:=oI (x:=x) hiw (by rw [hw];simp [fZ, *]);rw [hr,hw];simp [jG];done) | (have hr:=tC (x:=x) hiw (by rw [hw];simp [fZ, *]);rw [hr];simp [jG];done)
     refine zs 4 fun _ Y=>?_;simp(maxSteps:=999999)(disch:=omega)[aC,aB,hg,ga2,ga6,ga12,ga15,ga20,ga26,ga30,hw];apply Y;refine zb 203 ?_ ?_<;>intro g30<;>try simp at g30
     .rw [hfr] at g30;cases g30
     simp(maxSteps:=999999)(disch:=omega)[aC,aB,hg,ga2,ga6,ga12,ga15,ga20,ga26,ga30,hw];apply Z;refine aY (t:=false) (by simp) (fun h=>by cases h) (fun _=>?_);apply lP;refine zk [1,2,3,12,13,15,151,152,153] ?_;refine zt q33_1 fun _ _ Z=>?_;simp(maxSteps:=999999)(disch:=omega)[aC,aB,hg,hw];and_intros<;>try first|omega|exact rfl
     apply Z;refine zq (i+1) ?_ ?_ ?_
     .omega
     .try dsimp only
      omega
     first | (have hr:=oI (x:=x) hiw (by rw [hw];simp [fZ, *]);rw [hr,hw];simp [jG];done) | (have hr:=tC (x:=x) hiw (by rw [hw];simp [fZ, *]);rw [hr];simp [jG];done)
    refine zs 6 fun _ Y=>?_;simp(maxSteps:=999999)(disch:=omega)[aC,aB,hg,ga2,ga6,ga12,ga15,ga20,ga26,ga30,hw];apply Y;refine zs 4 fun _ Y=>?_;simp(maxSteps:=999999)(disch:=omega)[aC,aB,hg,ga2,ga6,ga12,ga15,ga20,ga26,ga30,hw];apply Y;refine zb 203 ?_ ?_<;>intro g31<;>try simp at g31
    .rw [hfr] at g31;cases g31
    simp(maxSteps:=999999)(disch:=omega)[aC,aB,hg,ga2,ga6,ga12,ga15,ga20,ga26,ga30,hw];apply Z;refine aY (t:=false) (by simp) (fun h=>by cases h) (fun _=>?_);apply lP;refine zk [1,2,3,12,13,15,151,152,153] ?_;refine zt q33_1 fun _ _ Z=>?_;simp(maxSteps:=999999)(disch:=omega)[aC,aB,hg,hw];and_intros<;>try first|omega|exact rfl
    apply Z;refine zq (i+1) ?_ ?_ ?_
    .omega
    .try dsimp only
     omega
    first | (have hr:=oI (x:=x) hiw (by rw [hw];simp [fZ, *]);rw [hr,hw];simp [jG];done) | (have hr:=tC (x:=x) hiw (by rw [hw];simp [fZ, *]);rw [hr];simp [jG];done)
   have hfr:=g27;refine zs 5 fun _ Y=>?_;simp(maxSteps:=999999)(disch:=omega)[aC,aB,hg,ga2,ga6,ga12,ga15,ga20,ga26,ga30,hw];apply Y;refine zs 6 fun _ Y=>?_;simp(maxSteps:=999999)(disch:=omega)[aC,aB,hg,ga2,ga6,ga12,ga15,ga20,ga26,ga30,hw];apply Y;refine zs 4 fun _ Y=>?_;simp(maxSteps:=999999)(disch:=omega)[aC,aB,hg,ga2,ga6,ga12,ga15,ga20,ga26,ga30,hw];apply Y;refine zb 203 ?_ ?_<;>intro g32<;>try simp at g32
   .simp(maxSteps:=999999)(disch:=omega)[aC,aB,hg,ga2,ga6,ga12,ga15,ga20,ga26,ga30,hw];apply Z;refine zI ?_ ?_<;>intro c33<;>try simp at c33
    .refine zk [1,2,3,12,13,15,151,152,153] ?_;refine zt q33_1 fun _ _ Z=>?_;simp(maxSteps:=999999)(disch:=omega)[aC,aB,hg,hw];and_intros<;>try first|omega|exact rfl
     apply Z;apply zB;refine zk [1,2,3,12,13,15,151,152,153] ?_;refine zt q33_1 fun _ _ Z=>?_;simp(maxSteps:=999999)(disch:=omega)[aC,aB,hg,hw];and_intros<;>try first|omega|exact rfl
     apply Z;refine zq (i+1) ?_ ?_ ?_
     .omega
     .try dsimp only
      omega
     first | (have hr:=oI (x:=x) hiw (by rw [hw];simp [fZ, *]);rw [hr,hw];simp [jG];done) | (have hr:=tC (x:=x) hiw (by rw [hw];simp [fZ, *]);rw [hr];simp [jG];done)
    apply lP;refine zk [1,2,3,12,13,15,151,152,153] ?_;refine zt q33_1 fun _ _ Z=>?_;simp(maxSteps:=999999)(disch:=omega)[aC,aB,hg,hw];and_intros<;>try first|omega|exact rfl
    apply Z;refine zq (i+1) ?_ ?_ ?_
    .omega
    .try dsimp only
     omega
    first | (have hr:=oI (x:=x) hiw (by rw [hw];simp [fZ, *]);rw [hr,hw];simp [jG];done) | (have hr:=tC (x:=x) hiw (by rw [hw];simp [fZ, *]);rw [hr];simp [jG];done)
   rw [hfr] at g32;cases g32
  refine zs 6 fun _ Y=>?_;simp(maxSteps:=999999)(disch:=omega)[aC,aB,hg,ga2,ga6,ga12,ga15,ga20,ga26,ga30,hw];apply Y;refine zs 3 fun _ Y=>?_;simp(maxSteps:=999999)(disch:=omega)[aC,aB,hg,ga2,ga6,ga12,ga15,ga20,ga26,ga30,hw];apply Y;refine zb 188 ?_ ?_<;>intro g34<;>try simp at g34
  .have hfr:=g34;refine zs 5 fun _ Y=>?_;simp(maxSteps:=999999)(disch:=omega)[aC,aB,hg,ga2,ga6,ga12,ga15,ga20,ga26,ga30,hw];apply Y;refine zb 193 ?_ ?_<;>intro g35<;>try simp at g35
   .refine zs 6 fun _ Y=>?_;simp(maxSteps:=999999)(disch:=omega)[aC,aB,hg,ga2,ga6,ga12,ga15,ga20,ga26,ga30,hw];apply Y;refine zb 199 ?_ ?_<;>intro g36<;>try simp at g36
    .refine zs 8 fun _ Y=>?_;simp(maxSteps:=999999)(disch:=omega)[aC,aB,hg,ga2,ga6,ga12,ga15,ga20,ga26,ga30,hw];and_intros<;>try first|omega|exact rfl
     apply Y;simp(maxSteps:=999999)(disch:=omega)[aC,aB,hg,ga2,ga6,ga12,ga15,ga20,ga26,ga30,hw];apply Z;refine aY (t:=true) (by simp) (fun _=>?_) (fun h=>by cases h);refine zk [1,2,3,12,13,15,151,152,153] ?_;refine zt q33_1 fun _ _ Z=>?_;simp(maxSteps:=999999)(disch:=omega)[aC,aB,hg,hw];and_intros<;>try first|omega|exact rfl
     apply Z;apply zB;refine zk [1,2,3,12,13,15,151,152,153] ?_;refine zt q33_1 fun _ _ Z=>?_;simp(maxSteps:=999999)(disch:=omega)[aC,aB,hg,hw];and_intros<;>try first|omega|exact rfl
     apply Z;refine zq (i+1) ?_ ?_ ?_
     .omega
     .try dsimp only
      omega
     first | (have hr:=oI (x:=x) hiw (by rw [hw];simp [fZ, *]);rw [hr,hw];simp [jG];done) | (have hr:=tC (x:=x) hiw (by rw [hw];simp [fZ, *]);rw [hr];simp [jG];done)
    refine zs 4 fun _ Y=>?_;simp(maxSteps:=999999)(disch:=omega)[aC,aB,hg,ga2,ga6,ga12,ga15,ga20,ga26,ga30,hw];apply Y;refine zb 203 ?_ ?_<;>intro g37<;>try simp at g37
    .rw [hfr] at g37;cases g37
    simp(maxSteps:=999999)(disch:=omega)[aC,aB,hg,ga2,ga6,ga12,ga15,ga20,ga26,ga30,hw];apply Z;refine aY (t:=false) (by simp) (fun h=>by cases h) (fun _=>?_);apply lP;refine zk [1,2,3,12,13,15,151,152,153] ?_;refine zt q33_1 fun _ _ Z=>?_;simp(maxSteps:=999999)(disch:=omega)[aC,aB,hg,hw];and_intros<;>try first|omega|exact rfl
    apply Z;refine zq (i+1) ?_ ?_ ?_
    .omega
    .try dsimp only
     omega
    first | (have hr:=oI (x:=x) hiw (by rw [hw];simp [fZ, *]);rw [hr,hw];simp [jG];done) | (have hr:=tC (x:=x) hiw (by rw [hw];simp [fZ, *]);rw [hr];simp [jG];done)
   refine zs 6 fun _ Y=>?_;simp(maxSteps:=999999)(disch:=omega)[aC,aB,hg,ga2,ga6,ga12,ga15,ga20,ga26,ga30,hw];apply Y;refine zs 4 fun _ Y=>?_;simp(maxSteps:=999999)(disch:=omega)[aC,aB,hg,ga2,ga6,ga12,ga15,ga20,ga26,ga30,hw];apply Y;refine zb 203 ?_ ?_<;>intro g38<;>try simp at g38
   .rw [hfr] at g38;cases g38
   simp(maxSteps:=999999)(disch:=omega)[aC,aB,hg,ga2,ga6,ga12,ga15,ga20,ga26,ga30,hw];apply Z;refine aY (t:=false) (by simp) (fun h=>by cases h) (fun _=>?_);apply lP;refine zk [1,2,3,12,13,15,151,152,153] ?_;refine zt q33_1 fun _ _ Z=>?_;simp(maxSteps:=999999)(disch:=omega)[aC,aB,hg,hw];and_intros<;>try first|omega|exact rfl
   apply Z;refine zq (i+1) ?_ ?_ ?_
   .omega
   .try dsimp only
    omega
   first | (have hr:=oI (x:=x) hiw (by rw [hw];simp [fZ, *]);rw [hr,hw];simp [jG];done) | (have hr:=tC (x:=x) hiw (by rw [hw];simp [fZ, *]);rw [hr];simp [jG];done)
  have hfr:=g34;refine zs 5 fun _ Y=>?_;simp(maxSteps:=999999)(disch:=omega)[aC,aB,hg,ga2,ga6,ga12,ga15,ga20,ga26,ga30,hw];apply Y;refine zs 6 fun _ Y=>?_;simp(maxSteps:=999999)(disch:=omega)[aC,aB,hg,ga2,ga6,ga12,ga15,ga20,ga26,ga30,hw];apply Y;refine zs 4 fun _ Y=>?_;simp(maxSteps:=999999)(disch:=omega)[aC,aB,hg,ga2,ga6,ga12,ga15,ga20,ga26,ga30,hw];apply Y;refine zb 203 ?_ ?_<;>intro g39<;>try simp at g39
  .simp(maxSteps:=999999)(disch:=omega)[aC,aB,hg,ga2,ga6,ga12,ga15,ga20,ga26,ga30,hw];apply Z;refine zI ?_ ?_<;>intro c40<;>try simp at c40
   .refine zk [1,2,3,12,13,15,151,152,153] ?_;refine zt q33_1 fun _ _ Z=>?_;simp(maxSteps:=999999)(disch:=omega)[aC,aB,hg,hw];and_intros<;>try first|omega|exact rfl
    apply Z;apply zB;refine zk [1,2,3,12,13,15,151,152,153] ?_;refine zt q33_1 fun _ _ Z=>?_;simp(maxSteps:=999999)(disch:=omega)[aC,aB,hg,hw];and_intros<;>try first|omega|exact rfl
    apply Z;refine zq (i+1) ?_ ?_ ?_
    .omega
    .try dsimp only
     omega
    first | (have hr:=oI (x:=x) hiw (by rw [hw];simp [fZ, *]);rw [hr,hw];simp [jG];done) | (have hr:=tC (x:=x) hiw (by rw [hw];simp [fZ, *]);rw [hr];simp [jG];done)
   apply lP;refine zk [1,2,3,12,13,15,151,152,153] ?_;refine zt q33_1 fun _ _ Z=>?_;simp(maxSteps:=999999)(disch:=omega)[aC,aB,hg,hw];and_intros<;>try first|omega|exact rfl
   apply Z;refine zq (i+1) ?_ ?_ ?_
   .omega
   .try dsimp only
    omega
   first | (have hr:=oI (x:=x) hiw (by rw [hw];simp [fZ, *]);rw [hr,hw];simp [jG];done) | (have hr:=tC (x:=x) hiw (by rw [hw];simp [fZ, *]);rw [hr];simp [jG];done)
  rw [hfr] at g39;cases g39
 obtain rfl:i=x.pending.length:=by omega
 apply zE;refine zk [1,2,3] ?_;apply aF;refine iA (fun(_:Unit)=> [(3,.d (.sl true ((sW x).map mC)))]) (fun(_:Unit)=> []) (fun(_:Unit)=> []) [3,218,219,220,221,222,223,224,225] (fun(_:Unit)=>True) (by simp <;> rfl) ?_ ?_
 .refine zr q33_1 fun _ _ Z=>?_;refine zs 2 fun _ Y=>?_;simp(maxSteps:=999999)(disch:=omega)[aC,aB,hg];apply Y;refine aG fun _ Y=>?_;simp(maxSteps:=999999)(disch:=omega)[aC,aB,hg];refine dX (Ts x.hooks _ (by omega)) ?_;apply Y;simp(maxSteps:=999999)(disch:=omega)[aC,aB,hg];apply Z;refine zI ?_ ?_<;>intro c41<;>try simp at c41
  .refine zt q33_1 fun _ _ Z=>?_;simp(maxSteps:=999999)(disch:=omega)[aC,aB,hg];and_intros<;>try first|omega|exact rfl
   apply Z;refine eQ (()) (trivial) (aU rfl ?_ (by simp) (by simp));simp [jG,sW,hkF, *]
  apply fM;refine eQ (()) (trivial) (aU rfl ?_ (by simp) (by simp));simp [jG,sW,hkF, *]
 rintro - -;simp only [aM,aK,dD,cJ,bK,bN];refine zr q33_1 fun _ _ Z=>?_;simp(maxSteps:=999999)(disch:=omega)[aC,aB,hg];apply Z;apply aE;simp [aP]
end Go.Proofs.YtbdjepeabjangaaGreat
