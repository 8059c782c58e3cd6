import Derived.Test.YtbgfljpnhhdkoaaGreatWvLaw
import Derived.Test.YtbgfljpnhhdkoaaGreatWkWv4
import Derived.Test.YtbgfljpnhhdkoaaGreatWkAr9
set_option linter.all false
set_option maxRecDepth 20000
set_option maxHeartbeats 8000000
open Go.Proofs.Tryz
namespace Go.Proofs.YtbgfljpnhhdkoaaGreat
open Go Go.Vm
variable {M k m:Nat}{b i:Int}{bel:Int->List Int}{d:DS}{l:List ND}{n:ND}{rk:Int->Nat}{α β:Type}{σ:List (List D)}
def uT {α β:Type} (nm:α->ByteArray)(mk:Bool->α->β)(A B:List α):List β:=(A.filter fun p=> !Lt nm B (nm p)).map (mk true)
def wW {α:Type} [DecidableEq α](nm:α->ByteArray)(A:List α)(p:α):Bool:=Lt nm A (nm p) && decide (A[lI nm A (nm p)]?=some p)
def tQ {α β:Type} [DecidableEq α](nm:α->ByteArray)(mk:Bool->α->β)(A B:List α):List β:=(B.filter fun p=> !wW nm A p).map (mk false)
def jJ {α β:Type} [DecidableEq α](nm:α->ByteArray)(mk:Bool->α->β)(a b:List α):List β:=uT nm mk (iC nm a) (iC nm b)++tQ nm mk (iC nm a) (iC nm b)
theorem Ud {nm:α->ByteArray} {mk:Bool->α->β} {A B:List α} (hk:k<A.length)(h:¬Lt nm B (nm A[k])=true):uT nm mk (A.take (k+1)) B=uT nm mk (A.take k) B++ [mk true A[k]]:=by
 unfold uT;rw [bL A k hk,fX,qC (by simpa using h),cE];rfl
theorem aBn {nm:α->ByteArray} {mk:Bool->α->β} {A B:List α} (hk:k<A.length)(h:Lt nm B (nm A[k])=true):uT nm mk (A.take (k+1)) B=uT nm mk (A.take k) B:=by
 unfold uT;rw [bL A k hk,fX,sH (by simpa using h),lP,gH]
theorem Cs [DecidableEq α] {nm:α->ByteArray} {mk:Bool->α->β} {A B:List α} (hk:k<B.length)(h:¬wW nm A B[k]=true):tQ nm mk A (B.take (k+1))=tQ nm mk A (B.take k)++ [mk false B[k]]:=by
 unfold tQ;rw [bL B k hk,fX,qC (by simpa using h),cE];rfl
theorem aB7 [DecidableEq α] {nm:α->ByteArray} {mk:Bool->α->β} {A B:List α} (hk:k<B.length)(h:wW nm A B[k]=true):tQ nm mk A (B.take (k+1))=tQ nm mk A (B.take k):=by
 unfold tQ;rw [bL B k hk,fX,sH (by simpa using h),lP,gH]
theorem xE (nm:α->ByteArray)(mk:Bool->α->β)(A B:List α):(uT nm mk A B).length<=A.length:=by unfold uT;rw [bQ];exact jD _ _
theorem Lm [DecidableEq α](nm:α->ByteArray)(mk:Bool->α->β)(A B:List α):(tQ nm mk A B).length<=B.length:=by unfold tQ;rw [bQ];exact jD _ _
abbrev Aj(b:Bool)(p:AT):SA:=if b then⟨true,p.name,⟨#[]⟩⟩else⟨false,p.name,p.value⟩
abbrev Dm(b:Bool)(p:PI):SI:=if b then⟨true,p.name,0⟩else⟨false,p.name,p.value⟩
@[simp] abbrev q26_1:Cfg:=⟨[0,1,4,5,14,15,16,17,33,63,72],[],[],[19,22,41,44,58],[]⟩
theorem aEo(a b:List AT)(σ:List (List D))(ha:a.length<=99999)(hb:b.length<=99999):Ct prog 118 [.sl false (a.map dA),.sl false (b.map dA)] σ (fun r σ'=>r= .sl true ((jJ nA Aj a b).map Ti)/\∃J,σ'=σ++J):=by
 refine zf func118 ?_;obtain⟨A,hA⟩:∃A,iC nA a=A:=⟨_,rfl⟩;obtain⟨B,hB⟩:∃B,iC nA b=B:=⟨_,rfl⟩;have hAl:A.length<=99999:=by rw [<- hA];have:=iI nA a;omega
 have hBl:B.length<=99999:=by rw [<- hB];have:=iI nA b;omega
 have hAs:Sorted nA A:=by rw [<- hA];exact gL nA a
 have hBs:Sorted nA B:=by rw [<- hB];exact gL nA b
 refine zr q26_1 fun _ _ Z=>?_;simp(disch:=omega)[lS,fF,fJ,aA,aB,hA,hB];apply Z;refine zr q26_1 fun _ _ Z=>?_;refine zs 1 fun _ Y=>?_;simp(disch:=omega)[lS,fF,fJ,aA,aB,hA,hB];apply Y;refine aF fun _ Y=>?_;simp(disch:=omega)[lS,fF,fJ,aA,aB,hA,hB];refine cT (Fv a _ (by omega)) ?_;apply Y;refine zs 1 fun _ Y=>?_;simp(disch:=omega)[lS,fF,fJ,aA,aB,hA,hB];apply Y;refine aF fun _ Y=>?_;simp(disch:=omega)[lS,fF,fJ,aA,aB,hA,hB];refine cT (Fv b _ (by omega)) ?_;apply Y;simp(disch:=omega)[lS,fF,fJ,aA,aB,hA,hB];apply Z;refine zr q26_1 fun _ _ Z=>?_;simp(disch:=omega)[lS,fF,fJ,aA,aB,hA,hB];apply Z;apply aE;refine iL 0 2 rfl (by decide) fun cap rest hcap hcm hrest hk0 hes=>?_;subst hrest;simp only [bQ] at hcap |-;rw [cX (f:=cA) (fun _=>rfl)];refine iL 1 2 rfl (by decide) fun cap2 rest hcap2 hcm2 hrest hk02 hes2=>?_;subst hrest;simp only [bQ] at hcap2 |-;rw [cX (f:=cA) (fun _=>rfl)];simp only [bW,aQ,aO,aZ,bJ,cY,Nat.reduceAdd];refine zr q26_1 fun _ _ Z=>?_;simp(disch:=omega)[lS,fF,fJ,aA,aB,hA,hB];and_intros<;>(try omega);apply Z;apply aR;refine zk [0,1,4,5,18,19,20] ?_;refine aY (fun(k:Nat)=> [(20,.d (.v (.int .i64 (k:Int)))),(5,.d (.sl true ((uT nA Aj (A.take k) B).map Ti))),(7,.d (.any)),(8,.d (.any)),(9,.d (.any))]) [5,7,8,9,20,21,22,23,24,25,26,27,28,29,30,31,32,33,34,35,36,37,38,39] (fun(k:Nat)=>k<=A.length) (fun(k:Nat)=>A.length - k) (0) (by simp <;> rfl) ?_ ?_ ?_
 .simp [uT]
 .simp
 rintro k hk;simp only [aQ,aO];have hdl:=xE nA Aj (A.take k) B;simp only [bG] at hdl;refine zr q26_1 fun _ _ Z=>?_;simp(disch:=omega)[lS,fF,fJ,aA,aB,hA,hB];apply Z;apply aE;refine zI ?_ ?_<;>intro c1<;>try simp at c1
 .apply jM;refine zr q26_1 fun _ _ Z=>?_;simp(disch:=omega)[lS,fF,fJ,aA,aB,hA,hB];and_intros<;>(try omega);apply Z;refine zk [0,1,4,5,7,8,9,18,19,20] ?_;refine zr q26_1 fun _ _ Z=>?_;refine zs 3 fun _ Y=>?_;simp(disch:=omega)[lS,fF,fJ,aA,aB,hA,hB];apply Y;refine aF fun _ Y=>?_;simp(disch:=omega)[lS,fF,fJ,aA,aB,hA,hB];refine cT (Qq (σ.length+1) cap2 B _ A[k].name _ (by omega) (by simp [lS];rfl) hBs) ?_;apply Y;simp(disch:=omega)[lS,fF,fJ,aA,aB,hA,hB];apply Z;refine zk [0,1,4,5,7,8,9,18,19,20] ?_;refine zr q26_1 fun _ _ Z=>?_;simp(disch:=omega)[lS,fF,fJ,aA,aB,hA,hB];apply Z;refine zI ?_ ?_<;>intro c2<;>try simp at c2
  .have hds:uT nA Aj (A.take (k+1)) B=uT nA Aj (A.take k) B++ [⟨true,A[k].name,⟨#[]⟩⟩]:=Ud c1 (by simpa using c2);refine zk [0,1,4,5,7,8,9,18,19,20] ?_;refine zt q26_1 fun _ _ Z=>?_;simp(disch:=omega)[lS,fF,fJ,aA,aB,hA,hB];and_intros<;>(try omega);apply Z;apply zB;refine zk [0,1,4,5,7,8,9,18,19,20] ?_;refine zt q26_1 fun _ _ Z=>?_;simp(disch:=omega)[lS,fF,fJ,aA,aB,hA,hB];and_intros<;>(try omega);apply Z;refine zq (k+1) ?_ ?_ ?_
   .omega
   .try dsimp only
    omega
   simp(disch:=omega)[lS,fF,fJ,aA,aB,hds,hA,hB]
  have hds:=aBn (nm:=nA) (mk:=Aj) (B:=B) c1 (by simpa using c2);apply mS;refine zk [0,1,4,5,7,8,9,18,19,20] ?_;refine zt q26_1 fun _ _ Z=>?_;simp(disch:=omega)[lS,fF,fJ,aA,aB,hA,hB];and_intros<;>(try omega);apply Z;refine zq (k+1) ?_ ?_ ?_
  .omega
  .try dsimp only
   omega
  simp(disch:=omega)[lS,fF,fJ,aA,aB,hds,hA,hB]
 obtain rfl:k=A.length:=by omega
 simp only [dY];apply zE;apply aE;refine zr q26_1 fun _ _ Z=>?_;simp(disch:=omega)[lS,fF,fJ,aA,aB,hA,hB];and_intros<;>(try omega);apply Z;apply aR;refine zk [0,4,5,40,41,42] ?_;refine aY (fun(j:Nat)=> [(42,.d (.v (.int .i64 (j:Int)))),(5,.d (.sl true ((uT nA Aj A B++tQ nA Aj A (B.take j)).map Ti))),(11,.d (.any)),(12,.d (.any)),(13,.d (.any))]) [5,11,12,13,42,43,44,45,46,47,48,49,50,51,52,53,54,55,56,57,58,59,60,61,62,63,64,65,66,67,68,69,70,71] (fun(j:Nat)=>j<=B.length) (fun(j:Nat)=>B.length - j) (0) (by simp <;> rfl) ?_ ?_ ?_
 .simp [tQ]
 .simp
 rintro j hj;simp only [aQ,aO];have hdl:=xE nA Aj A B;have hsl:=Lm nA Aj A (B.take j);simp only [bG] at hsl;refine zr q26_1 fun _ _ Z=>?_;simp(disch:=omega)[lS,fF,fJ,aA,aB,hA,hB];apply Z;apply aE;refine zI ?_ ?_<;>intro c3<;>try simp at c3
 .apply jM;refine zr q26_1 fun _ _ Z=>?_;simp(disch:=omega)[lS,fF,fJ,aA,aB,hA,hB];and_intros<;>(try omega);apply Z;refine zk [0,4,5,11,12,13,40,41,42] ?_;refine zr q26_1 fun _ _ Z=>?_;refine zs 3 fun _ Y=>?_;simp(disch:=omega)[lS,fF,fJ,aA,aB,hA,hB];apply Y;refine aF fun _ Y=>?_;simp(disch:=omega)[lS,fF,fJ,aA,aB,hA,hB];refine cT (Qq σ.length cap A _ B[j].name _ (by omega) (by simp [fF];rfl) hAs) ?_;apply Y;simp(disch:=omega)[lS,fF,fJ,aA,aB,hA,hB];apply Z;refine zk [0,4,5,11,12,13,40,41,42] ?_;refine zd q26_1 [.op {},.op {},.op {},.op {},.op {},.op {},.op {rO:=true},.op {rL:=true},.op {},.op {}] fun all hall _ Z=>?_;have ga2:aN all 2=some 55:=hall 2;refine kF 3 fun _ Y=>?_;simp(disch:=omega)[lS,fF,fJ,aA,aB,ga2,hA,hB];apply Y;refine zbD 55 ?_ ?_<;>intro g4<;>try simp at g4
  .have hss:tQ nA Aj A (B.take (j+1))=tQ nA Aj A (B.take j)++ [⟨false,B[j].name,B[j].value⟩]:=Cs c3 (by unfold wW;simp [g4]);simp(disch:=omega)[lS,fF,fJ,aA,aB,ga2,hA,hB];apply Z;refine bA (t:=true) (by simp) (fun _=>?_) (fun h=>by cases h);refine zk [0,4,5,11,12,13,40,41,42] ?_;refine zt q26_1 fun _ _ Z=>?_;refine zs 8 fun _ Y=>?_;simp(disch:=omega)[lS,fF,fJ,aA,aB,hA,hB];and_intros<;>(try omega);apply Y;simp(disch:=omega)[lS,fF,fJ,aA,aB,hA,hB];apply Z;apply zB;refine zk [0,4,5,11,12,13,40,41,42] ?_;refine zt q26_1 fun _ _ Z=>?_;simp(disch:=omega)[lS,fF,fJ,aA,aB,hA,hB];and_intros<;>(try omega);apply Z;refine zq (j+1) ?_ ?_ ?_
   .omega
   .try dsimp only
    omega
   simp(disch:=omega)[lS,fF,fJ,aA,aB,hss,hA,hB]
  have hlt:=Be nA g4;simp(disch:=omega)[lS,fF,fJ,aA,aB,ga2,hA,hB];and_intros<;>(try omega);apply Z;refine zI ?_ ?_<;>intro c5<;>try simp at c5
  .have hss:tQ nA Aj A (B.take (j+1))=tQ nA Aj A (B.take j)++ [⟨false,B[j].name,B[j].value⟩]:=Cs c3 (by unfold wW;rw [g4,aS hlt];simp only [nX,fN,bF];intro e;rw [e] at c5;simp at c5);refine zk [0,4,5,11,12,13,40,41,42] ?_;refine zt q26_1 fun _ _ Z=>?_;refine zs 8 fun _ Y=>?_;simp(disch:=omega)[lS,fF,fJ,aA,aB,hA,hB];and_intros<;>(try omega);apply Y;simp(disch:=omega)[lS,fF,fJ,aA,aB,hA,hB];apply Z;apply zB;refine zk [0,4,5,11,12,13,40,41,42] ?_;refine zt q26_1 fun _ _ Z=>?_;simp(disch:=omega)[lS,fF,fJ,aA,aB,hA,hB];and_intros<;>(try omega);apply Z;refine zq (j+1) ?_ ?_ ?_
   .omega
   .try dsimp only
    omega
   simp(disch:=omega)[lS,fF,fJ,aA,aB,hss,hA,hB]
  have hss:=aB7 (nm:=nA) (mk:=Aj) c3 (by unfold wW;rw [g4,aS hlt];simp only [nX,fN,bF];generalize A[lI nA A B[j].name]=x at c5 |-;generalize B[j]=y at c5 |-;cases x;cases y;simpa using c5);apply mS;refine zk [0,4,5,11,12,13,40,41,42] ?_;refine zt q26_1 fun _ _ Z=>?_;simp(disch:=omega)[lS,fF,fJ,aA,aB,hA,hB];and_intros<;>(try omega);apply Z;refine zq (j+1) ?_ ?_ ?_
  .omega
  .try dsimp only
   omega
  simp(disch:=omega)[lS,fF,fJ,aA,aB,hss,hA,hB]
 obtain rfl:j=B.length:=by omega
 simp only [dY];apply zE;refine zr q26_1 fun _ _ Z=>?_;simp(disch:=omega)[lS,fF,fJ,aA,aB,hA,hB];apply Z;apply aC;simp [aH,jJ,hA,hB]
theorem aEq(a b:List PI)(σ:List (List D))(ha:a.length<=99999)(hb:b.length<=99999):Ct prog 124 [.sl false (a.map cQ),.sl false (b.map cQ)] σ (fun r σ'=>r= .sl true ((jJ nP Dm a b).map Qz)/\∃J,σ'=σ++J):=by
 refine zf func124 ?_;obtain⟨A,hA⟩:∃A,iC nP a=A:=⟨_,rfl⟩;obtain⟨B,hB⟩:∃B,iC nP b=B:=⟨_,rfl⟩;have hAl:A.length<=99999:=by rw [<- hA];have:=iI nP a;omega
 have hBl:B.length<=99999:=by rw [<- hB];have:=iI nP b;omega
 have hAs:Sorted nP A:=by rw [<- hA];exact gL nP a
 have hBs:Sorted nP B:=by rw [<- hB];exact gL nP b
 refine zr q26_1 fun _ _ Z=>?_;simp(disch:=omega)[lS,fF,fJ,aA,aB,hA,hB];apply Z;refine zr q26_1 fun _ _ Z=>?_;refine zs 1 fun _ Y=>?_;simp(disch:=omega)[lS,fF,fJ,aA,aB,hA,hB];apply Y;refine aF fun _ Y=>?_;simp(disch:=omega)[lS,fF,fJ,aA,aB,hA,hB];refine cT (Gc a _ (by omega)) ?_;apply Y;refine zs 1 fun _ Y=>?_;simp(disch:=omega)[lS,fF,fJ,aA,aB,hA,hB];apply Y;refine aF fun _ Y=>?_;simp(disch:=omega)[lS,fF,fJ,aA,aB,hA,hB];refine cT (Gc b _ (by omega)) ?_;apply Y;simp(disch:=omega)[lS,fF,fJ,aA,aB,hA,hB];apply Z;refine zr q26_1 fun _ _ Z=>?_;simp(disch:=omega)[lS,fF,fJ,aA,aB,hA,hB];apply Z;apply aE;refine iL 0 2 rfl (by decide) fun cap rest hcap hcm hrest hk0 hes=>?_;subst hrest;simp only [bQ] at hcap |-;rw [cX (f:=cP) (fun _=>rfl)];refine iL 1 2 rfl (by decide) fun cap2 rest hcap2 hcm2 hrest hk02 hes2=>?_;subst hrest;simp only [bQ] at hcap2 |-;rw [cX (f:=cP) (fun _=>rfl)];simp only [bW,aQ,aO,aZ,bJ,cY,Nat.reduceAdd];refine zr q26_1 fun _ _ Z=>?_;simp(disch:=omega)[lS,fF,fJ,aA,aB,hA,hB];and_intros<;>(try omega);apply Z;apply aR;refine zk [0,1,4,5,18,19,20] ?_;refine aY (fun(k:Nat)=> [(20,.d (.v (.int .i64 (k:Int)))),(5,.d (.sl true ((uT nP Dm (A.take k) B).map Qz))),(7,.d (.any)),(8,.d (.any)),(9,.d (.any))]) [5,7,8,9,20,21,22,23,24,25,26,27,28,29,30,31,32,33,34,35,36,37,38,39] (fun(k:Nat)=>k<=A.length) (fun(k:Nat)=>A.length - k) (0) (by simp <;> rfl) ?_ ?_ ?_
 .simp [uT]
 .simp
 rintro k hk;simp only [aQ,aO];have hdl:=xE nP Dm (A.take k) B;simp only [bG] at hdl;refine zr q26_1 fun _ _ Z=>?_;simp(disch:=omega)[lS,fF,fJ,aA,aB,hA,hB];apply Z;apply aE;refine zI ?_ ?_<;>intro c1<;>try simp at c1
 .apply jM;refine zr q26_1 fun _ _ Z=>?_;simp(disch:=omega)[lS,fF,fJ,aA,aB,hA,hB];and_intros<;>(try omega);apply Z;refine zk [0,1,4,5,7,8,9,18,19,20] ?_;refine zr q26_1 fun _ _ Z=>?_;refine zs 3 fun _ Y=>?_;simp(disch:=omega)[lS,fF,fJ,aA,aB,hA,hB];apply Y;refine aF fun _ Y=>?_;simp(disch:=omega)[lS,fF,fJ,aA,aB,hA,hB];refine cT (Sa (σ.length+1) cap2 B _ A[k].name _ (by omega) (by simp [lS];rfl) hBs) ?_;apply Y;simp(disch:=omega)[lS,fF,fJ,aA,aB,hA,hB];apply Z;refine zk [0,1,4,5,7,8,9,18,19,20] ?_;refine zr q26_1 fun _ _ Z=>?_;simp(disch:=omega)[lS,fF,fJ,aA,aB,hA,hB];apply Z;refine zI ?_ ?_<;>intro c2<;>try simp at c2
  .have hds:uT nP Dm (A.take (k+1)) B=uT nP Dm (A.take k) B++ [⟨true,A[k].name,0⟩]:=Ud c1 (by simpa using c2);refine zk [0,1,4,5,7,8,9,18,19,20] ?_;refine zt q26_1 fun _ _ Z=>?_;simp(disch:=omega)[lS,fF,fJ,aA,aB,hA,hB];and_intros<;>(try omega);apply Z;apply zB;refine zk [0,1,4,5,7,8,9,18,19,20] ?_;refine zt q26_1 fun _ _ Z=>?_;simp(disch:=omega)[lS,fF,fJ,aA,aB,hA,hB];and_intros<;>(try omega);apply Z;refine zq (k+1) ?_ ?_ ?_
   .omega
   .try dsimp only
    omega
   simp(disch:=omega)[lS,fF,fJ,aA,aB,hds,hA,hB]
  have hds:=aBn (nm:=nP) (mk:=Dm) (B:=B) c1 (by simpa using c2);apply mS;refine zk [0,1,4,5,7,8,9,18,19,20] ?_;refine zt q26_1 fun _ _ Z=>?_;simp(disch:=omega)[lS,fF,fJ,aA,aB,hA,hB];and_intros<;>(try omega);apply Z;refine zq (k+1) ?_ ?_ ?_
  .omega
  .try dsimp only
   omega
  simp(disch:=omega)[lS,fF,fJ,aA,aB,hds,hA,hB]
 obtain rfl:k=A.length:=by omega
 simp only [dY];apply zE;apply aE;refine zr q26_1 fun _ _ Z=>?_;simp(disch:=omega)[lS,fF,fJ,aA,aB,hA,hB];and_intros<;>(try omega);apply Z;apply aR;refine zk [0,4,5,40,41,42] ?_;refine aY (fun(j:Nat)=> [(42,.d (.v (.int .i64 (j:Int)))),(5,.d (.sl true ((uT nP Dm A B++tQ nP Dm A (B.take j)).map Qz))),(11,.d (.any)),(12,.d (.any)),(13,.d (.any))]) [5,11,12,13,42,43,44,45,46,47,48,49,50,51,52,53,54,55,56,57,58,59,60,61,62,63,64,65,66,67,68,69,70,71] (fun(j:Nat)=>j<=B.length) (fun(j:Nat)=>B.length - j) (0) (by simp <;> rfl) ?_ ?_ ?_
 .simp [tQ]
 .simp
 rintro j hj;simp only [aQ,aO];have hdl:=xE nP Dm A B;have hsl:=Lm nP Dm A (B.take j);simp only [bG] at hsl;refine zr q26_1 fun _ _ Z=>?_;simp(disch:=omega)[lS,fF,fJ,aA,aB,hA,hB];apply Z;apply aE;refine zI ?_ ?_<;>intro c3<;>try simp at c3
 .apply jM;refine zr q26_1 fun _ _ Z=>?_;simp(disch:=omega)[lS,fF,fJ,aA,aB,hA,hB];and_intros<;>(try omega);apply Z;refine zk [0,4,5,11,12,13,40,41,42] ?_;refine zr q26_1 fun _ _ Z=>?_;refine zs 3 fun _ Y=>?_;simp(disch:=omega)[lS,fF,fJ,aA,aB,hA,hB];apply Y;refine aF fun _ Y=>?_;simp(disch:=omega)[lS,fF,fJ,aA,aB,hA,hB];refine cT (Sa σ.length cap A _ B[j].name _ (by omega) (by simp [fF];rfl) hAs) ?_;apply Y;simp(disch:=omega)[lS,fF,fJ,aA,aB,hA,hB];apply Z;refine zk [0,4,5,11,12,13,40,41,42] ?_;refine zd q26_1 [.op {},.op {},.op {},.op {},.op {},.op {},.op {rO:=true},.op {rL:=true},.op {},.op {}] fun all hall _ Z=>?_;have ga2:aN all 2=some 55:=hall 2;refine kF 3 fun _ Y=>?_;simp(disch:=omega)[lS,fF,fJ,aA,aB,ga2,hA,hB];apply Y;refine zbD 55 ?_ ?_<;>intro g4<;>try simp at g4
  .have hss:tQ nP Dm A (B.take (j+1))=tQ nP Dm A (B.take j)++ [⟨false,B[j].name,B[j].value⟩]:=Cs c3 (by unfold wW;simp [g4]);simp(disch:=omega)[lS,fF,fJ,aA,aB,ga2,hA,hB];apply Z;refine bA (t:=true) (by simp) (fun _=>?_) (fun h=>by cases h);refine zk [0,4,5,11,12,13,40,41,42] ?_;refine zt q26_1 fun _ _ Z=>?_;refine zs 8 fun _ Y=>?_;simp(disch:=omega)[lS,fF,fJ,aA,aB,hA,hB];and_intros<;>(try omega);apply Y;simp(disch:=omega)[lS,fF,fJ,aA,aB,hA,hB];apply Z;apply zB;refine zk [0,4,5,11,12,13,40,41,42] ?_;refine zt q26_1 fun _ _ Z=>?_;simp(disch:=omega)[lS,fF,fJ,aA,aB,hA,hB];and_intros<;>(try omega);apply Z;refine zq (j+1) ?_ ?_ ?_
   .omega
   .try dsimp only
    omega
   simp(disch:=omega)[lS,fF,fJ,aA,aB,hss,hA,hB]
  have hlt:=Be nP g4;simp(disch:=omega)[lS,fF,fJ,aA,aB,ga2,hA,hB];and_intros<;>(try omega);apply Z;refine zI ?_ ?_<;>intro c5<;>try simp at c5
  .have hss:tQ nP Dm A (B.take (j+1))=tQ nP Dm A (B.take j)++ [⟨false,B[j].name,B[j].value⟩]:=Cs c3 (by unfold wW;rw [g4,aS hlt];simp only [nX,fN,bF];intro e;rw [e] at c5;simp at c5);refine zk [0,4,5,11,12,13,40,41,42] ?_;refine zt q26_1 fun _ _ Z=>?_;refine zs 8 fun _ Y=>?_;simp(disch:=omega)[lS,fF,fJ,aA,aB,hA,hB];and_intros<;>(try omega);apply Y;simp(disch:=omega)[lS,fF,fJ,aA,aB,hA,hB];apply Z;apply zB;refine zk [0,4,5,11,12,13,40,41,42] ?_;refine zt q26_1 fun _ _ Z=>?_;simp(disch:=omega)[lS,fF,fJ,aA,aB,hA,hB];and_intros<;>(try omega);apply Z;refine zq (j+1) ?_ ?_ ?_
   .omega
   .try dsimp only
    omega
   simp(disch:=omega)[lS,fF,fJ,aA,aB,hss,hA,hB]
  have hss:=aB7 (nm:=nP) (mk:=Dm) c3 (by unfold wW;rw [g4,aS hlt];simp only [nX,fN,bF];generalize A[lI nP A B[j].name]=x at c5 |-;generalize B[j]=y at c5 |-;cases x;cases y;simpa using c5);apply mS;refine zk [0,4,5,11,12,13,40,41,42] ?_;refine zt q26_1 fun _ _ Z=>?_;simp(disch:=omega)[lS,fF,fJ,aA,aB,hA,hB];and_intros<;>(try omega);apply Z;refine zq (j+1) ?_ ?_ ?_
  .omega
  .try dsimp only
   omega
  simp(disch:=omega)[lS,fF,fJ,aA,aB,hss,hA,hB]
 obtain rfl:j=B.length:=by omega
 simp only [dY];apply zE;refine zr q26_1 fun _ _ Z=>?_;simp(disch:=omega)[lS,fF,fJ,aA,aB,hA,hB];apply Z;apply aC;simp [aH,jJ,hA,hB]
structure WD(d:DS)(bel:Int->List Int)(rk:Int->Nat):Prop where
 nb:NB d.l
 ids:∀e∈d.es,aJ d.l e.n.ID=e.n
 tr:Tr d.l bel rk
 kids:∀e∈d.es,∀k∈e.n.kids,fP d.l k=true
theorem DO.lt (h:DO m M d σ) {e:EN} (he:e∈d.es):e.o<σ.length:=pY (h.hn e he)
theorem DO.app (h:DO m M d σ)(J:List (List D)):DO m M d (σ++J):=
 ⟨fA h.hm J,fun e he=>fA (h.hn e he) J,h.nm,h.nd,by rw [aZ];have:=h.hM;omega⟩
theorem EF.of {q:Nat} (h:DO m M d σ)(hw:WD d bel rk)(hq:σ.length<=q):EF m q d bel rk:=
 ⟨by have:=pY h.hm;omega,fun e he=>by have:=h.lt he;omega,h.nm,h.nd,hw.nb,hw.ids,hw.tr,hw.kids⟩
theorem EO.of (h:DO m M d σ)(hw:WD d bel rk)(id:Int):EO m M σ.length d bel id [] (σ++ [[.xs 1 []]]):=
 ⟨fA h.hm _,fun i _ e he _=>fA (h.hn e he) _,by simp,by have:=hw.tr.len id;simp;omega⟩
structure WP(d:DS):Prop where
 par:∀e∈d.es,e.n.parent= -1\/∃p∈d.es,p.n.ID=e.n.parent/\p.o≠e.o
 nn:∀e∈d.es,0<=e.n.ID
structure WT(l:List ND)(rk:Int->Nat):Prop where
 nd:(l.map ND.ID).Nodup
 kids:∀n∈l,∀k∈n.kids,∃c∈l,c.ID=k/\c.parent=n.ID
 par:∀n∈l,n.parent= -1\/∃p∈l,p.ID=n.parent/\n.ID∈p.kids
 nn:∀n∈l,0<=n.ID
 kn:∀n∈l,n.kids.Nodup
 dec:∀n∈l,∀k∈n.kids,rk k<rk n.ID
def Cy:Nat->List ND->Int->List Int
 | 0,_,id=> [id]
 | f+1,l,id=>id::(aJ l id).kids.flatMap (Cy f l)
def dU(l:List ND)(rk:Int->Nat)(id:Int):List Int:=Cy (rk id) l id
theorem mP (h:(l.map ND.ID).Nodup) {a b:ND} (ha:a∈l)(hb:b∈l)(e:a.ID=b.ID):a=b:=by
 obtain⟨i,hi,rfl⟩:=iN ha;obtain⟨j,hj,rfl⟩:=iN hb;have hp:=qR.1 h;rcases vK i j with h1 | rfl | h1
 .exact absurd e (by have:=hp i j (by simpa using hi) (by simpa using hj) h1;rwa [kN,kN] at this)
 .rfl
 exact absurd e.symm (by have:=hp j i (by simpa using hj) (by simpa using hi) h1;rwa [kN,kN] at this)
theorem Jn (h:(l.map ND.ID).Nodup) (hn:n∈l):kU l n.ID=some n:=by
 cases e:kU l n.ID with
 | none=>
  unfold kU at e;rw [nQ] at e;exact absurd (by simp:decide (n.ID=n.ID)=true) (e n hn)
 | some m=>
  obtain⟨h1,h2⟩:=oS e;rw [mP h h1 hn h2]
theorem pH (h:(l.map ND.ID).Nodup) (hn:n∈l):aJ l n.ID=n:=by unfold aJ;rw [Jn h hn];rfl
theorem aDc (h:(l.map ND.ID).Nodup) (hn:n∈l):fP l n.ID=true:=by unfold fP;rw [Jn h hn];rfl
theorem eX {id:Int} (h:fP l id=true):∃n∈l,n.ID=id/\aJ l id=n:=by
 unfold fP at h;cases hq:kU l id with
 | none=>rw [hq] at h;cases h
 | some n=>obtain⟨h1,h2⟩:=oS hq;exact⟨n,h1,h2,by unfold aJ;rw [hq];rfl⟩
theorem kV {id:Int} (h:fP l id=false):aJ l id=Ts:=by
 unfold aJ;unfold fP at h;cases hq:kU l id with
 | none=>rfl
 | some n=>rw [hq] at h;cases h
theorem qV {id:Int} :fP l id=true↔∃n∈l,n.ID=id:=by
 constructor
 .intro h;obtain⟨n,h1,h2,_⟩:=eX h;exact⟨n,h1,h2⟩
 rintro⟨n,h1,rfl⟩;cases h:fP l n.ID with
 | true=>rfl
 | false=>exact absurd rfl (zY h n h1)
def Dec(l:List ND)(rk:Int->Nat):Prop:=∀id,∀k∈(aJ l id).kids,rk k<rk id
theorem WT.Dec (h:WT l rk):Dec l rk:=fun id k hk=>by
 cases hl:fP l id with
 | false=>rw [kV hl] at hk;cases hk
 | true=>
  obtain⟨n,h1,h2,h3⟩:=eX hl;rw [h3] at hk;rw [<- h2];exact h.dec n h1 k hk
theorem mZ {l:List α} {f g:α->List β} (h:∀a∈l,f a=g a):l.flatMap f=l.flatMap g:=by
 induction l with
 | nil=>rfl
 | cons a l ih=>rw [gG,gG,h a (by simp),ih fun b hb=>h b (by simp [hb])]
theorem Dec.nil (hd:Dec l rk) {id:Int} (h:rk id=0):(aJ l id).kids= []:=
 Ev.2 fun k hk=>by have:=hd id k hk;omega
theorem Sh (hd:Dec l rk):∀(f g:Nat) (id:Int),rk id<=f->rk id<=g->Cy f l id=Cy g l id
 | 0,0,id,_,_=>rfl
 | 0,g+1,id,h,_=>by simp [Cy,hd.nil (show rk id=0 by omega)]
 | f+1,0,id,_,h=>by simp [Cy,hd.nil (show rk id=0 by omega)]
 | f+1,g+1,id,h1,h2=>by
  simp only [Cy];congr 1;exact mZ fun k hk=>Sh hd f g k (by have:=hd id k hk;omega) (by have:=hd id k hk;omega)
theorem jZ (hd:Dec l rk)(id:Int):dU l rk id=id::(aJ l id).kids.flatMap (dU l rk):=by
 unfold dU;rw [Sh hd (rk id) (rk id+1) id (aW _) (by omega)];simp only [Cy];congr 1;exact mZ fun k hk=>Sh hd (rk id) (rk k) k (by have:=hd id k hk;omega) (aW _)
theorem mY (hd:Dec l rk)(id:Int):id∈dU l rk id:=by rw [jZ hd];exact dH
theorem Sv (hd:Dec l rk) {id k:Int} (hk:k∈(aJ l id).kids)(hi:i∈dU l rk k):i∈dU l rk id:=by
 rw [jZ hd];exact eV _ (mF.2 ⟨k,hk,hi⟩)
theorem uV (hd:Dec l rk) {id:Int} (h:i∈dU l rk id):i=id\/∃k∈(aJ l id).kids,i∈dU l rk k:=by
 rw [jZ hd] at h;rcases bM.1 h with h | h
 .exact .inl h
 obtain⟨k,h1,h2⟩:=mF.1 h;exact .inr ⟨k,h1,h2⟩
theorem aS5 (hd:Dec l rk):∀(n:Nat) (id:Int),rk id<=n->∀i∈dU l rk id,rk i<=rk id:=by
 intro n;induction n with
 | zero=>
  intro id hn i hi;rcases uV hd hi with rfl | ⟨k,hk,_⟩
  .exact aW _
  have:=hd id k hk;omega
 | succ n ih=>
  intro id hn i hi;rcases uV hd hi with rfl | ⟨k,hk,hik⟩
  .exact aW _
  have h1:=hd id k hk;have:=ih k (by omega) i hik;omega
theorem Sl (hd:Dec l rk) {id:Int} (h:i∈dU l rk id):rk i<=rk id:=aS5 hd (rk id) id (aW _) i h
theorem aHi (hd:Dec l rk) {a:Int} (hab:a∈dU l rk b):∀ {c:Int},b∈dU l rk c->a∈dU l rk c:=by
 intro c;generalize hn:rk c=n;induction n using Nat.strongRecOn generalizing c with
 | _ n ih=>
  intro hbc;rcases uV hd hbc with rfl | ⟨k,hk,hik⟩
  .exact hab
  have h1:=hd c k hk;exact Sv hd hk (ih (rk k) (by omega) rfl hik)
theorem Br(h:WT l rk) (hn:n∈l) (hb:n.ID∈dU l rk b):n.ID=b\/∃p∈l,p.ID=n.parent/\n.ID∈p.kids/\p.ID∈dU l rk b:=by
 have hd:=h.Dec;generalize hm:rk b=m;induction m using Nat.strongRecOn generalizing b with
 | _ m ih =>
  rcases uV hd hb with e | ⟨k,hk,hik⟩
  .exact .inl e
  have h1:=hd b k hk;have hlb:fP l b=true:=by
   cases hl:fP l b with
   | true=>rfl
   | false=>rw [kV hl] at hk;cases hk
  obtain⟨q,q1,q2,q3⟩:=eX hlb;rw [q3] at hk;rcases ih (rk k) (by omega) hik rfl with e | ⟨p,p1,p2,p3,p4⟩
  .obtain⟨c,c1,c2,c3⟩:=h.kids q q1 k hk;have:c=n:=mP h.nd c1 hn (by rw [c2,e]);subst this;refine .inr ⟨q,q1,c3.symm,by rw [e];exact hk,by rw [q2];exact mY hd b⟩
  exact .inr ⟨p,p1,p2,p3,Sv hd (by rw [q3];exact hk) p4⟩
theorem Lr(h:WT l rk) {p:ND} (hp:p∈l) {k:Int} (hk:k∈p.kids)(hb:p.ID∈dU l rk b):k∈dU l rk b:=
 aHi h.Dec (Sv h.Dec (by rw [pH h.nd hp];exact hk) (mY h.Dec k)) hb
theorem aB0(h:WT l rk) (hb:fP l b=true)(hi:i∈dU l rk b):fP l i=true:=by
 have hd:=h.Dec;generalize hm:rk b=m;induction m using Nat.strongRecOn generalizing b with
 | _ m ih=>
  rcases uV hd hi with rfl | ⟨k,hk,hik⟩
  .exact hb
  have h1:=hd b k hk;obtain⟨q,q1,q2,q3⟩:=eX hb;rw [q3] at hk;obtain⟨c,c1,c2,_⟩:=h.kids q q1 k hk;exact ih (rk k) (by omega) (qV.2 ⟨c,c1,c2⟩) hik rfl
theorem aFy(h:WT l rk) {a:Int} :∀ {n:ND},n∈l->n.ID∈dU l rk a->n.ID∈dU l rk b->a∈dU l rk b\/b∈dU l rk a:=by
 intro n;have hd:=h.Dec;generalize hm:rk a - rk n.ID=m;induction m using Nat.strongRecOn generalizing n with
 | _ m ih=>
  intro hn ha hb;rcases Br h hn ha with e | ⟨p,p1,p2,p3,p4⟩
  .left;rw [<- e];exact hb
  rcases Br h hn hb with e | ⟨q,q1,q2,q3,q4⟩
  .right;rw [<- e];exact ha
  have:p=q:=mP h.nd p1 q1 (by rw [p2,q2]);subst this;have h1:=h.dec p p1 _ p3;have h2:=Sl hd p4;exact ih (rk a - rk p.ID) (by omega) rfl p1 p4 q4
theorem aE4(h:WT l rk):∀ {b:Int},(dU l rk b).Nodup:=by
 intro b;have hd:=h.Dec;generalize hm:rk b=m;induction m using Nat.strongRecOn generalizing b with
 | _ m ih =>
  rw [jZ hd];refine gY.2 ⟨fun hi=>?_,?_⟩
  .obtain⟨k,hk,hik⟩:=mF.1 hi;have h1:=hd b k hk;have h2:=Sl hd hik;omega
  cases hl:fP l b with
  | false=>rw [kV hl];simp [Ts]
  | true =>
   obtain⟨q,q1,q2,q3⟩:=eX hl;rw [q3];have key:∀K:List Int,K.Nodup->(∀k∈K,k∈q.kids)->(K.flatMap (dU l rk)).Nodup:=by
    intro K;induction K with
    | nil=>intro _ _;simp
    | cons k K ihK =>
     intro hK hsub;have hK':=gY.1 hK;rw [gG,mJ];have hk1:=h.dec q q1 k (hsub k (by simp));refine⟨ih (rk k) (by rw [q2] at hk1;omega) rfl,ihK hK'.2 fun j hj=>hsub j (by simp [hj]),fun i hi j hj hij=>?_⟩;subst hij;obtain⟨k2,hk2,hik2⟩:=mF.1 hj;have hne:k≠k2:=fun e=>hK'.1 (e ▸ hk2);have hk2q:=hsub k2 (by simp [hk2]);obtain⟨c,c1,c2,c3⟩:=h.kids q q1 k (hsub k (by simp));obtain⟨c',d1,d2,d3⟩:=h.kids q q1 k2 hk2q;have hisL:fP l i=true:=aB0 h (qV.2 ⟨c,c1,c2⟩) hi;obtain⟨n,n1,n2,_⟩:=eX hisL;have hk2':=h.dec q q1 k2 hk2q;rcases aFy h n1 (by rw [n2];exact hi) (by rw [n2];exact hik2)with hc | hc
     .rcases Br h c1 (by rw [c2];exact hc)with e | ⟨p,p1,p2,p3,p4⟩
      .exact hne (by rw [<- c2,e])
      have:p=q:=mP h.nd p1 q1 (by rw [p2,c3]);subst this;have:=Sl hd p4;omega
     rcases Br h d1 (by rw [d2];exact hc)with e | ⟨p,p1,p2,p3,p4⟩
     .exact hne (by rw [<- d2,e])
     have:p=q:=mP h.nd p1 q1 (by rw [p2,d3]);subst this;have:=Sl hd p4;omega
   exact key q.kids (h.kn q q1) fun k hk=>hk
theorem Px {α:Type} [DecidableEq α]:∀ {a b:List α},a.Nodup->(∀x∈a,x∈b)->a.length<=b.length
 | [],b,_,_=>iM _
 | x::a,b,hn,hs=>by
  have hn':=gY.1 hn;have hx:=hs x (by simp);have:=Px (a:=a) (b:=b.erase x) hn'.2 fun y hy=>(List.mem_erase_of_ne (by rintro rfl;exact hn'.1 hy)).2 (hs y (by simp [hy]));rw [Ow hx] at this;have:=List.length_pos_of_mem hx;simp only [bJ];omega
theorem aCc(h:WT l rk)(b:Int):(dU l rk b).length<=l.length+1:=by
 cases hl:fP l b with
 | false=>rw [jZ h.Dec,kV hl];simp [Ts]
 | true =>
  have:(dU l rk b).length<=(l.map ND.ID).length:=Px (aE4 h) fun i hi=>by
   obtain⟨n,n1,n2,_⟩:=eX (aB0 h hl hi);rw [<- n2];exact aV.2 ⟨n,n1,rfl⟩
  simpa using Nat.le_succ_of_le this
theorem WT.Tr(h:WT l rk)(hl:l.length<=1000):Tr l (dU l rk) rk:=
 ⟨jZ h.Dec,h.Dec,fun id=>by have:=aCc h id;omega⟩
variable {d:DS}{e:EN}{rk:Int->Nat}
def pD:Option EN->D
 | some e=> .ref e.o 0
 | none=> .v (.pointer none)
theorem lT(e:EN):pD (some e)= .ref e.o 0:=rfl
theorem mU:pD none= .v (.pointer none):=rfl
@[simp] theorem kT(s:Option EN):(pD s).plain=true:=by cases s <;> rfl
@[simp] theorem kR(s:Option EN):(pD s).strip=pD s:=by cases s <;> rfl
@[simp] theorem bAm(s:Option EN):(pD s).s2=pD s:=by cases s <;> rfl
@[simp] theorem aZ6(s:Option EN):(pD s).s1=pD s:=by cases s <;> rfl
def nx(d:DS)(id:Int):Option EN:=d.es.find? fun e=>decide (e.n.ID=id)
theorem aBe {id:Int} {p:EN} (h:nx d id=some p):p∈d.es/\p.n.ID=id:=by
 unfold nx at h;exact⟨Fo h,by simpa using List.find?_some h⟩
theorem aBi {id:Int} (h:nx d id=none):∀n∈d.l,n.ID≠id:=by
 intro n hn e;obtain⟨x,hx,rfl⟩:=aV.1 hn;unfold nx at h;rw [nQ] at h;exact h x hx (by simpa using e)
theorem aLl(d:DS)(id:Int):Zm (d.es.map kvE) (.int .i64 id) (D.v (.pointer none)) (pD (nx d id)) false\/Zm (d.es.map kvE) (.int .i64 id) (D.v (.pointer none)) (pD (nx d id)) true:=by
 cases h:nx d id with
 | none=>
  left;refine Bm ?_ _;cases hl:fP (d.es.map EN.n) id with
  | false=>rfl
  | true=>obtain⟨n,h1,h2⟩:=qV.1 hl;exact absurd h2 (aBi h n h1)
 | some p=>
  right;obtain⟨h1,h2⟩:=aBe h;rw [<- h2];exact oL h1 _
theorem jN (he:e∈d.es):e.n∈d.l:=aV.2 ⟨e,he,rfl⟩
theorem aRi (h:WT d.l rk) (he:e∈d.es) {b:Int} (hne:¬e.n.ID=b):(∀p,nx d e.n.parent=some p->p∈d.es/\(e.n.ID∈dU d.l rk b↔p.n.ID∈dU d.l rk b)/\rk e.n.ID<rk p.n.ID)/\(nx d e.n.parent=none->e.n.ID∉dU d.l rk b):=by
 constructor
 .intro p hp;obtain⟨h1,h2⟩:=aBe hp;have hpn:=h.nn _ (jN h1);rcases h.par _ (jN he)with h3 | ⟨q,q1,q2,q3⟩
  .omega
  have hqp:q=p.n:=mP h.nd q1 (jN h1) (by rw [q2,h2]);subst hqp;refine⟨h1,⟨fun hb=>?_,fun hb=>Lr h q1 q3 hb⟩,h.dec _ q1 _ q3⟩;rcases Br h (jN he) hb with e1 | ⟨p',p1,p2,p3,p4⟩
  .exact absurd e1 hne
  have:=mP h.nd p1 q1 (by rw [p2,q2]);rw [<- this];exact p4
 intro hn hb;rcases Br h (jN he) hb with e1 | ⟨p',p1,p2,p3,p4⟩
 .exact hne e1
 exact aBi hn p' p1 p2
def wiM(R:Nat)(rk:Int->Nat):Option EN->Nat
 | none=>0
 | some e=>R+1 - rk e.n.ID
theorem aCy {R:Nat} {id b:Int} (h:WT d.l rk)(hR:∀e∈d.es,rk e.n.ID<=R) (he:e∈d.es)(hne:¬e.n.ID=b)(hi:id∈dU d.l rk b↔e.n.ID∈dU d.l rk b):
  ((∀p,nx d e.n.parent=some p->p∈d.es/\(id∈dU d.l rk b↔p.n.ID∈dU d.l rk b))/\(nx d e.n.parent=none->id∉dU d.l rk b))/\wiM R rk (nx d e.n.parent)<wiM R rk (some e):=by
 obtain⟨h1,h2⟩:=aRi h he hne;refine⟨⟨fun p hp=>?_,fun hn hb=>h2 hn (hi.1 hb)⟩,?_⟩
 .obtain⟨a,b,c⟩:=h1 p hp;exact⟨a,hi.trans b⟩
 have:=hR e he;cases hp:nx d e.n.parent with
 | none=>simp only [wiM];omega
 | some p=>
  obtain⟨a,b,c⟩:=h1 p hp;have:=hR p a;simp only [wiM];omega
theorem Iz(l:List Int)(i:Int):(l.any fun k=>decide (k=i))=decide (i∈l):=by
 rw [iZ,oW,fN];exact⟨fun⟨x,h1,h2⟩=>by rw [<- zG h2];exact h1,fun h=>⟨i,h,by simp⟩⟩
theorem aU2(m M R:Nat)(d:DS)(rk:Int->Nat)(e0 f:EN)(σ:List (List D))(ho:DO m M d σ)(hwt:WT d.l rk)(hR:∀e∈d.es,rk e.n.ID<=R)(he0:e0∈d.es)(hf:f∈d.es):Ct prog 150 [.ref m 0,D.int e0.n.ID,D.int f.n.ID] σ (fun r σ'=>r= .bool (decide (e0.n.ID∈dU d.l rk f.n.ID))/\σ'=σ):=by
 refine zf func150 ?_;have hq:=ho.hm;have hnn:=ho.hn;refine bB fun _ _ Z=>?_;simp(disch:=omega)[hq,lT,mU,kT,kR,hnn];and_intros<;>(try omega)
 all_goals first | (generalize nx d e.n.parent=s9;cases s9 <;> rfl) | skip
 apply Z;apply aE;refine bB fun _ _ Z=>?_;refine zs 6 fun _ Y=>?_;simp(disch:=omega)[hq,lT,mU,kT,kR,hnn];refine⟨m,2,d.ck,_,.ref f.o 0,⟨⟨_,hq,rfl⟩,uD _,.inr (oL hf _)⟩,?_⟩;and_intros<;>(try omega)
 all_goals first | (generalize nx d e.n.parent=s9;cases s9 <;> rfl) | skip
 apply Y;simp(disch:=omega)[hq,lT,mU,kT,kR,hnn];and_intros<;>(try omega)
 all_goals first | (generalize nx d e.n.parent=s9;cases s9 <;> rfl) | skip
 apply Z;refine zI ?_ ?_<;>intro c1<;>try simp at c1
 apply zA;apply aE;refine bB fun _ _ Z=>?_;refine zs 6 fun _ Y=>?_;simp(disch:=omega)[hq,lT,mU,kT,kR,hnn];refine⟨m,2,d.ck,_,.ref e0.o 0,⟨⟨_,hq,rfl⟩,uD _,.inr (oL he0 _)⟩,?_⟩;and_intros<;>(try omega)
 all_goals first | (generalize nx d e.n.parent=s9;cases s9 <;> rfl) | skip
 apply Y;simp(disch:=omega)[hq,lT,mU,kT,kR,hnn];and_intros<;>(try omega)
 all_goals first | (generalize nx d e.n.parent=s9;cases s9 <;> rfl) | skip
 apply Z;apply aR;refine zk [0,2,6,7] ?_;refine aY (fun(s:Option EN)=> [(7,.d (pD s))]) [6,7,21,22,23,24,25,26,27,28,29,30,31,32,33,34,35,36,37] (fun(s:Option EN)=>(∀e,s=some e->e∈d.es/\(e0.n.ID∈dU d.l rk f.n.ID↔e.n.ID∈dU d.l rk f.n.ID))/\(s=none->e0.n.ID∉dU d.l rk f.n.ID)) (fun(s:Option EN)=>wiM R rk s) (some e0) (by simp <;> rfl) ?_ ?_ ?_
 .simp [lT]
 .exact⟨fun e h=>by cases h;exact⟨he0,Iff.rfl⟩,fun h=>by cases h⟩
 rintro s ⟨hs1,hs2⟩;simp only [aQ,aO];obtain⟨e,rfl⟩ | rfl:(∃e,s=some e)\/s=none:=by cases s <;> simp
 .try simp only []
  obtain⟨he,hi⟩:=hs1 e rfl;apply aE;refine bB fun _ _ Z=>?_;simp(disch:=omega)[hq,lT,mU,kT,kR,hnn];and_intros<;>(try omega)
  all_goals first | (generalize nx d e.n.parent=s9;cases s9 <;> rfl) | skip
  apply Z;refine bA (t:=true) (by simp) (fun _=>?_) (fun h=>by cases h);apply jM;refine bB fun _ _ Z=>?_;simp(disch:=omega)[hq,lT,mU,kT,kR,hnn];and_intros<;>(try omega)
  all_goals first | (generalize nx d e.n.parent=s9;cases s9 <;> rfl) | skip
  apply Z;refine zI ?_ ?_<;>intro c2<;>try simp at c2
  .refine bB fun _ _ Z=>?_;simp(disch:=omega)[hq,lT,mU,kT,kR,hnn];and_intros<;>(try omega)
   all_goals first | (generalize nx d e.n.parent=s9;cases s9 <;> rfl) | skip
   apply Z;apply aC;simp [aH];rw [hi,c2];exact mY hwt.Dec _
  apply mS;refine ze ⟨[],[],[],[],[]⟩ [.op {},.op {},.op {},.op {rO:=true},.op {},.op {},.op {},.op {rO:=true},.op {rO:=true},.op {}] fun all hall _ Z=>?_;refine kF 8 fun _ Y=>?_;simp(disch:=omega)[hq,lT,mU,kT,kR,hnn];and_intros<;>(try omega)
  all_goals first | (generalize nx d e.n.parent=s9;cases s9 <;> rfl) | skip
  apply Y;refine kF 1 fun _ Y=>?_;simp(disch:=omega)[hq,lT,mU,kT,kR,hnn];refine⟨m,2,d.ck,_,pD (nx d e.n.parent),⟨⟨_,hq,rfl⟩,uD _,aLl d _⟩,?_⟩;and_intros<;>(try omega)
  all_goals first | (generalize nx d e.n.parent=s9;cases s9 <;> rfl) | skip
  apply Y;simp(disch:=omega)[hq,lT,mU,kT,kR,hnn];and_intros<;>(try omega)
  all_goals first | (generalize nx d e.n.parent=s9;cases s9 <;> rfl) | skip
  apply Z;refine zq (nx d e.n.parent) ?_ ?_ ?_
  .exact(aCy hwt hR he c2 hi).1
  .exact(aCy hwt hR he c2 hi).2
  simp(disch:=omega)[hq,lT,mU,kT,kR,hnn]
 try simp only []
 have hno:=hs2 rfl;apply aE;refine bB fun _ _ Z=>?_;simp(disch:=omega)[hq,lT,mU,kT,kR,hnn];and_intros<;>(try omega)
 all_goals first | (generalize nx d e.n.parent=s9;cases s9 <;> rfl) | skip
 apply Z;refine bA (t:=false) (by simp) (fun h=>by cases h) (fun _=>?_);apply zE;refine bB fun _ _ Z=>?_;simp(disch:=omega)[hq,lT,mU,kT,kR,hnn];and_intros<;>(try omega)
 all_goals first | (generalize nx d e.n.parent=s9;cases s9 <;> rfl) | skip
 apply Z;apply aC;simp [aH];exact hno
theorem aVe(m M:Nat)(d:DS)(id f:Int)(σ:List (List D))(ho:DO m M d σ)(hno:fP d.l f=false):Ct prog 150 [.ref m 0,D.int id,D.int f] σ (fun r σ'=>r= .bool false/\σ'=σ):=by
 refine zf func150 ?_;have hq:=ho.hm;refine bB fun _ _ Z=>?_;simp[hq];apply Z;apply aE;refine bB fun _ _ Z=>?_;refine zs 6 fun _ Y=>?_;simp[hq];refine⟨m,2,d.ck,_,.v (.pointer none),⟨⟨_,hq,rfl⟩,uD _,.inl (Bm hno _)⟩,?_⟩;and_intros<;>(try omega);apply Y;simp[hq];apply Z;refine zI ?_ ?_<;>intro c1<;>try simp at c1
 refine bB fun _ _ Z=>?_;simp[hq];apply Z;apply aC;simp [aH]
theorem aTd(m M:Nat)(d:DS)(id:Int)(f:EN)(σ:List (List D))(ho:DO m M d σ)(hf:f∈d.es)(hno:fP d.l id=false):Ct prog 150 [.ref m 0,D.int id,D.int f.n.ID] σ (fun r σ'=>r= .bool false/\σ'=σ):=by
 refine zf func150 ?_;have hq:=ho.hm;refine bB fun _ _ Z=>?_;simp[hq];apply Z;apply aE;refine bB fun _ _ Z=>?_;refine zs 6 fun _ Y=>?_;simp[hq];refine⟨m,2,d.ck,_,.ref f.o 0,⟨⟨_,hq,rfl⟩,uD _,.inr (oL hf _)⟩,?_⟩;and_intros<;>(try omega);apply Y;simp[hq];apply Z;refine zI ?_ ?_<;>intro c1<;>try simp at c1
 apply zA;apply aE;refine bB fun _ _ Z=>?_;refine zs 6 fun _ Y=>?_;simp[hq];refine⟨m,2,d.ck,_,.v (.pointer none),⟨⟨_,hq,rfl⟩,uD _,.inl (Bm hno _)⟩,?_⟩;and_intros<;>(try omega);apply Y;simp[hq];apply Z;apply aR;refine zk [0,2,6,7] ?_;refine aY (fun(s:Unit)=> [(7,.d (.v (.pointer none)))]) [6,7,21,22,23,24,25,26,27,28,29,30,31,32,33,34,35,36,37] (fun(s:Unit)=>True) (fun(s:Unit)=>0) (()) (by simp <;> rfl) ?_ ?_ ?_
 .simp
 .trivial
 rintro s _;simp only [aQ,aO];apply aE;refine bB fun _ _ Z=>?_;simp[hq];apply Z;refine zI ?_ ?_<;>intro c2<;>try simp at c2
 apply zE;refine bB fun _ _ Z=>?_;simp[hq];apply Z;apply aC;simp [aH]
theorem aIn(l:List ND)(rk:Int->Nat):∃R,∀n∈l,rk n.ID<=R:=by
 induction l with
 | nil=>exact⟨0,fun n h=>by cases h⟩
 | cons a l ih=>
  obtain⟨R,hR⟩:=ih;refine⟨max R (rk a.ID),fun n h=>?_⟩;rcases bM.1 h with rfl | h
  .omega
  have:=hR n h;omega
theorem aDz(m M:Nat)(d:DS)(rk:Int->Nat)(id f:Int)(σ:List (List D))(ho:DO m M d σ)(hwt:WT d.l rk):Ct prog 150 [.ref m 0,D.int id,D.int f] σ (fun r σ'=>r= .bool (oH d.l (dU d.l rk) id f)/\σ'=σ):=by
 unfold oH;cases hf:fP d.l f with
 | false=>simp only [Bool.and_false,Bool.false_and];exact aVe m M d id f σ ho hf
 | true =>
  obtain⟨ef,hef,rfl,_⟩:=yU hf;cases hi:fP d.l id with
  | false=>simp only [Bool.false_and];exact aTd m M d id ef σ ho hef hi
  | true=>
   obtain⟨ei,hei,rfl,_⟩:=yU hi;obtain⟨R,hR⟩:=aIn d.l rk;rw [Iz];simp only [nX];exact aU2 m M R d rk ei ef σ ho hwt (fun e he=>hR _ (jN he)) hei hef
end Go.Proofs.YtbgfljpnhhdkoaaGreat
