import Derived.Test.YtbgfljpnhhdkoaaGreatWvLaw
import Derived.Test.YtbgfljpnhhdkoaaGreatWkWv4
import Derived.Test.YtbgfljpnhhdkoaaGreatWkAr9
set_option linter.all false
set_option maxRecDepth 20000
set_option maxHeartbeats 8000000
open Go.Proofs.Tryz
namespace Go.Proofs.YtbgfljpnhhdkoaaGreat
open Go Go.Vm
variable {M k m:Nat}{b i:Int}{bel:Int->List Int}{d:DS}{l:List ND}{n:ND}{rk:Int->Nat}{α β:Type}{σ:List (List D)}
def tP {α β:Type} (nm:α->ByteArray)(mk:Bool->α->β)(A B:List α):List β:=(A.filter fun p=> !Ks nm B (nm p)).map (mk true)
def wH {α:Type} [DecidableEq α](nm:α->ByteArray)(A:List α)(p:α):Bool:=Ks nm A (nm p) && decide (A[kS nm A (nm p)]?=some p)
def sX {α β:Type} [DecidableEq α](nm:α->ByteArray)(mk:Bool->α->β)(A B:List α):List β:=(B.filter fun p=> !wH nm A p).map (mk false)
def iW {α β:Type} [DecidableEq α](nm:α->ByteArray)(mk:Bool->α->β)(a b:List α):List β:=tP nm mk (iP nm a) (iP nm b)++sX nm mk (iP nm a) (iP nm b)
theorem Sy {nm:α->ByteArray} {mk:Bool->α->β} {A B:List α} (hk:k<A.length)(h:¬Ks nm B (nm A[k])=true):tP nm mk (A.take (k+1)) B=tP nm mk (A.take k) B++ [mk true A[k]]:=by
 unfold tP;rw [bR A k hk,fS,pU (by simpa using h),cO];rfl
theorem aAy {nm:α->ByteArray} {mk:Bool->α->β} {A B:List α} (hk:k<A.length)(h:Ks nm B (nm A[k])=true):tP nm mk (A.take (k+1)) B=tP nm mk (A.take k) B:=by
 unfold tP;rw [bR A k hk,fS,rW (by simpa using h),nH,gO]
theorem Bb [DecidableEq α] {nm:α->ByteArray} {mk:Bool->α->β} {A B:List α} (hk:k<B.length)(h:¬wH nm A B[k]=true):sX nm mk A (B.take (k+1))=sX nm mk A (B.take k)++ [mk false B[k]]:=by
 unfold sX;rw [bR B k hk,fS,pU (by simpa using h),cO];rfl
theorem aAw [DecidableEq α] {nm:α->ByteArray} {mk:Bool->α->β} {A B:List α} (hk:k<B.length)(h:wH nm A B[k]=true):sX nm mk A (B.take (k+1))=sX nm mk A (B.take k):=by
 unfold sX;rw [bR B k hk,fS,rW (by simpa using h),nH,gO]
theorem wV (nm:α->ByteArray)(mk:Bool->α->β)(A B:List α):(tP nm mk A B).length<=A.length:=by unfold tP;rw [bQ];exact kB _ _
theorem Ki [DecidableEq α](nm:α->ByteArray)(mk:Bool->α->β)(A B:List α):(sX nm mk A B).length<=B.length:=by unfold sX;rw [bQ];exact kB _ _
abbrev zD(b:Bool)(p:AT):SA:=if b then⟨true,p.name,⟨#[]⟩⟩else⟨false,p.name,p.value⟩
abbrev Be(b:Bool)(p:PI):SI:=if b then⟨true,p.name,0⟩else⟨false,p.name,p.value⟩
@[simp] abbrev q24_1:Cfg:=⟨[0,1,4,5,14,15,16,17,33,63,72],[],[],[19,22,41,44,58],[]⟩
theorem aDt(a b:List AT)(σ:List (List D))(ha:a.length<=99999)(hb:b.length<=99999):Ct prog 118 [.sl false (a.map cZ),.sl false (b.map cZ)] σ (fun r σ'=>r= .sl true ((iW nA zD a b).map Pk)/\∃J,σ'=σ++J):=by
 refine zf func118 ?_;obtain⟨A,hA⟩:∃A,iP nA a=A:=⟨_,rfl⟩;obtain⟨B,hB⟩:∃B,iP nA b=B:=⟨_,rfl⟩;have hAl:A.length<=99999:=by rw [<- hA];have:=iX nA a;omega
 have hBl:B.length<=99999:=by rw [<- hB];have:=iX nA b;omega
 have hAs:Sorted nA A:=by rw [<- hA];exact gI nA a
 have hBs:Sorted nA B:=by rw [<- hB];exact gI nA b
 refine zr q24_1 fun _ _ Z=>?_;simp(disch:=omega)[lB,eW,fE,aA,aB,hA,hB];apply Z;refine zr q24_1 fun _ _ Z=>?_;refine zs 1 fun _ Y=>?_;simp(disch:=omega)[lB,eW,fE,aA,aB,hA,hB];apply Y;refine aF fun _ Y=>?_;simp(disch:=omega)[lB,eW,fE,aA,aB,hA,hB];refine cN (Dc a _ (by omega)) ?_;apply Y;refine zs 1 fun _ Y=>?_;simp(disch:=omega)[lB,eW,fE,aA,aB,hA,hB];apply Y;refine aF fun _ Y=>?_;simp(disch:=omega)[lB,eW,fE,aA,aB,hA,hB];refine cN (Dc b _ (by omega)) ?_;apply Y;simp(disch:=omega)[lB,eW,fE,aA,aB,hA,hB];apply Z;refine zr q24_1 fun _ _ Z=>?_;simp(disch:=omega)[lB,eW,fE,aA,aB,hA,hB];apply Z;apply aE;refine iU 0 2 rfl (by decide) fun cap rest hcap hcm hrest hk0 hes=>?_;subst hrest;simp only [bQ] at hcap |-;rw [cQ (f:=cA) (fun _=>rfl)];refine iU 1 2 rfl (by decide) fun cap2 rest hcap2 hcm2 hrest hk02 hes2=>?_;subst hrest;simp only [bQ] at hcap2 |-;rw [cQ (f:=cA) (fun _=>rfl)];simp only [bU,aQ,aP,bA,bO,cU,Nat.reduceAdd];refine zr q24_1 fun _ _ Z=>?_;simp(disch:=omega)[lB,eW,fE,aA,aB,hA,hB];and_intros<;>(try omega);apply Z;apply aR;refine zk [0,1,4,5,18,19,20] ?_;refine aY (fun(k:Nat)=> [(20,.d (.v (.int .i64 (k:Int)))),(5,.d (.sl true ((tP nA zD (A.take k) B).map Pk))),(7,.d (.any)),(8,.d (.any)),(9,.d (.any))]) [5,7,8,9,20,21,22,23,24,25,26,27,28,29,30,31,32,33,34,35,36,37,38,39] (fun(k:Nat)=>k<=A.length) (fun(k:Nat)=>A.length - k) (0) (by simp <;> rfl) ?_ ?_ ?_
 .simp [tP]
 .simp
 rintro k hk;simp only [aQ,aP];have hdl:=wV nA zD (A.take k) B;simp only [bF] at hdl;refine zr q24_1 fun _ _ Z=>?_;simp(disch:=omega)[lB,eW,fE,aA,aB,hA,hB];apply Z;apply aE;refine zI ?_ ?_<;>intro c1<;>try simp at c1
 .apply kO;refine zr q24_1 fun _ _ Z=>?_;simp(disch:=omega)[lB,eW,fE,aA,aB,hA,hB];and_intros<;>(try omega);apply Z;refine zk [0,1,4,5,7,8,9,18,19,20] ?_;refine zr q24_1 fun _ _ Z=>?_;refine zs 3 fun _ Y=>?_;simp(disch:=omega)[lB,eW,fE,aA,aB,hA,hB];apply Y;refine aF fun _ Y=>?_;simp(disch:=omega)[lB,eW,fE,aA,aB,hA,hB];refine cN (Ru (σ.length+1) cap2 B _ A[k].name _ (by omega) (by simp [lB];rfl) hBs) ?_;apply Y;simp(disch:=omega)[lB,eW,fE,aA,aB,hA,hB];apply Z;refine zk [0,1,4,5,7,8,9,18,19,20] ?_;refine zr q24_1 fun _ _ Z=>?_;simp(disch:=omega)[lB,eW,fE,aA,aB,hA,hB];apply Z;refine zI ?_ ?_<;>intro c2<;>try simp at c2
  .have hds:tP nA zD (A.take (k+1)) B=tP nA zD (A.take k) B++ [⟨true,A[k].name,⟨#[]⟩⟩]:=Sy c1 (by simpa using c2);refine zk [0,1,4,5,7,8,9,18,19,20] ?_;refine zt q24_1 fun _ _ Z=>?_;simp(disch:=omega)[lB,eW,fE,aA,aB,hA,hB];and_intros<;>(try omega);apply Z;apply zB;refine zk [0,1,4,5,7,8,9,18,19,20] ?_;refine zt q24_1 fun _ _ Z=>?_;simp(disch:=omega)[lB,eW,fE,aA,aB,hA,hB];and_intros<;>(try omega);apply Z;refine zq (k+1) ?_ ?_ ?_
   .omega
   .try dsimp only
    omega
   simp(disch:=omega)[lB,eW,fE,aA,aB,hds,hA,hB]
  have hds:=aAy (nm:=nA) (mk:=zD) (B:=B) c1 (by simpa using c2);apply nM;refine zk [0,1,4,5,7,8,9,18,19,20] ?_;refine zt q24_1 fun _ _ Z=>?_;simp(disch:=omega)[lB,eW,fE,aA,aB,hA,hB];and_intros<;>(try omega);apply Z;refine zq (k+1) ?_ ?_ ?_
  .omega
  .try dsimp only
   omega
  simp(disch:=omega)[lB,eW,fE,aA,aB,hds,hA,hB]
 obtain rfl:k=A.length:=by omega
 simp only [fJ];apply zE;apply aE;refine zr q24_1 fun _ _ Z=>?_;simp(disch:=omega)[lB,eW,fE,aA,aB,hA,hB];and_intros<;>(try omega);apply Z;apply aR;refine zk [0,4,5,40,41,42] ?_;refine aY (fun(j:Nat)=> [(42,.d (.v (.int .i64 (j:Int)))),(5,.d (.sl true ((tP nA zD A B++sX nA zD A (B.take j)).map Pk))),(11,.d (.any)),(12,.d (.any)),(13,.d (.any))]) [5,11,12,13,42,43,44,45,46,47,48,49,50,51,52,53,54,55,56,57,58,59,60,61,62,63,64,65,66,67,68,69,70,71] (fun(j:Nat)=>j<=B.length) (fun(j:Nat)=>B.length - j) (0) (by simp <;> rfl) ?_ ?_ ?_
 .simp [sX]
 .simp
 rintro j hj;simp only [aQ,aP];have hdl:=wV nA zD A B;have hsl:=Ki nA zD A (B.take j);simp only [bF] at hsl;refine zr q24_1 fun _ _ Z=>?_;simp(disch:=omega)[lB,eW,fE,aA,aB,hA,hB];apply Z;apply aE;refine zI ?_ ?_<;>intro c3<;>try simp at c3
 .apply kO;refine zr q24_1 fun _ _ Z=>?_;simp(disch:=omega)[lB,eW,fE,aA,aB,hA,hB];and_intros<;>(try omega);apply Z;refine zk [0,4,5,11,12,13,40,41,42] ?_;refine zr q24_1 fun _ _ Z=>?_;refine zs 3 fun _ Y=>?_;simp(disch:=omega)[lB,eW,fE,aA,aB,hA,hB];apply Y;refine aF fun _ Y=>?_;simp(disch:=omega)[lB,eW,fE,aA,aB,hA,hB];refine cN (Ru σ.length cap A _ B[j].name _ (by omega) (by simp [eW];rfl) hAs) ?_;apply Y;simp(disch:=omega)[lB,eW,fE,aA,aB,hA,hB];apply Z;refine zk [0,4,5,11,12,13,40,41,42] ?_;refine zd q24_1 [.op {},.op {},.op {},.op {},.op {},.op {},.op {rO:=true},.op {rL:=true},.op {},.op {}] fun all hall _ Z=>?_;have ga2:aO all 2=some 55:=hall 2;refine nI 3 fun _ Y=>?_;simp(disch:=omega)[lB,eW,fE,aA,aB,ga2,hA,hB];apply Y;refine zbD 55 ?_ ?_<;>intro g4<;>try simp at g4
  .have hss:sX nA zD A (B.take (j+1))=sX nA zD A (B.take j)++ [⟨false,B[j].name,B[j].value⟩]:=Bb c3 (by unfold wH;simp [g4]);simp(disch:=omega)[lB,eW,fE,aA,aB,ga2,hA,hB];apply Z;refine aZ (t:=true) (by simp) (fun _=>?_) (fun h=>by cases h);refine zk [0,4,5,11,12,13,40,41,42] ?_;refine zt q24_1 fun _ _ Z=>?_;refine zs 8 fun _ Y=>?_;simp(disch:=omega)[lB,eW,fE,aA,aB,hA,hB];and_intros<;>(try omega);apply Y;simp(disch:=omega)[lB,eW,fE,aA,aB,hA,hB];apply Z;apply zB;refine zk [0,4,5,11,12,13,40,41,42] ?_;refine zt q24_1 fun _ _ Z=>?_;simp(disch:=omega)[lB,eW,fE,aA,aB,hA,hB];and_intros<;>(try omega);apply Z;refine zq (j+1) ?_ ?_ ?_
   .omega
   .try dsimp only
    omega
   simp(disch:=omega)[lB,eW,fE,aA,aB,hss,hA,hB]
  have hlt:=Ag nA g4;simp(disch:=omega)[lB,eW,fE,aA,aB,ga2,hA,hB];and_intros<;>(try omega);apply Z;refine zI ?_ ?_<;>intro c5<;>try simp at c5
  .have hss:sX nA zD A (B.take (j+1))=sX nA zD A (B.take j)++ [⟨false,B[j].name,B[j].value⟩]:=Bb c3 (by unfold wH;rw [g4,aT hlt];simp only [nD,eZ,bE];intro e;rw [e] at c5;simp at c5);refine zk [0,4,5,11,12,13,40,41,42] ?_;refine zt q24_1 fun _ _ Z=>?_;refine zs 8 fun _ Y=>?_;simp(disch:=omega)[lB,eW,fE,aA,aB,hA,hB];and_intros<;>(try omega);apply Y;simp(disch:=omega)[lB,eW,fE,aA,aB,hA,hB];apply Z;apply zB;refine zk [0,4,5,11,12,13,40,41,42] ?_;refine zt q24_1 fun _ _ Z=>?_;simp(disch:=omega)[lB,eW,fE,aA,aB,hA,hB];and_intros<;>(try omega);apply Z;refine zq (j+1) ?_ ?_ ?_
   .omega
   .try dsimp only
    omega
   simp(disch:=omega)[lB,eW,fE,aA,aB,hss,hA,hB]
  have hss:=aAw (nm:=nA) (mk:=zD) c3 (by unfold wH;rw [g4,aT hlt];simp only [nD,eZ,bE];generalize A[kS nA A B[j].name]=x at c5 |-;generalize B[j]=y at c5 |-;cases x;cases y;simpa using c5);apply nM;refine zk [0,4,5,11,12,13,40,41,42] ?_;refine zt q24_1 fun _ _ Z=>?_;simp(disch:=omega)[lB,eW,fE,aA,aB,hA,hB];and_intros<;>(try omega);apply Z;refine zq (j+1) ?_ ?_ ?_
  .omega
  .try dsimp only
   omega
  simp(disch:=omega)[lB,eW,fE,aA,aB,hss,hA,hB]
 obtain rfl:j=B.length:=by omega
 simp only [fJ];apply zE;refine zr q24_1 fun _ _ Z=>?_;simp(disch:=omega)[lB,eW,fE,aA,aB,hA,hB];apply Z;apply aC;simp [aG,iW,hA,hB]
theorem aEn(a b:List PI)(σ:List (List D))(ha:a.length<=99999)(hb:b.length<=99999):Ct prog 124 [.sl false (a.map cL),.sl false (b.map cL)] σ (fun r σ'=>r= .sl true ((iW nP Be a b).map Qu)/\∃J,σ'=σ++J):=by
 refine zf func124 ?_;obtain⟨A,hA⟩:∃A,iP nP a=A:=⟨_,rfl⟩;obtain⟨B,hB⟩:∃B,iP nP b=B:=⟨_,rfl⟩;have hAl:A.length<=99999:=by rw [<- hA];have:=iX nP a;omega
 have hBl:B.length<=99999:=by rw [<- hB];have:=iX nP b;omega
 have hAs:Sorted nP A:=by rw [<- hA];exact gI nP a
 have hBs:Sorted nP B:=by rw [<- hB];exact gI nP b
 refine zr q24_1 fun _ _ Z=>?_;simp(disch:=omega)[lB,eW,fE,aA,aB,hA,hB];apply Z;refine zr q24_1 fun _ _ Z=>?_;refine zs 1 fun _ Y=>?_;simp(disch:=omega)[lB,eW,fE,aA,aB,hA,hB];apply Y;refine aF fun _ Y=>?_;simp(disch:=omega)[lB,eW,fE,aA,aB,hA,hB];refine cN (Ds a _ (by omega)) ?_;apply Y;refine zs 1 fun _ Y=>?_;simp(disch:=omega)[lB,eW,fE,aA,aB,hA,hB];apply Y;refine aF fun _ Y=>?_;simp(disch:=omega)[lB,eW,fE,aA,aB,hA,hB];refine cN (Ds b _ (by omega)) ?_;apply Y;simp(disch:=omega)[lB,eW,fE,aA,aB,hA,hB];apply Z;refine zr q24_1 fun _ _ Z=>?_;simp(disch:=omega)[lB,eW,fE,aA,aB,hA,hB];apply Z;apply aE;refine iU 0 2 rfl (by decide) fun cap rest hcap hcm hrest hk0 hes=>?_;subst hrest;simp only [bQ] at hcap |-;rw [cQ (f:=cP) (fun _=>rfl)];refine iU 1 2 rfl (by decide) fun cap2 rest hcap2 hcm2 hrest hk02 hes2=>?_;subst hrest;simp only [bQ] at hcap2 |-;rw [cQ (f:=cP) (fun _=>rfl)];simp only [bU,aQ,aP,bA,bO,cU,Nat.reduceAdd];refine zr q24_1 fun _ _ Z=>?_;simp(disch:=omega)[lB,eW,fE,aA,aB,hA,hB];and_intros<;>(try omega);apply Z;apply aR;refine zk [0,1,4,5,18,19,20] ?_;refine aY (fun(k:Nat)=> [(20,.d (.v (.int .i64 (k:Int)))),(5,.d (.sl true ((tP nP Be (A.take k) B).map Qu))),(7,.d (.any)),(8,.d (.any)),(9,.d (.any))]) [5,7,8,9,20,21,22,23,24,25,26,27,28,29,30,31,32,33,34,35,36,37,38,39] (fun(k:Nat)=>k<=A.length) (fun(k:Nat)=>A.length - k) (0) (by simp <;> rfl) ?_ ?_ ?_
 .simp [tP]
 .simp
 rintro k hk;simp only [aQ,aP];have hdl:=wV nP Be (A.take k) B;simp only [bF] at hdl;refine zr q24_1 fun _ _ Z=>?_;simp(disch:=omega)[lB,eW,fE,aA,aB,hA,hB];apply Z;apply aE;refine zI ?_ ?_<;>intro c1<;>try simp at c1
 .apply kO;refine zr q24_1 fun _ _ Z=>?_;simp(disch:=omega)[lB,eW,fE,aA,aB,hA,hB];and_intros<;>(try omega);apply Z;refine zk [0,1,4,5,7,8,9,18,19,20] ?_;refine zr q24_1 fun _ _ Z=>?_;refine zs 3 fun _ Y=>?_;simp(disch:=omega)[lB,eW,fE,aA,aB,hA,hB];apply Y;refine aF fun _ Y=>?_;simp(disch:=omega)[lB,eW,fE,aA,aB,hA,hB];refine cN (Rh (σ.length+1) cap2 B _ A[k].name _ (by omega) (by simp [lB];rfl) hBs) ?_;apply Y;simp(disch:=omega)[lB,eW,fE,aA,aB,hA,hB];apply Z;refine zk [0,1,4,5,7,8,9,18,19,20] ?_;refine zr q24_1 fun _ _ Z=>?_;simp(disch:=omega)[lB,eW,fE,aA,aB,hA,hB];apply Z;refine zI ?_ ?_<;>intro c2<;>try simp at c2
  .have hds:tP nP Be (A.take (k+1)) B=tP nP Be (A.take k) B++ [⟨true,A[k].name,0⟩]:=Sy c1 (by simpa using c2);refine zk [0,1,4,5,7,8,9,18,19,20] ?_;refine zt q24_1 fun _ _ Z=>?_;simp(disch:=omega)[lB,eW,fE,aA,aB,hA,hB];and_intros<;>(try omega);apply Z;apply zB;refine zk [0,1,4,5,7,8,9,18,19,20] ?_;refine zt q24_1 fun _ _ Z=>?_;simp(disch:=omega)[lB,eW,fE,aA,aB,hA,hB];and_intros<;>(try omega);apply Z;refine zq (k+1) ?_ ?_ ?_
   .omega
   .try dsimp only
    omega
   simp(disch:=omega)[lB,eW,fE,aA,aB,hds,hA,hB]
  have hds:=aAy (nm:=nP) (mk:=Be) (B:=B) c1 (by simpa using c2);apply nM;refine zk [0,1,4,5,7,8,9,18,19,20] ?_;refine zt q24_1 fun _ _ Z=>?_;simp(disch:=omega)[lB,eW,fE,aA,aB,hA,hB];and_intros<;>(try omega);apply Z;refine zq (k+1) ?_ ?_ ?_
  .omega
  .try dsimp only
   omega
  simp(disch:=omega)[lB,eW,fE,aA,aB,hds,hA,hB]
 obtain rfl:k=A.length:=by omega
 simp only [fJ];apply zE;apply aE;refine zr q24_1 fun _ _ Z=>?_;simp(disch:=omega)[lB,eW,fE,aA,aB,hA,hB];and_intros<;>(try omega);apply Z;apply aR;refine zk [0,4,5,40,41,42] ?_;refine aY (fun(j:Nat)=> [(42,.d (.v (.int .i64 (j:Int)))),(5,.d (.sl true ((tP nP Be A B++sX nP Be A (B.take j)).map Qu))),(11,.d (.any)),(12,.d (.any)),(13,.d (.any))]) [5,11,12,13,42,43,44,45,46,47,48,49,50,51,52,53,54,55,56,57,58,59,60,61,62,63,64,65,66,67,68,69,70,71] (fun(j:Nat)=>j<=B.length) (fun(j:Nat)=>B.length - j) (0) (by simp <;> rfl) ?_ ?_ ?_
 .simp [sX]
 .simp
 rintro j hj;simp only [aQ,aP];have hdl:=wV nP Be A B;have hsl:=Ki nP Be A (B.take j);simp only [bF] at hsl;refine zr q24_1 fun _ _ Z=>?_;simp(disch:=omega)[lB,eW,fE,aA,aB,hA,hB];apply Z;apply aE;refine zI ?_ ?_<;>intro c3<;>try simp at c3
 .apply kO;refine zr q24_1 fun _ _ Z=>?_;simp(disch:=omega)[lB,eW,fE,aA,aB,hA,hB];and_intros<;>(try omega);apply Z;refine zk [0,4,5,11,12,13,40,41,42] ?_;refine zr q24_1 fun _ _ Z=>?_;refine zs 3 fun _ Y=>?_;simp(disch:=omega)[lB,eW,fE,aA,aB,hA,hB];apply Y;refine aF fun _ Y=>?_;simp(disch:=omega)[lB,eW,fE,aA,aB,hA,hB];refine cN (Rh σ.length cap A _ B[j].name _ (by omega) (by simp [eW];rfl) hAs) ?_;apply Y;simp(disch:=omega)[lB,eW,fE,aA,aB,hA,hB];apply Z;refine zk [0,4,5,11,12,13,40,41,42] ?_;refine zd q24_1 [.op {},.op {},.op {},.op {},.op {},.op {},.op {rO:=true},.op {rL:=true},.op {},.op {}] fun all hall _ Z=>?_;have ga2:aO all 2=some 55:=hall 2;refine nI 3 fun _ Y=>?_;simp(disch:=omega)[lB,eW,fE,aA,aB,ga2,hA,hB];apply Y;refine zbD 55 ?_ ?_<;>intro g4<;>try simp at g4
  .have hss:sX nP Be A (B.take (j+1))=sX nP Be A (B.take j)++ [⟨false,B[j].name,B[j].value⟩]:=Bb c3 (by unfold wH;simp [g4]);simp(disch:=omega)[lB,eW,fE,aA,aB,ga2,hA,hB];apply Z;refine aZ (t:=true) (by simp) (fun _=>?_) (fun h=>by cases h);refine zk [0,4,5,11,12,13,40,41,42] ?_;refine zt q24_1 fun _ _ Z=>?_;refine zs 8 fun _ Y=>?_;simp(disch:=omega)[lB,eW,fE,aA,aB,hA,hB];and_intros<;>(try omega);apply Y;simp(disch:=omega)[lB,eW,fE,aA,aB,hA,hB];apply Z;apply zB;refine zk [0,4,5,11,12,13,40,41,42] ?_;refine zt q24_1 fun _ _ Z=>?_;simp(disch:=omega)[lB,eW,fE,aA,aB,hA,hB];and_intros<;>(try omega);apply Z;refine zq (j+1) ?_ ?_ ?_
   .omega
   .try dsimp only
    omega
   simp(disch:=omega)[lB,eW,fE,aA,aB,hss,hA,hB]
  have hlt:=Ag nP g4;simp(disch:=omega)[lB,eW,fE,aA,aB,ga2,hA,hB];and_intros<;>(try omega);apply Z;refine zI ?_ ?_<;>intro c5<;>try simp at c5
  .have hss:sX nP Be A (B.take (j+1))=sX nP Be A (B.take j)++ [⟨false,B[j].name,B[j].value⟩]:=Bb c3 (by unfold wH;rw [g4,aT hlt];simp only [nD,eZ,bE];intro e;rw [e] at c5;simp at c5);refine zk [0,4,5,11,12,13,40,41,42] ?_;refine zt q24_1 fun _ _ Z=>?_;refine zs 8 fun _ Y=>?_;simp(disch:=omega)[lB,eW,fE,aA,aB,hA,hB];and_intros<;>(try omega);apply Y;simp(disch:=omega)[lB,eW,fE,aA,aB,hA,hB];apply Z;apply zB;refine zk [0,4,5,11,12,13,40,41,42] ?_;refine zt q24_1 fun _ _ Z=>?_;simp(disch:=omega)[lB,eW,fE,aA,aB,hA,hB];and_intros<;>(try omega);apply Z;refine zq (j+1) ?_ ?_ ?_
   .omega
   .try dsimp only
    omega
   simp(disch:=omega)[lB,eW,fE,aA,aB,hss,hA,hB]
  have hss:=aAw (nm:=nP) (mk:=Be) c3 (by unfold wH;rw [g4,aT hlt];simp only [nD,eZ,bE];generalize A[kS nP A B[j].name]=x at c5 |-;generalize B[j]=y at c5 |-;cases x;cases y;simpa using c5);apply nM;refine zk [0,4,5,11,12,13,40,41,42] ?_;refine zt q24_1 fun _ _ Z=>?_;simp(disch:=omega)[lB,eW,fE,aA,aB,hA,hB];and_intros<;>(try omega);apply Z;refine zq (j+1) ?_ ?_ ?_
  .omega
  .try dsimp only
   omega
  simp(disch:=omega)[lB,eW,fE,aA,aB,hss,hA,hB]
 obtain rfl:j=B.length:=by omega
 simp only [fJ];apply zE;refine zr q24_1 fun _ _ Z=>?_;simp(disch:=omega)[lB,eW,fE,aA,aB,hA,hB];apply Z;apply aC;simp [aG,iW,hA,hB]
structure WD(d:DS)(bel:Int->List Int)(rk:Int->Nat):Prop where
 nb:NB d.l
 ids:∀e∈d.es,aI d.l e.n.ID=e.n
 tr:Tr d.l bel rk
 kids:∀e∈d.es,∀k∈e.n.kids,fK d.l k=true
theorem DO.lt (h:DO m M d σ) {e:EN} (he:e∈d.es):e.o<σ.length:=pC (h.hn e he)
theorem DO.app (h:DO m M d σ)(J:List (List D)):DO m M d (σ++J):=
 ⟨eT h.hm J,fun e he=>eT (h.hn e he) J,h.nm,h.nd,by rw [bA];have:=h.hM;omega⟩
theorem EF.of {q:Nat} (h:DO m M d σ)(hw:WD d bel rk)(hq:σ.length<=q):EF m q d bel rk:=
 ⟨by have:=pC h.hm;omega,fun e he=>by have:=h.lt he;omega,h.nm,h.nd,hw.nb,hw.ids,hw.tr,hw.kids⟩
theorem EO.of (h:DO m M d σ)(hw:WD d bel rk)(id:Int):EO m M σ.length d bel id [] (σ++ [[.xs 1 []]]):=
 ⟨eT h.hm _,fun i _ e he _=>eT (h.hn e he) _,by simp,by have:=hw.tr.len id;simp;omega⟩
structure WP(d:DS):Prop where
 par:∀e∈d.es,e.n.parent= -1\/∃p∈d.es,p.n.ID=e.n.parent/\p.o≠e.o
 nn:∀e∈d.es,0<=e.n.ID
structure WT(l:List ND)(rk:Int->Nat):Prop where
 nd:(l.map ND.ID).Nodup
 kids:∀n∈l,∀k∈n.kids,∃c∈l,c.ID=k/\c.parent=n.ID
 par:∀n∈l,n.parent= -1\/∃p∈l,p.ID=n.parent/\n.ID∈p.kids
 nn:∀n∈l,0<=n.ID
 kn:∀n∈l,n.kids.Nodup
 dec:∀n∈l,∀k∈n.kids,rk k<rk n.ID
def Ci:Nat->List ND->Int->List Int
 | 0,_,id=> [id]
 | f+1,l,id=>id::(aI l id).kids.flatMap (Ci f l)
def dP(l:List ND)(rk:Int->Nat)(id:Int):List Int:=Ci (rk id) l id
theorem mB (h:(l.map ND.ID).Nodup) {a b:ND} (ha:a∈l)(hb:b∈l)(e:a.ID=b.ID):a=b:=by
 obtain⟨i,hi,rfl⟩:=jX ha;obtain⟨j,hj,rfl⟩:=jX hb;have hp:=pW.1 h;rcases rR i j with h1 | rfl | h1
 .exact absurd e (by have:=hp i j (by simpa using hi) (by simpa using hj) h1;rwa [jU,jU] at this)
 .rfl
 exact absurd e.symm (by have:=hp j i (by simpa using hj) (by simpa using hi) h1;rwa [jU,jU] at this)
theorem Hz (h:(l.map ND.ID).Nodup) (hn:n∈l):kF l n.ID=some n:=by
 cases e:kF l n.ID with
 | none=>
  unfold kF at e;rw [sB] at e;exact absurd (by simp:decide (n.ID=n.ID)=true) (e n hn)
 | some m=>
  obtain⟨h1,h2⟩:=oG e;rw [mB h h1 hn h2]
theorem qS (h:(l.map ND.ID).Nodup) (hn:n∈l):aI l n.ID=n:=by unfold aI;rw [Hz h hn];rfl
theorem aN5 (h:(l.map ND.ID).Nodup) (hn:n∈l):fK l n.ID=true:=by unfold fK;rw [Hz h hn];rfl
theorem eN {id:Int} (h:fK l id=true):∃n∈l,n.ID=id/\aI l id=n:=by
 unfold fK at h;cases hq:kF l id with
 | none=>rw [hq] at h;cases h
 | some n=>obtain⟨h1,h2⟩:=oG hq;exact⟨n,h1,h2,by unfold aI;rw [hq];rfl⟩
theorem kK {id:Int} (h:fK l id=false):aI l id=Rx:=by
 unfold aI;unfold fK at h;cases hq:kF l id with
 | none=>rfl
 | some n=>rw [hq] at h;cases h
theorem qH {id:Int} :fK l id=true↔∃n∈l,n.ID=id:=by
 constructor
 .intro h;obtain⟨n,h1,h2,_⟩:=eN h;exact⟨n,h1,h2⟩
 rintro⟨n,h1,rfl⟩;cases h:fK l n.ID with
 | true=>rfl
 | false=>exact absurd rfl (yH h n h1)
def Dec(l:List ND)(rk:Int->Nat):Prop:=∀id,∀k∈(aI l id).kids,rk k<rk id
theorem WT.Dec (h:WT l rk):Dec l rk:=fun id k hk=>by
 cases hl:fK l id with
 | false=>rw [kK hl] at hk;cases hk
 | true=>
  obtain⟨n,h1,h2,h3⟩:=eN hl;rw [h3] at hk;rw [<- h2];exact h.dec n h1 k hk
theorem mG {l:List α} {f g:α->List β} (h:∀a∈l,f a=g a):l.flatMap f=l.flatMap g:=by
 induction l with
 | nil=>rfl
 | cons a l ih=>rw [gC,gC,h a (by simp),ih fun b hb=>h b (by simp [hb])]
theorem Dec.nil (hd:Dec l rk) {id:Int} (h:rk id=0):(aI l id).kids= []:=
 Eh.2 fun k hk=>by have:=hd id k hk;omega
theorem Pl (hd:Dec l rk):∀(f g:Nat) (id:Int),rk id<=f->rk id<=g->Ci f l id=Ci g l id
 | 0,0,id,_,_=>rfl
 | 0,g+1,id,h,_=>by simp [Ci,hd.nil (show rk id=0 by omega)]
 | f+1,0,id,_,h=>by simp [Ci,hd.nil (show rk id=0 by omega)]
 | f+1,g+1,id,h1,h2=>by
  simp only [Ci];congr 1;exact mG fun k hk=>Pl hd f g k (by have:=hd id k hk;omega) (by have:=hd id k hk;omega)
theorem jN (hd:Dec l rk)(id:Int):dP l rk id=id::(aI l id).kids.flatMap (dP l rk):=by
 unfold dP;rw [Pl hd (rk id) (rk id+1) id (aX _) (by omega)];simp only [Ci];congr 1;exact mG fun k hk=>Pl hd (rk id) (rk k) k (by have:=hd id k hk;omega) (aX _)
theorem mQ (hd:Dec l rk)(id:Int):id∈dP l rk id:=by rw [jN hd];exact fA
theorem Rc (hd:Dec l rk) {id k:Int} (hk:k∈(aI l id).kids)(hi:i∈dP l rk k):i∈dP l rk id:=by
 rw [jN hd];exact gK _ (lW.2 ⟨k,hk,hi⟩)
theorem tL (hd:Dec l rk) {id:Int} (h:i∈dP l rk id):i=id\/∃k∈(aI l id).kids,i∈dP l rk k:=by
 rw [jN hd] at h;rcases bM.1 h with h | h
 .exact .inl h
 obtain⟨k,h1,h2⟩:=lW.1 h;exact .inr ⟨k,h1,h2⟩
theorem aSb (hd:Dec l rk):∀(n:Nat) (id:Int),rk id<=n->∀i∈dP l rk id,rk i<=rk id:=by
 intro n;induction n with
 | zero=>
  intro id hn i hi;rcases tL hd hi with rfl | ⟨k,hk,_⟩
  .exact aX _
  have:=hd id k hk;omega
 | succ n ih=>
  intro id hn i hi;rcases tL hd hi with rfl | ⟨k,hk,hik⟩
  .exact aX _
  have h1:=hd id k hk;have:=ih k (by omega) i hik;omega
theorem Pi (hd:Dec l rk) {id:Int} (h:i∈dP l rk id):rk i<=rk id:=aSb hd (rk id) id (aX _) i h
theorem aFq (hd:Dec l rk) {a:Int} (hab:a∈dP l rk b):∀ {c:Int},b∈dP l rk c->a∈dP l rk c:=by
 intro c;generalize hn:rk c=n;induction n using Nat.strongRecOn generalizing c with
 | _ n ih=>
  intro hbc;rcases tL hd hbc with rfl | ⟨k,hk,hik⟩
  .exact hab
  have h1:=hd c k hk;exact Rc hd hk (ih (rk k) (by omega) rfl hik)
theorem zN(h:WT l rk) (hn:n∈l) (hb:n.ID∈dP l rk b):n.ID=b\/∃p∈l,p.ID=n.parent/\n.ID∈p.kids/\p.ID∈dP l rk b:=by
 have hd:=h.Dec;generalize hm:rk b=m;induction m using Nat.strongRecOn generalizing b with
 | _ m ih =>
  rcases tL hd hb with e | ⟨k,hk,hik⟩
  .exact .inl e
  have h1:=hd b k hk;have hlb:fK l b=true:=by
   cases hl:fK l b with
   | true=>rfl
   | false=>rw [kK hl] at hk;cases hk
  obtain⟨q,q1,q2,q3⟩:=eN hlb;rw [q3] at hk;rcases ih (rk k) (by omega) hik rfl with e | ⟨p,p1,p2,p3,p4⟩
  .obtain⟨c,c1,c2,c3⟩:=h.kids q q1 k hk;have:c=n:=mB h.nd c1 hn (by rw [c2,e]);subst this;refine .inr ⟨q,q1,c3.symm,by rw [e];exact hk,by rw [q2];exact mQ hd b⟩
  exact .inr ⟨p,p1,p2,p3,Rc hd (by rw [q3];exact hk) p4⟩
theorem Ie(h:WT l rk) {p:ND} (hp:p∈l) {k:Int} (hk:k∈p.kids)(hb:p.ID∈dP l rk b):k∈dP l rk b:=
 aFq h.Dec (Rc h.Dec (by rw [qS h.nd hp];exact hk) (mQ h.Dec k)) hb
theorem aAj(h:WT l rk) (hb:fK l b=true)(hi:i∈dP l rk b):fK l i=true:=by
 have hd:=h.Dec;generalize hm:rk b=m;induction m using Nat.strongRecOn generalizing b with
 | _ m ih=>
  rcases tL hd hi with rfl | ⟨k,hk,hik⟩
  .exact hb
  have h1:=hd b k hk;obtain⟨q,q1,q2,q3⟩:=eN hb;rw [q3] at hk;obtain⟨c,c1,c2,_⟩:=h.kids q q1 k hk;exact ih (rk k) (by omega) (qH.2 ⟨c,c1,c2⟩) hik rfl
theorem aEs(h:WT l rk) {a:Int} :∀ {n:ND},n∈l->n.ID∈dP l rk a->n.ID∈dP l rk b->a∈dP l rk b\/b∈dP l rk a:=by
 intro n;have hd:=h.Dec;generalize hm:rk a - rk n.ID=m;induction m using Nat.strongRecOn generalizing n with
 | _ m ih=>
  intro hn ha hb;rcases zN h hn ha with e | ⟨p,p1,p2,p3,p4⟩
  .left;rw [<- e];exact hb
  rcases zN h hn hb with e | ⟨q,q1,q2,q3,q4⟩
  .right;rw [<- e];exact ha
  have:p=q:=mB h.nd p1 q1 (by rw [p2,q2]);subst this;have h1:=h.dec p p1 _ p3;have h2:=Pi hd p4;exact ih (rk a - rk p.ID) (by omega) rfl p1 p4 q4
theorem aCa(h:WT l rk):∀ {b:Int},(dP l rk b).Nodup:=by
 intro b;have hd:=h.Dec;generalize hm:rk b=m;induction m using Nat.strongRecOn generalizing b with
 | _ m ih =>
  rw [jN hd];refine gU.2 ⟨fun hi=>?_,?_⟩
  .obtain⟨k,hk,hik⟩:=lW.1 hi;have h1:=hd b k hk;have h2:=Pi hd hik;omega
  cases hl:fK l b with
  | false=>rw [kK hl];simp [Rx]
  | true =>
   obtain⟨q,q1,q2,q3⟩:=eN hl;rw [q3];have key:∀K:List Int,K.Nodup->(∀k∈K,k∈q.kids)->(K.flatMap (dP l rk)).Nodup:=by
    intro K;induction K with
    | nil=>intro _ _;simp
    | cons k K ihK =>
     intro hK hsub;have hK':=gU.1 hK;rw [gC,lO];have hk1:=h.dec q q1 k (hsub k (by simp));refine⟨ih (rk k) (by rw [q2] at hk1;omega) rfl,ihK hK'.2 fun j hj=>hsub j (by simp [hj]),fun i hi j hj hij=>?_⟩;subst hij;obtain⟨k2,hk2,hik2⟩:=lW.1 hj;have hne:k≠k2:=fun e=>hK'.1 (e ▸ hk2);have hk2q:=hsub k2 (by simp [hk2]);obtain⟨c,c1,c2,c3⟩:=h.kids q q1 k (hsub k (by simp));obtain⟨c',d1,d2,d3⟩:=h.kids q q1 k2 hk2q;have hisL:fK l i=true:=aAj h (qH.2 ⟨c,c1,c2⟩) hi;obtain⟨n,n1,n2,_⟩:=eN hisL;have hk2':=h.dec q q1 k2 hk2q;rcases aEs h n1 (by rw [n2];exact hi) (by rw [n2];exact hik2)with hc | hc
     .rcases zN h c1 (by rw [c2];exact hc)with e | ⟨p,p1,p2,p3,p4⟩
      .exact hne (by rw [<- c2,e])
      have:p=q:=mB h.nd p1 q1 (by rw [p2,c3]);subst this;have:=Pi hd p4;omega
     rcases zN h d1 (by rw [d2];exact hc)with e | ⟨p,p1,p2,p3,p4⟩
     .exact hne (by rw [<- d2,e])
     have:p=q:=mB h.nd p1 q1 (by rw [p2,d3]);subst this;have:=Pi hd p4;omega
   exact key q.kids (h.kn q q1) fun k hk=>hk
theorem Mc {α:Type} [DecidableEq α]:∀ {a b:List α},a.Nodup->(∀x∈a,x∈b)->a.length<=b.length
 | [],b,_,_=>iE _
 | x::a,b,hn,hs=>by
  have hn':=gU.1 hn;have hx:=hs x (by simp);have:=Mc (a:=a) (b:=b.erase x) hn'.2 fun y hy=>(List.mem_erase_of_ne (by rintro rfl;exact hn'.1 hy)).2 (hs y (by simp [hy]));rw [Nl hx] at this;have:=List.length_pos_of_mem hx;simp only [bO];omega
theorem Zu(h:WT l rk)(b:Int):(dP l rk b).length<=l.length+1:=by
 cases hl:fK l b with
 | false=>rw [jN h.Dec,kK hl];simp [Rx]
 | true =>
  have:(dP l rk b).length<=(l.map ND.ID).length:=Mc (aCa h) fun i hi=>by
   obtain⟨n,n1,n2,_⟩:=eN (aAj h hl hi);rw [<- n2];exact aW.2 ⟨n,n1,rfl⟩
  simpa using Nat.le_succ_of_le this
theorem WT.Tr(h:WT l rk)(hl:l.length<=1000):Tr l (dP l rk) rk:=
 ⟨jN h.Dec,h.Dec,fun id=>by have:=Zu h id;omega⟩
variable {d:DS}{e:EN}{rk:Int->Nat}
def pD:Option EN->D
 | some e=> .ref e.o 0
 | none=> .v (.pointer none)
theorem lE(e:EN):pD (some e)= .ref e.o 0:=rfl
theorem mC:pD none= .v (.pointer none):=rfl
@[simp] theorem kD(s:Option EN):(pD s).plain=true:=by cases s <;> rfl
@[simp] theorem kE(s:Option EN):(pD s).strip=pD s:=by cases s <;> rfl
@[simp] theorem aXl(s:Option EN):(pD s).s2=pD s:=by cases s <;> rfl
@[simp] theorem aXt(s:Option EN):(pD s).s1=pD s:=by cases s <;> rfl
def nx(d:DS)(id:Int):Option EN:=d.es.find? fun e=>decide (e.n.ID=id)
theorem aBw {id:Int} {p:EN} (h:nx d id=some p):p∈d.es/\p.n.ID=id:=by
 unfold nx at h;exact⟨Mw h,by simpa using List.find?_some h⟩
theorem aBp {id:Int} (h:nx d id=none):∀n∈d.l,n.ID≠id:=by
 intro n hn e;obtain⟨x,hx,rfl⟩:=aW.1 hn;unfold nx at h;rw [sB] at h;exact h x hx (by simpa using e)
theorem aHc(d:DS)(id:Int):Ye (d.es.map kvE) (.int .i64 id) (D.v (.pointer none)) (pD (nx d id)) false\/Ye (d.es.map kvE) (.int .i64 id) (D.v (.pointer none)) (pD (nx d id)) true:=by
 cases h:nx d id with
 | none=>
  left;refine Ar ?_ _;cases hl:fK (d.es.map EN.n) id with
  | false=>rfl
  | true=>obtain⟨n,h1,h2⟩:=qH.1 hl;exact absurd h2 (aBp h n h1)
 | some p=>
  right;obtain⟨h1,h2⟩:=aBw h;rw [<- h2];exact nU h1 _
theorem jB (he:e∈d.es):e.n∈d.l:=aW.2 ⟨e,he,rfl⟩
theorem aPn (h:WT d.l rk) (he:e∈d.es) {b:Int} (hne:¬e.n.ID=b):(∀p,nx d e.n.parent=some p->p∈d.es/\(e.n.ID∈dP d.l rk b↔p.n.ID∈dP d.l rk b)/\rk e.n.ID<rk p.n.ID)/\(nx d e.n.parent=none->e.n.ID∉dP d.l rk b):=by
 constructor
 .intro p hp;obtain⟨h1,h2⟩:=aBw hp;have hpn:=h.nn _ (jB h1);rcases h.par _ (jB he)with h3 | ⟨q,q1,q2,q3⟩
  .omega
  have hqp:q=p.n:=mB h.nd q1 (jB h1) (by rw [q2,h2]);subst hqp;refine⟨h1,⟨fun hb=>?_,fun hb=>Ie h q1 q3 hb⟩,h.dec _ q1 _ q3⟩;rcases zN h (jB he) hb with e1 | ⟨p',p1,p2,p3,p4⟩
  .exact absurd e1 hne
  have:=mB h.nd p1 q1 (by rw [p2,q2]);rw [<- this];exact p4
 intro hn hb;rcases zN h (jB he) hb with e1 | ⟨p',p1,p2,p3,p4⟩
 .exact hne e1
 exact aBp hn p' p1 p2
def wiM(R:Nat)(rk:Int->Nat):Option EN->Nat
 | none=>0
 | some e=>R+1 - rk e.n.ID
theorem aA1 {R:Nat} {id b:Int} (h:WT d.l rk)(hR:∀e∈d.es,rk e.n.ID<=R) (he:e∈d.es)(hne:¬e.n.ID=b)(hi:id∈dP d.l rk b↔e.n.ID∈dP d.l rk b):
  ((∀p,nx d e.n.parent=some p->p∈d.es/\(id∈dP d.l rk b↔p.n.ID∈dP d.l rk b))/\(nx d e.n.parent=none->id∉dP d.l rk b))/\wiM R rk (nx d e.n.parent)<wiM R rk (some e):=by
 obtain⟨h1,h2⟩:=aPn h he hne;refine⟨⟨fun p hp=>?_,fun hn hb=>h2 hn (hi.1 hb)⟩,?_⟩
 .obtain⟨a,b,c⟩:=h1 p hp;exact⟨a,hi.trans b⟩
 have:=hR e he;cases hp:nx d e.n.parent with
 | none=>simp only [wiM];omega
 | some p=>
  obtain⟨a,b,c⟩:=h1 p hp;have:=hR p a;simp only [wiM];omega
theorem Hq(l:List Int)(i:Int):(l.any fun k=>decide (k=i))=decide (i∈l):=by
 rw [iH,oI,eZ];exact⟨fun⟨x,h1,h2⟩=>by rw [<- yV h2];exact h1,fun h=>⟨i,h,by simp⟩⟩
theorem aRt(m M R:Nat)(d:DS)(rk:Int->Nat)(e0 f:EN)(σ:List (List D))(ho:DO m M d σ)(hwt:WT d.l rk)(hR:∀e∈d.es,rk e.n.ID<=R)(he0:e0∈d.es)(hf:f∈d.es):Ct prog 150 [.ref m 0,D.int e0.n.ID,D.int f.n.ID] σ (fun r σ'=>r= .bool (decide (e0.n.ID∈dP d.l rk f.n.ID))/\σ'=σ):=by
 refine zf func150 ?_;have hq:=ho.hm;have hnn:=ho.hn;refine bC fun _ _ Z=>?_;simp(disch:=omega)[hq,lE,mC,kD,kE,hnn];and_intros<;>(try omega)
 all_goals first | (generalize nx d e.n.parent=s9;cases s9 <;> rfl) | skip
 apply Z;apply aE;refine bC fun _ _ Z=>?_;refine zs 6 fun _ Y=>?_;simp(disch:=omega)[hq,lE,mC,kD,kE,hnn];refine⟨m,2,d.ck,_,.ref f.o 0,⟨⟨_,hq,rfl⟩,tF _,.inr (nU hf _)⟩,?_⟩;and_intros<;>(try omega)
 all_goals first | (generalize nx d e.n.parent=s9;cases s9 <;> rfl) | skip
 apply Y;simp(disch:=omega)[hq,lE,mC,kD,kE,hnn];and_intros<;>(try omega)
 all_goals first | (generalize nx d e.n.parent=s9;cases s9 <;> rfl) | skip
 apply Z;refine zI ?_ ?_<;>intro c1<;>try simp at c1
 apply zA;apply aE;refine bC fun _ _ Z=>?_;refine zs 6 fun _ Y=>?_;simp(disch:=omega)[hq,lE,mC,kD,kE,hnn];refine⟨m,2,d.ck,_,.ref e0.o 0,⟨⟨_,hq,rfl⟩,tF _,.inr (nU he0 _)⟩,?_⟩;and_intros<;>(try omega)
 all_goals first | (generalize nx d e.n.parent=s9;cases s9 <;> rfl) | skip
 apply Y;simp(disch:=omega)[hq,lE,mC,kD,kE,hnn];and_intros<;>(try omega)
 all_goals first | (generalize nx d e.n.parent=s9;cases s9 <;> rfl) | skip
 apply Z;apply aR;refine zk [0,2,6,7] ?_;refine aY (fun(s:Option EN)=> [(7,.d (pD s))]) [6,7,21,22,23,24,25,26,27,28,29,30,31,32,33,34,35,36,37] (fun(s:Option EN)=>(∀e,s=some e->e∈d.es/\(e0.n.ID∈dP d.l rk f.n.ID↔e.n.ID∈dP d.l rk f.n.ID))/\(s=none->e0.n.ID∉dP d.l rk f.n.ID)) (fun(s:Option EN)=>wiM R rk s) (some e0) (by simp <;> rfl) ?_ ?_ ?_
 .simp [lE]
 .exact⟨fun e h=>by cases h;exact⟨he0,Iff.rfl⟩,fun h=>by cases h⟩
 rintro s ⟨hs1,hs2⟩;simp only [aQ,aP];obtain⟨e,rfl⟩ | rfl:(∃e,s=some e)\/s=none:=by cases s <;> simp
 .try simp only []
  obtain⟨he,hi⟩:=hs1 e rfl;apply aE;refine bC fun _ _ Z=>?_;simp(disch:=omega)[hq,lE,mC,kD,kE,hnn];and_intros<;>(try omega)
  all_goals first | (generalize nx d e.n.parent=s9;cases s9 <;> rfl) | skip
  apply Z;refine aZ (t:=true) (by simp) (fun _=>?_) (fun h=>by cases h);apply kO;refine bC fun _ _ Z=>?_;simp(disch:=omega)[hq,lE,mC,kD,kE,hnn];and_intros<;>(try omega)
  all_goals first | (generalize nx d e.n.parent=s9;cases s9 <;> rfl) | skip
  apply Z;refine zI ?_ ?_<;>intro c2<;>try simp at c2
  .refine bC fun _ _ Z=>?_;simp(disch:=omega)[hq,lE,mC,kD,kE,hnn];and_intros<;>(try omega)
   all_goals first | (generalize nx d e.n.parent=s9;cases s9 <;> rfl) | skip
   apply Z;apply aC;simp [aG];rw [hi,c2];exact mQ hwt.Dec _
  apply nM;refine ze ⟨[],[],[],[],[]⟩ [.op {},.op {},.op {},.op {rO:=true},.op {},.op {},.op {},.op {rO:=true},.op {rO:=true},.op {}] fun all hall _ Z=>?_;refine nI 8 fun _ Y=>?_;simp(disch:=omega)[hq,lE,mC,kD,kE,hnn];and_intros<;>(try omega)
  all_goals first | (generalize nx d e.n.parent=s9;cases s9 <;> rfl) | skip
  apply Y;refine nI 1 fun _ Y=>?_;simp(disch:=omega)[hq,lE,mC,kD,kE,hnn];refine⟨m,2,d.ck,_,pD (nx d e.n.parent),⟨⟨_,hq,rfl⟩,tF _,aHc d _⟩,?_⟩;and_intros<;>(try omega)
  all_goals first | (generalize nx d e.n.parent=s9;cases s9 <;> rfl) | skip
  apply Y;simp(disch:=omega)[hq,lE,mC,kD,kE,hnn];and_intros<;>(try omega)
  all_goals first | (generalize nx d e.n.parent=s9;cases s9 <;> rfl) | skip
  apply Z;refine zq (nx d e.n.parent) ?_ ?_ ?_
  .exact(aA1 hwt hR he c2 hi).1
  .exact(aA1 hwt hR he c2 hi).2
  simp(disch:=omega)[hq,lE,mC,kD,kE,hnn]
 try simp only []
 have hno:=hs2 rfl;apply aE;refine bC fun _ _ Z=>?_;simp(disch:=omega)[hq,lE,mC,kD,kE,hnn];and_intros<;>(try omega)
 all_goals first | (generalize nx d e.n.parent=s9;cases s9 <;> rfl) | skip
 apply Z;refine aZ (t:=false) (by simp) (fun h=>by cases h) (fun _=>?_);apply zE;refine bC fun _ _ Z=>?_;simp(disch:=omega)[hq,lE,mC,kD,kE,hnn];and_intros<;>(try omega)
 all_goals first | (generalize nx d e.n.parent=s9;cases s9 <;> rfl) | skip
 apply Z;apply aC;simp [aG];exact hno
theorem aQ8(m M:Nat)(d:DS)(id f:Int)(σ:List (List D))(ho:DO m M d σ)(hno:fK d.l f=false):Ct prog 150 [.ref m 0,D.int id,D.int f] σ (fun r σ'=>r= .bool false/\σ'=σ):=by
 refine zf func150 ?_;have hq:=ho.hm;refine bC fun _ _ Z=>?_;simp[hq];apply Z;apply aE;refine bC fun _ _ Z=>?_;refine zs 6 fun _ Y=>?_;simp[hq];refine⟨m,2,d.ck,_,.v (.pointer none),⟨⟨_,hq,rfl⟩,tF _,.inl (Ar hno _)⟩,?_⟩;and_intros<;>(try omega);apply Y;simp[hq];apply Z;refine zI ?_ ?_<;>intro c1<;>try simp at c1
 refine bC fun _ _ Z=>?_;simp[hq];apply Z;apply aC;simp [aG]
theorem aR4(m M:Nat)(d:DS)(id:Int)(f:EN)(σ:List (List D))(ho:DO m M d σ)(hf:f∈d.es)(hno:fK d.l id=false):Ct prog 150 [.ref m 0,D.int id,D.int f.n.ID] σ (fun r σ'=>r= .bool false/\σ'=σ):=by
 refine zf func150 ?_;have hq:=ho.hm;refine bC fun _ _ Z=>?_;simp[hq];apply Z;apply aE;refine bC fun _ _ Z=>?_;refine zs 6 fun _ Y=>?_;simp[hq];refine⟨m,2,d.ck,_,.ref f.o 0,⟨⟨_,hq,rfl⟩,tF _,.inr (nU hf _)⟩,?_⟩;and_intros<;>(try omega);apply Y;simp[hq];apply Z;refine zI ?_ ?_<;>intro c1<;>try simp at c1
 apply zA;apply aE;refine bC fun _ _ Z=>?_;refine zs 6 fun _ Y=>?_;simp[hq];refine⟨m,2,d.ck,_,.v (.pointer none),⟨⟨_,hq,rfl⟩,tF _,.inl (Ar hno _)⟩,?_⟩;and_intros<;>(try omega);apply Y;simp[hq];apply Z;apply aR;refine zk [0,2,6,7] ?_;refine aY (fun(s:Unit)=> [(7,.d (.v (.pointer none)))]) [6,7,21,22,23,24,25,26,27,28,29,30,31,32,33,34,35,36,37] (fun(s:Unit)=>True) (fun(s:Unit)=>0) (()) (by simp <;> rfl) ?_ ?_ ?_
 .simp
 .trivial
 rintro s _;simp only [aQ,aP];apply aE;refine bC fun _ _ Z=>?_;simp[hq];apply Z;refine zI ?_ ?_<;>intro c2<;>try simp at c2
 apply zE;refine bC fun _ _ Z=>?_;simp[hq];apply Z;apply aC;simp [aG]
theorem aGv(l:List ND)(rk:Int->Nat):∃R,∀n∈l,rk n.ID<=R:=by
 induction l with
 | nil=>exact⟨0,fun n h=>by cases h⟩
 | cons a l ih=>
  obtain⟨R,hR⟩:=ih;refine⟨max R (rk a.ID),fun n h=>?_⟩;rcases bM.1 h with rfl | h
  .omega
  have:=hR n h;omega
theorem aEo(m M:Nat)(d:DS)(rk:Int->Nat)(id f:Int)(σ:List (List D))(ho:DO m M d σ)(hwt:WT d.l rk):Ct prog 150 [.ref m 0,D.int id,D.int f] σ (fun r σ'=>r= .bool (nO d.l (dP d.l rk) id f)/\σ'=σ):=by
 unfold nO;cases hf:fK d.l f with
 | false=>simp only [Bool.and_false,Bool.false_and];exact aQ8 m M d id f σ ho hf
 | true =>
  obtain⟨ef,hef,rfl,_⟩:=xG hf;cases hi:fK d.l id with
  | false=>simp only [Bool.false_and];exact aR4 m M d id ef σ ho hef hi
  | true=>
   obtain⟨ei,hei,rfl,_⟩:=xG hi;obtain⟨R,hR⟩:=aGv d.l rk;rw [Hq];simp only [nD];exact aRt m M R d rk ei ef σ ho hwt (fun e he=>hR _ (jB he)) hei hef
end Go.Proofs.YtbgfljpnhhdkoaaGreat
