import Derived.Test.YtbgfljpnhhdkoaaGreatWvLaw
import Derived.Test.YtbgfljpnhhdkoaaGreatWkWv4
import Derived.Test.YtbgfljpnhhdkoaaGreatWkAr9
set_option linter.all false
set_option maxRecDepth 20000
set_option maxHeartbeats 8000000
open Go.Proofs.Tryz
namespace Go.Proofs.YtbgfljpnhhdkoaaGreat
open Go Go.Vm
variable {M k m:Nat}{b i:Int}{bel:Int->List Int}{d:DS}{l:List ND}{n:ND}{rk:Int->Nat}{α β:Type}{σ:List (List D)}
def uT {α β:Type} (nm:α->ByteArray)(mk:Bool->α->β)(A B:List α):List β:=(A.filter fun p=> !Jy nm B (nm p)).map (mk true)
def xG {α:Type} [DecidableEq α](nm:α->ByteArray)(A:List α)(p:α):Bool:=Jy nm A (nm p) && decide (A[lE nm A (nm p)]?=some p)
def sZ {α β:Type} [DecidableEq α](nm:α->ByteArray)(mk:Bool->α->β)(A B:List α):List β:=(B.filter fun p=> !xG nm A p).map (mk false)
def jF {α β:Type} [DecidableEq α](nm:α->ByteArray)(mk:Bool->α->β)(a b:List α):List β:=uT nm mk (iB nm a) (iB nm b)++sZ nm mk (iB nm a) (iB nm b)
theorem Tj {nm:α->ByteArray} {mk:Bool->α->β} {A B:List α} (hk:k<A.length)(h:¬Jy nm B (nm A[k])=true):uT nm mk (A.take (k+1)) B=uT nm mk (A.take k) B++ [mk true A[k]]:=by
 unfold uT;rw [bS A k hk,fY,pY (by simpa using h),cN];rfl
theorem aAx {nm:α->ByteArray} {mk:Bool->α->β} {A B:List α} (hk:k<A.length)(h:Jy nm B (nm A[k])=true):uT nm mk (A.take (k+1)) B=uT nm mk (A.take k) B:=by
 unfold uT;rw [bS A k hk,fY,rX (by simpa using h),lG,gG]
theorem Bh [DecidableEq α] {nm:α->ByteArray} {mk:Bool->α->β} {A B:List α} (hk:k<B.length)(h:¬xG nm A B[k]=true):sZ nm mk A (B.take (k+1))=sZ nm mk A (B.take k)++ [mk false B[k]]:=by
 unfold sZ;rw [bS B k hk,fY,pY (by simpa using h),cN];rfl
theorem aBh [DecidableEq α] {nm:α->ByteArray} {mk:Bool->α->β} {A B:List α} (hk:k<B.length)(h:xG nm A B[k]=true):sZ nm mk A (B.take (k+1))=sZ nm mk A (B.take k):=by
 unfold sZ;rw [bS B k hk,fY,rX (by simpa using h),lG,gG]
theorem xD (nm:α->ByteArray)(mk:Bool->α->β)(A B:List α):(uT nm mk A B).length<=A.length:=by unfold uT;rw [bQ];exact kH _ _
theorem Lb [DecidableEq α](nm:α->ByteArray)(mk:Bool->α->β)(A B:List α):(sZ nm mk A B).length<=B.length:=by unfold sZ;rw [bQ];exact kH _ _
abbrev zU(b:Bool)(p:AT):SA:=if b then⟨true,p.name,⟨#[]⟩⟩else⟨false,p.name,p.value⟩
abbrev Cm(b:Bool)(p:PI):SI:=if b then⟨true,p.name,0⟩else⟨false,p.name,p.value⟩
@[simp] abbrev q26_1:Cfg:=⟨[0,1,4,5,14,15,16,17,33,63,72],[],[],[19,22,41,44,58],[]⟩
theorem aE2(a b:List AT)(σ:List (List D))(ha:a.length<=99999)(hb:b.length<=99999):Ct prog 118 [.sl false (a.map cY),.sl false (b.map cY)] σ (fun r σ'=>r= .sl true ((jF nA zU a b).map Qf)/\∃J,σ'=σ++J):=by
 refine zf func118 ?_;obtain⟨A,hA⟩:∃A,iB nA a=A:=⟨_,rfl⟩;obtain⟨B,hB⟩:∃B,iB nA b=B:=⟨_,rfl⟩;have hAl:A.length<=99999:=by rw [<- hA];have:=jC nA a;omega
 have hBl:B.length<=99999:=by rw [<- hB];have:=jC nA b;omega
 have hAs:Sorted nA A:=by rw [<- hA];exact gK nA a
 have hBs:Sorted nA B:=by rw [<- hB];exact gK nA b
 refine zr q26_1 fun _ _ Z=>?_;simp(disch:=omega)[lH,eZ,fE,aB,aA,hA,hB];apply Z;refine zr q26_1 fun _ _ Z=>?_;refine zs 1 fun _ Y=>?_;simp(disch:=omega)[lH,eZ,fE,aB,aA,hA,hB];apply Y;refine aF fun _ Y=>?_;simp(disch:=omega)[lH,eZ,fE,aB,aA,hA,hB];refine cU (Gk a _ (by omega)) ?_;apply Y;refine zs 1 fun _ Y=>?_;simp(disch:=omega)[lH,eZ,fE,aB,aA,hA,hB];apply Y;refine aF fun _ Y=>?_;simp(disch:=omega)[lH,eZ,fE,aB,aA,hA,hB];refine cU (Gk b _ (by omega)) ?_;apply Y;simp(disch:=omega)[lH,eZ,fE,aB,aA,hA,hB];apply Z;refine zr q26_1 fun _ _ Z=>?_;simp(disch:=omega)[lH,eZ,fE,aB,aA,hA,hB];apply Z;apply aE;refine iO 0 2 rfl (by decide) fun cap rest hcap hcm hrest hk0 hes=>?_;subst hrest;simp only [bQ] at hcap |-;rw [cT (f:=cA) (fun _=>rfl)];refine iO 1 2 rfl (by decide) fun cap2 rest hcap2 hcm2 hrest hk02 hes2=>?_;subst hrest;simp only [bQ] at hcap2 |-;rw [cT (f:=cA) (fun _=>rfl)];simp only [bW,aQ,aP,aY,bT,dD,Nat.reduceAdd];refine zr q26_1 fun _ _ Z=>?_;simp(disch:=omega)[lH,eZ,fE,aB,aA,hA,hB];and_intros<;>(try omega);apply Z;apply aR;refine zk [0,1,4,5,18,19,20] ?_;refine bA (fun(k:Nat)=> [(20,.d (.v (.int .i64 (k:Int)))),(5,.d (.sl true ((uT nA zU (A.take k) B).map Qf))),(7,.d (.any)),(8,.d (.any)),(9,.d (.any))]) [5,7,8,9,20,21,22,23,24,25,26,27,28,29,30,31,32,33,34,35,36,37,38,39] (fun(k:Nat)=>k<=A.length) (fun(k:Nat)=>A.length - k) (0) (by simp <;> rfl) ?_ ?_ ?_
 .simp [uT]
 .simp
 rintro k hk;simp only [aQ,aP];have hdl:=xD nA zU (A.take k) B;simp only [bG] at hdl;refine zr q26_1 fun _ _ Z=>?_;simp(disch:=omega)[lH,eZ,fE,aB,aA,hA,hB];apply Z;apply aE;refine zI ?_ ?_<;>intro c1<;>try simp at c1
 .apply kP;refine zr q26_1 fun _ _ Z=>?_;simp(disch:=omega)[lH,eZ,fE,aB,aA,hA,hB];and_intros<;>(try omega);apply Z;refine zk [0,1,4,5,7,8,9,18,19,20] ?_;refine zr q26_1 fun _ _ Z=>?_;refine zs 3 fun _ Y=>?_;simp(disch:=omega)[lH,eZ,fE,aB,aA,hA,hB];apply Y;refine aF fun _ Y=>?_;simp(disch:=omega)[lH,eZ,fE,aB,aA,hA,hB];refine cU (Rz (σ.length+1) cap2 B _ A[k].name _ (by omega) (by simp [lH];rfl) hBs) ?_;apply Y;simp(disch:=omega)[lH,eZ,fE,aB,aA,hA,hB];apply Z;refine zk [0,1,4,5,7,8,9,18,19,20] ?_;refine zr q26_1 fun _ _ Z=>?_;simp(disch:=omega)[lH,eZ,fE,aB,aA,hA,hB];apply Z;refine zI ?_ ?_<;>intro c2<;>try simp at c2
  .have hds:uT nA zU (A.take (k+1)) B=uT nA zU (A.take k) B++ [⟨true,A[k].name,⟨#[]⟩⟩]:=Tj c1 (by simpa using c2);refine zk [0,1,4,5,7,8,9,18,19,20] ?_;refine zt q26_1 fun _ _ Z=>?_;simp(disch:=omega)[lH,eZ,fE,aB,aA,hA,hB];and_intros<;>(try omega);apply Z;apply zB;refine zk [0,1,4,5,7,8,9,18,19,20] ?_;refine zt q26_1 fun _ _ Z=>?_;simp(disch:=omega)[lH,eZ,fE,aB,aA,hA,hB];and_intros<;>(try omega);apply Z;refine zq (k+1) ?_ ?_ ?_
   .omega
   .try dsimp only
    omega
   simp(disch:=omega)[lH,eZ,fE,aB,aA,hds,hA,hB]
  have hds:=aAx (nm:=nA) (mk:=zU) (B:=B) c1 (by simpa using c2);apply nS;refine zk [0,1,4,5,7,8,9,18,19,20] ?_;refine zt q26_1 fun _ _ Z=>?_;simp(disch:=omega)[lH,eZ,fE,aB,aA,hA,hB];and_intros<;>(try omega);apply Z;refine zq (k+1) ?_ ?_ ?_
  .omega
  .try dsimp only
   omega
  simp(disch:=omega)[lH,eZ,fE,aB,aA,hds,hA,hB]
 obtain rfl:k=A.length:=by omega
 simp only [eP];apply zE;apply aE;refine zr q26_1 fun _ _ Z=>?_;simp(disch:=omega)[lH,eZ,fE,aB,aA,hA,hB];and_intros<;>(try omega);apply Z;apply aR;refine zk [0,4,5,40,41,42] ?_;refine bA (fun(j:Nat)=> [(42,.d (.v (.int .i64 (j:Int)))),(5,.d (.sl true ((uT nA zU A B++sZ nA zU A (B.take j)).map Qf))),(11,.d (.any)),(12,.d (.any)),(13,.d (.any))]) [5,11,12,13,42,43,44,45,46,47,48,49,50,51,52,53,54,55,56,57,58,59,60,61,62,63,64,65,66,67,68,69,70,71] (fun(j:Nat)=>j<=B.length) (fun(j:Nat)=>B.length - j) (0) (by simp <;> rfl) ?_ ?_ ?_
 .simp [sZ]
 .simp
 rintro j hj;simp only [aQ,aP];have hdl:=xD nA zU A B;have hsl:=Lb nA zU A (B.take j);simp only [bG] at hsl;refine zr q26_1 fun _ _ Z=>?_;simp(disch:=omega)[lH,eZ,fE,aB,aA,hA,hB];apply Z;apply aE;refine zI ?_ ?_<;>intro c3<;>try simp at c3
 .apply kP;refine zr q26_1 fun _ _ Z=>?_;simp(disch:=omega)[lH,eZ,fE,aB,aA,hA,hB];and_intros<;>(try omega);apply Z;refine zk [0,4,5,11,12,13,40,41,42] ?_;refine zr q26_1 fun _ _ Z=>?_;refine zs 3 fun _ Y=>?_;simp(disch:=omega)[lH,eZ,fE,aB,aA,hA,hB];apply Y;refine aF fun _ Y=>?_;simp(disch:=omega)[lH,eZ,fE,aB,aA,hA,hB];refine cU (Rz σ.length cap A _ B[j].name _ (by omega) (by simp [eZ];rfl) hAs) ?_;apply Y;simp(disch:=omega)[lH,eZ,fE,aB,aA,hA,hB];apply Z;refine zk [0,4,5,11,12,13,40,41,42] ?_;refine zd q26_1 [.op {},.op {},.op {},.op {},.op {},.op {},.op {rO:=true},.op {rL:=true},.op {},.op {}] fun all hall _ Z=>?_;have ga2:aO all 2=some 55:=hall 2;refine lN 3 fun _ Y=>?_;simp(disch:=omega)[lH,eZ,fE,aB,aA,ga2,hA,hB];apply Y;refine zbD 55 ?_ ?_<;>intro g4<;>try simp at g4
  .have hss:sZ nA zU A (B.take (j+1))=sZ nA zU A (B.take j)++ [⟨false,B[j].name,B[j].value⟩]:=Bh c3 (by unfold xG;simp [g4]);simp(disch:=omega)[lH,eZ,fE,aB,aA,ga2,hA,hB];apply Z;refine aZ (t:=true) (by simp) (fun _=>?_) (fun h=>by cases h);refine zk [0,4,5,11,12,13,40,41,42] ?_;refine zt q26_1 fun _ _ Z=>?_;refine zs 8 fun _ Y=>?_;simp(disch:=omega)[lH,eZ,fE,aB,aA,hA,hB];and_intros<;>(try omega);apply Y;simp(disch:=omega)[lH,eZ,fE,aB,aA,hA,hB];apply Z;apply zB;refine zk [0,4,5,11,12,13,40,41,42] ?_;refine zt q26_1 fun _ _ Z=>?_;simp(disch:=omega)[lH,eZ,fE,aB,aA,hA,hB];and_intros<;>(try omega);apply Z;refine zq (j+1) ?_ ?_ ?_
   .omega
   .try dsimp only
    omega
   simp(disch:=omega)[lH,eZ,fE,aB,aA,hss,hA,hB]
  have hlt:=Ae nA g4;simp(disch:=omega)[lH,eZ,fE,aB,aA,ga2,hA,hB];and_intros<;>(try omega);apply Z;refine zI ?_ ?_<;>intro c5<;>try simp at c5
  .have hss:sZ nA zU A (B.take (j+1))=sZ nA zU A (B.take j)++ [⟨false,B[j].name,B[j].value⟩]:=Bh c3 (by unfold xG;rw [g4,aS hlt];simp only [nG,fM,bE];intro e;rw [e] at c5;simp at c5);refine zk [0,4,5,11,12,13,40,41,42] ?_;refine zt q26_1 fun _ _ Z=>?_;refine zs 8 fun _ Y=>?_;simp(disch:=omega)[lH,eZ,fE,aB,aA,hA,hB];and_intros<;>(try omega);apply Y;simp(disch:=omega)[lH,eZ,fE,aB,aA,hA,hB];apply Z;apply zB;refine zk [0,4,5,11,12,13,40,41,42] ?_;refine zt q26_1 fun _ _ Z=>?_;simp(disch:=omega)[lH,eZ,fE,aB,aA,hA,hB];and_intros<;>(try omega);apply Z;refine zq (j+1) ?_ ?_ ?_
   .omega
   .try dsimp only
    omega
   simp(disch:=omega)[lH,eZ,fE,aB,aA,hss,hA,hB]
  have hss:=aBh (nm:=nA) (mk:=zU) c3 (by unfold xG;rw [g4,aS hlt];simp only [nG,fM,bE];generalize A[lE nA A B[j].name]=x at c5 |-;generalize B[j]=y at c5 |-;cases x;cases y;simpa using c5);apply nS;refine zk [0,4,5,11,12,13,40,41,42] ?_;refine zt q26_1 fun _ _ Z=>?_;simp(disch:=omega)[lH,eZ,fE,aB,aA,hA,hB];and_intros<;>(try omega);apply Z;refine zq (j+1) ?_ ?_ ?_
  .omega
  .try dsimp only
   omega
  simp(disch:=omega)[lH,eZ,fE,aB,aA,hss,hA,hB]
 obtain rfl:j=B.length:=by omega
 simp only [eP];apply zE;refine zr q26_1 fun _ _ Z=>?_;simp(disch:=omega)[lH,eZ,fE,aB,aA,hA,hB];apply Z;apply aC;simp [aH,jF,hA,hB]
theorem aFs(a b:List PI)(σ:List (List D))(ha:a.length<=99999)(hb:b.length<=99999):Ct prog 124 [.sl false (a.map cQ),.sl false (b.map cQ)] σ (fun r σ'=>r= .sl true ((jF nP Cm a b).map Sf)/\∃J,σ'=σ++J):=by
 refine zf func124 ?_;obtain⟨A,hA⟩:∃A,iB nP a=A:=⟨_,rfl⟩;obtain⟨B,hB⟩:∃B,iB nP b=B:=⟨_,rfl⟩;have hAl:A.length<=99999:=by rw [<- hA];have:=jC nP a;omega
 have hBl:B.length<=99999:=by rw [<- hB];have:=jC nP b;omega
 have hAs:Sorted nP A:=by rw [<- hA];exact gK nP a
 have hBs:Sorted nP B:=by rw [<- hB];exact gK nP b
 refine zr q26_1 fun _ _ Z=>?_;simp(disch:=omega)[lH,eZ,fE,aB,aA,hA,hB];apply Z;refine zr q26_1 fun _ _ Z=>?_;refine zs 1 fun _ Y=>?_;simp(disch:=omega)[lH,eZ,fE,aB,aA,hA,hB];apply Y;refine aF fun _ Y=>?_;simp(disch:=omega)[lH,eZ,fE,aB,aA,hA,hB];refine cU (Ev a _ (by omega)) ?_;apply Y;refine zs 1 fun _ Y=>?_;simp(disch:=omega)[lH,eZ,fE,aB,aA,hA,hB];apply Y;refine aF fun _ Y=>?_;simp(disch:=omega)[lH,eZ,fE,aB,aA,hA,hB];refine cU (Ev b _ (by omega)) ?_;apply Y;simp(disch:=omega)[lH,eZ,fE,aB,aA,hA,hB];apply Z;refine zr q26_1 fun _ _ Z=>?_;simp(disch:=omega)[lH,eZ,fE,aB,aA,hA,hB];apply Z;apply aE;refine iO 0 2 rfl (by decide) fun cap rest hcap hcm hrest hk0 hes=>?_;subst hrest;simp only [bQ] at hcap |-;rw [cT (f:=cP) (fun _=>rfl)];refine iO 1 2 rfl (by decide) fun cap2 rest hcap2 hcm2 hrest hk02 hes2=>?_;subst hrest;simp only [bQ] at hcap2 |-;rw [cT (f:=cP) (fun _=>rfl)];simp only [bW,aQ,aP,aY,bT,dD,Nat.reduceAdd];refine zr q26_1 fun _ _ Z=>?_;simp(disch:=omega)[lH,eZ,fE,aB,aA,hA,hB];and_intros<;>(try omega);apply Z;apply aR;refine zk [0,1,4,5,18,19,20] ?_;refine bA (fun(k:Nat)=> [(20,.d (.v (.int .i64 (k:Int)))),(5,.d (.sl true ((uT nP Cm (A.take k) B).map Sf))),(7,.d (.any)),(8,.d (.any)),(9,.d (.any))]) [5,7,8,9,20,21,22,23,24,25,26,27,28,29,30,31,32,33,34,35,36,37,38,39] (fun(k:Nat)=>k<=A.length) (fun(k:Nat)=>A.length - k) (0) (by simp <;> rfl) ?_ ?_ ?_
 .simp [uT]
 .simp
 rintro k hk;simp only [aQ,aP];have hdl:=xD nP Cm (A.take k) B;simp only [bG] at hdl;refine zr q26_1 fun _ _ Z=>?_;simp(disch:=omega)[lH,eZ,fE,aB,aA,hA,hB];apply Z;apply aE;refine zI ?_ ?_<;>intro c1<;>try simp at c1
 .apply kP;refine zr q26_1 fun _ _ Z=>?_;simp(disch:=omega)[lH,eZ,fE,aB,aA,hA,hB];and_intros<;>(try omega);apply Z;refine zk [0,1,4,5,7,8,9,18,19,20] ?_;refine zr q26_1 fun _ _ Z=>?_;refine zs 3 fun _ Y=>?_;simp(disch:=omega)[lH,eZ,fE,aB,aA,hA,hB];apply Y;refine aF fun _ Y=>?_;simp(disch:=omega)[lH,eZ,fE,aB,aA,hA,hB];refine cU (Ri (σ.length+1) cap2 B _ A[k].name _ (by omega) (by simp [lH];rfl) hBs) ?_;apply Y;simp(disch:=omega)[lH,eZ,fE,aB,aA,hA,hB];apply Z;refine zk [0,1,4,5,7,8,9,18,19,20] ?_;refine zr q26_1 fun _ _ Z=>?_;simp(disch:=omega)[lH,eZ,fE,aB,aA,hA,hB];apply Z;refine zI ?_ ?_<;>intro c2<;>try simp at c2
  .have hds:uT nP Cm (A.take (k+1)) B=uT nP Cm (A.take k) B++ [⟨true,A[k].name,0⟩]:=Tj c1 (by simpa using c2);refine zk [0,1,4,5,7,8,9,18,19,20] ?_;refine zt q26_1 fun _ _ Z=>?_;simp(disch:=omega)[lH,eZ,fE,aB,aA,hA,hB];and_intros<;>(try omega);apply Z;apply zB;refine zk [0,1,4,5,7,8,9,18,19,20] ?_;refine zt q26_1 fun _ _ Z=>?_;simp(disch:=omega)[lH,eZ,fE,aB,aA,hA,hB];and_intros<;>(try omega);apply Z;refine zq (k+1) ?_ ?_ ?_
   .omega
   .try dsimp only
    omega
   simp(disch:=omega)[lH,eZ,fE,aB,aA,hds,hA,hB]
  have hds:=aAx (nm:=nP) (mk:=Cm) (B:=B) c1 (by simpa using c2);apply nS;refine zk [0,1,4,5,7,8,9,18,19,20] ?_;refine zt q26_1 fun _ _ Z=>?_;simp(disch:=omega)[lH,eZ,fE,aB,aA,hA,hB];and_intros<;>(try omega);apply Z;refine zq (k+1) ?_ ?_ ?_
  .omega
  .try dsimp only
   omega
  simp(disch:=omega)[lH,eZ,fE,aB,aA,hds,hA,hB]
 obtain rfl:k=A.length:=by omega
 simp only [eP];apply zE;apply aE;refine zr q26_1 fun _ _ Z=>?_;simp(disch:=omega)[lH,eZ,fE,aB,aA,hA,hB];and_intros<;>(try omega);apply Z;apply aR;refine zk [0,4,5,40,41,42] ?_;refine bA (fun(j:Nat)=> [(42,.d (.v (.int .i64 (j:Int)))),(5,.d (.sl true ((uT nP Cm A B++sZ nP Cm A (B.take j)).map Sf))),(11,.d (.any)),(12,.d (.any)),(13,.d (.any))]) [5,11,12,13,42,43,44,45,46,47,48,49,50,51,52,53,54,55,56,57,58,59,60,61,62,63,64,65,66,67,68,69,70,71] (fun(j:Nat)=>j<=B.length) (fun(j:Nat)=>B.length - j) (0) (by simp <;> rfl) ?_ ?_ ?_
 .simp [sZ]
 .simp
 rintro j hj;simp only [aQ,aP];have hdl:=xD nP Cm A B;have hsl:=Lb nP Cm A (B.take j);simp only [bG] at hsl;refine zr q26_1 fun _ _ Z=>?_;simp(disch:=omega)[lH,eZ,fE,aB,aA,hA,hB];apply Z;apply aE;refine zI ?_ ?_<;>intro c3<;>try simp at c3
 .apply kP;refine zr q26_1 fun _ _ Z=>?_;simp(disch:=omega)[lH,eZ,fE,aB,aA,hA,hB];and_intros<;>(try omega);apply Z;refine zk [0,4,5,11,12,13,40,41,42] ?_;refine zr q26_1 fun _ _ Z=>?_;refine zs 3 fun _ Y=>?_;simp(disch:=omega)[lH,eZ,fE,aB,aA,hA,hB];apply Y;refine aF fun _ Y=>?_;simp(disch:=omega)[lH,eZ,fE,aB,aA,hA,hB];refine cU (Ri σ.length cap A _ B[j].name _ (by omega) (by simp [eZ];rfl) hAs) ?_;apply Y;simp(disch:=omega)[lH,eZ,fE,aB,aA,hA,hB];apply Z;refine zk [0,4,5,11,12,13,40,41,42] ?_;refine zd q26_1 [.op {},.op {},.op {},.op {},.op {},.op {},.op {rO:=true},.op {rL:=true},.op {},.op {}] fun all hall _ Z=>?_;have ga2:aO all 2=some 55:=hall 2;refine lN 3 fun _ Y=>?_;simp(disch:=omega)[lH,eZ,fE,aB,aA,ga2,hA,hB];apply Y;refine zbD 55 ?_ ?_<;>intro g4<;>try simp at g4
  .have hss:sZ nP Cm A (B.take (j+1))=sZ nP Cm A (B.take j)++ [⟨false,B[j].name,B[j].value⟩]:=Bh c3 (by unfold xG;simp [g4]);simp(disch:=omega)[lH,eZ,fE,aB,aA,ga2,hA,hB];apply Z;refine aZ (t:=true) (by simp) (fun _=>?_) (fun h=>by cases h);refine zk [0,4,5,11,12,13,40,41,42] ?_;refine zt q26_1 fun _ _ Z=>?_;refine zs 8 fun _ Y=>?_;simp(disch:=omega)[lH,eZ,fE,aB,aA,hA,hB];and_intros<;>(try omega);apply Y;simp(disch:=omega)[lH,eZ,fE,aB,aA,hA,hB];apply Z;apply zB;refine zk [0,4,5,11,12,13,40,41,42] ?_;refine zt q26_1 fun _ _ Z=>?_;simp(disch:=omega)[lH,eZ,fE,aB,aA,hA,hB];and_intros<;>(try omega);apply Z;refine zq (j+1) ?_ ?_ ?_
   .omega
   .try dsimp only
    omega
   simp(disch:=omega)[lH,eZ,fE,aB,aA,hss,hA,hB]
  have hlt:=Ae nP g4;simp(disch:=omega)[lH,eZ,fE,aB,aA,ga2,hA,hB];and_intros<;>(try omega);apply Z;refine zI ?_ ?_<;>intro c5<;>try simp at c5
  .have hss:sZ nP Cm A (B.take (j+1))=sZ nP Cm A (B.take j)++ [⟨false,B[j].name,B[j].value⟩]:=Bh c3 (by unfold xG;rw [g4,aS hlt];simp only [nG,fM,bE];intro e;rw [e] at c5;simp at c5);refine zk [0,4,5,11,12,13,40,41,42] ?_;refine zt q26_1 fun _ _ Z=>?_;refine zs 8 fun _ Y=>?_;simp(disch:=omega)[lH,eZ,fE,aB,aA,hA,hB];and_intros<;>(try omega);apply Y;simp(disch:=omega)[lH,eZ,fE,aB,aA,hA,hB];apply Z;apply zB;refine zk [0,4,5,11,12,13,40,41,42] ?_;refine zt q26_1 fun _ _ Z=>?_;simp(disch:=omega)[lH,eZ,fE,aB,aA,hA,hB];and_intros<;>(try omega);apply Z;refine zq (j+1) ?_ ?_ ?_
   .omega
   .try dsimp only
    omega
   simp(disch:=omega)[lH,eZ,fE,aB,aA,hss,hA,hB]
  have hss:=aBh (nm:=nP) (mk:=Cm) c3 (by unfold xG;rw [g4,aS hlt];simp only [nG,fM,bE];generalize A[lE nP A B[j].name]=x at c5 |-;generalize B[j]=y at c5 |-;cases x;cases y;simpa using c5);apply nS;refine zk [0,4,5,11,12,13,40,41,42] ?_;refine zt q26_1 fun _ _ Z=>?_;simp(disch:=omega)[lH,eZ,fE,aB,aA,hA,hB];and_intros<;>(try omega);apply Z;refine zq (j+1) ?_ ?_ ?_
  .omega
  .try dsimp only
   omega
  simp(disch:=omega)[lH,eZ,fE,aB,aA,hss,hA,hB]
 obtain rfl:j=B.length:=by omega
 simp only [eP];apply zE;refine zr q26_1 fun _ _ Z=>?_;simp(disch:=omega)[lH,eZ,fE,aB,aA,hA,hB];apply Z;apply aC;simp [aH,jF,hA,hB]
structure WD(d:DS)(bel:Int->List Int)(rk:Int->Nat):Prop where
 nb:NB d.l
 ids:∀e∈d.es,aI d.l e.n.ID=e.n
 tr:Tr d.l bel rk
 kids:∀e∈d.es,∀k∈e.n.kids,fO d.l k=true
theorem DO.lt (h:DO m M d σ) {e:EN} (he:e∈d.es):e.o<σ.length:=nX (h.hn e he)
theorem DO.app (h:DO m M d σ)(J:List (List D)):DO m M d (σ++J):=
 ⟨eX h.hm J,fun e he=>eX (h.hn e he) J,h.nm,h.nd,by rw [aY];have:=h.hM;omega⟩
theorem EF.of {q:Nat} (h:DO m M d σ)(hw:WD d bel rk)(hq:σ.length<=q):EF m q d bel rk:=
 ⟨by have:=nX h.hm;omega,fun e he=>by have:=h.lt he;omega,h.nm,h.nd,hw.nb,hw.ids,hw.tr,hw.kids⟩
theorem EO.of (h:DO m M d σ)(hw:WD d bel rk)(id:Int):EO m M σ.length d bel id [] (σ++ [[.xs 1 []]]):=
 ⟨eX h.hm _,fun i _ e he _=>eX (h.hn e he) _,by simp,by have:=hw.tr.len id;simp;omega⟩
structure WP(d:DS):Prop where
 par:∀e∈d.es,e.n.parent= -1\/∃p∈d.es,p.n.ID=e.n.parent/\p.o≠e.o
 nn:∀e∈d.es,0<=e.n.ID
structure WT(l:List ND)(rk:Int->Nat):Prop where
 nd:(l.map ND.ID).Nodup
 kids:∀n∈l,∀k∈n.kids,∃c∈l,c.ID=k/\c.parent=n.ID
 par:∀n∈l,n.parent= -1\/∃p∈l,p.ID=n.parent/\n.ID∈p.kids
 nn:∀n∈l,0<=n.ID
 kn:∀n∈l,n.kids.Nodup
 dec:∀n∈l,∀k∈n.kids,rk k<rk n.ID
def Cn:Nat->List ND->Int->List Int
 | 0,_,id=> [id]
 | f+1,l,id=>id::(aI l id).kids.flatMap (Cn f l)
def dS(l:List ND)(rk:Int->Nat)(id:Int):List Int:=Cn (rk id) l id
theorem mF (h:(l.map ND.ID).Nodup) {a b:ND} (ha:a∈l)(hb:b∈l)(e:a.ID=b.ID):a=b:=by
 obtain⟨i,hi,rfl⟩:=jA ha;obtain⟨j,hj,rfl⟩:=jA hb;have hp:=qP.1 h;rcases tV i j with h1 | rfl | h1
 .exact absurd e (by have:=hp i j (by simpa using hi) (by simpa using hj) h1;rwa [kE,kE] at this)
 .rfl
 exact absurd e.symm (by have:=hp j i (by simpa using hj) (by simpa using hi) h1;rwa [kE,kE] at this)
theorem Kz (h:(l.map ND.ID).Nodup) (hn:n∈l):kJ l n.ID=some n:=by
 cases e:kJ l n.ID with
 | none=>
  unfold kJ at e;rw [oU] at e;exact absurd (by simp:decide (n.ID=n.ID)=true) (e n hn)
 | some m=>
  obtain⟨h1,h2⟩:=oI e;rw [mF h h1 hn h2]
theorem qV (h:(l.map ND.ID).Nodup) (hn:n∈l):aI l n.ID=n:=by unfold aI;rw [Kz h hn];rfl
theorem aP4 (h:(l.map ND.ID).Nodup) (hn:n∈l):fO l n.ID=true:=by unfold fO;rw [Kz h hn];rfl
theorem eV {id:Int} (h:fO l id=true):∃n∈l,n.ID=id/\aI l id=n:=by
 unfold fO at h;cases hq:kJ l id with
 | none=>rw [hq] at h;cases h
 | some n=>obtain⟨h1,h2⟩:=oI hq;exact⟨n,h1,h2,by unfold aI;rw [hq];rfl⟩
theorem kR {id:Int} (h:fO l id=false):aI l id=So:=by
 unfold aI;unfold fO at h;cases hq:kJ l id with
 | none=>rfl
 | some n=>rw [hq] at h;cases h
theorem qU {id:Int} :fO l id=true↔∃n∈l,n.ID=id:=by
 constructor
 .intro h;obtain⟨n,h1,h2,_⟩:=eV h;exact⟨n,h1,h2⟩
 rintro⟨n,h1,rfl⟩;cases h:fO l n.ID with
 | true=>rfl
 | false=>exact absurd rfl (zJ h n h1)
def Dec(l:List ND)(rk:Int->Nat):Prop:=∀id,∀k∈(aI l id).kids,rk k<rk id
theorem WT.Dec (h:WT l rk):Dec l rk:=fun id k hk=>by
 cases hl:fO l id with
 | false=>rw [kR hl] at hk;cases hk
 | true=>
  obtain⟨n,h1,h2,h3⟩:=eV hl;rw [h3] at hk;rw [<- h2];exact h.dec n h1 k hk
theorem mQ {l:List α} {f g:α->List β} (h:∀a∈l,f a=g a):l.flatMap f=l.flatMap g:=by
 induction l with
 | nil=>rfl
 | cons a l ih=>rw [gD,gD,h a (by simp),ih fun b hb=>h b (by simp [hb])]
theorem Dec.nil (hd:Dec l rk) {id:Int} (h:rk id=0):(aI l id).kids= []:=
 Dq.2 fun k hk=>by have:=hd id k hk;omega
theorem Se (hd:Dec l rk):∀(f g:Nat) (id:Int),rk id<=f->rk id<=g->Cn f l id=Cn g l id
 | 0,0,id,_,_=>rfl
 | 0,g+1,id,h,_=>by simp [Cn,hd.nil (show rk id=0 by omega)]
 | f+1,0,id,_,h=>by simp [Cn,hd.nil (show rk id=0 by omega)]
 | f+1,g+1,id,h1,h2=>by
  simp only [Cn];congr 1;exact mQ fun k hk=>Se hd f g k (by have:=hd id k hk;omega) (by have:=hd id k hk;omega)
theorem jU (hd:Dec l rk)(id:Int):dS l rk id=id::(aI l id).kids.flatMap (dS l rk):=by
 unfold dS;rw [Se hd (rk id) (rk id+1) id (aV _) (by omega)];simp only [Cn];congr 1;exact mQ fun k hk=>Se hd (rk id) (rk k) k (by have:=hd id k hk;omega) (aV _)
theorem mY (hd:Dec l rk)(id:Int):id∈dS l rk id:=by rw [jU hd];exact dY
theorem Rn (hd:Dec l rk) {id k:Int} (hk:k∈(aI l id).kids)(hi:i∈dS l rk k):i∈dS l rk id:=by
 rw [jU hd];exact fW _ (lU.2 ⟨k,hk,hi⟩)
theorem uJ (hd:Dec l rk) {id:Int} (h:i∈dS l rk id):i=id\/∃k∈(aI l id).kids,i∈dS l rk k:=by
 rw [jU hd] at h;rcases bN.1 h with h | h
 .exact .inl h
 obtain⟨k,h1,h2⟩:=lU.1 h;exact .inr ⟨k,h1,h2⟩
theorem aS5 (hd:Dec l rk):∀(n:Nat) (id:Int),rk id<=n->∀i∈dS l rk id,rk i<=rk id:=by
 intro n;induction n with
 | zero=>
  intro id hn i hi;rcases uJ hd hi with rfl | ⟨k,hk,_⟩
  .exact aV _
  have:=hd id k hk;omega
 | succ n ih=>
  intro id hn i hi;rcases uJ hd hi with rfl | ⟨k,hk,hik⟩
  .exact aV _
  have h1:=hd id k hk;have:=ih k (by omega) i hik;omega
theorem Rf (hd:Dec l rk) {id:Int} (h:i∈dS l rk id):rk i<=rk id:=aS5 hd (rk id) id (aV _) i h
theorem aE6 (hd:Dec l rk) {a:Int} (hab:a∈dS l rk b):∀ {c:Int},b∈dS l rk c->a∈dS l rk c:=by
 intro c;generalize hn:rk c=n;induction n using Nat.strongRecOn generalizing c with
 | _ n ih=>
  intro hbc;rcases uJ hd hbc with rfl | ⟨k,hk,hik⟩
  .exact hab
  have h1:=hd c k hk;exact Rn hd hk (ih (rk k) (by omega) rfl hik)
theorem Ai(h:WT l rk) (hn:n∈l) (hb:n.ID∈dS l rk b):n.ID=b\/∃p∈l,p.ID=n.parent/\n.ID∈p.kids/\p.ID∈dS l rk b:=by
 have hd:=h.Dec;generalize hm:rk b=m;induction m using Nat.strongRecOn generalizing b with
 | _ m ih =>
  rcases uJ hd hb with e | ⟨k,hk,hik⟩
  .exact .inl e
  have h1:=hd b k hk;have hlb:fO l b=true:=by
   cases hl:fO l b with
   | true=>rfl
   | false=>rw [kR hl] at hk;cases hk
  obtain⟨q,q1,q2,q3⟩:=eV hlb;rw [q3] at hk;rcases ih (rk k) (by omega) hik rfl with e | ⟨p,p1,p2,p3,p4⟩
  .obtain⟨c,c1,c2,c3⟩:=h.kids q q1 k hk;have:c=n:=mF h.nd c1 hn (by rw [c2,e]);subst this;refine .inr ⟨q,q1,c3.symm,by rw [e];exact hk,by rw [q2];exact mY hd b⟩
  exact .inr ⟨p,p1,p2,p3,Rn hd (by rw [q3];exact hk) p4⟩
theorem Km(h:WT l rk) {p:ND} (hp:p∈l) {k:Int} (hk:k∈p.kids)(hb:p.ID∈dS l rk b):k∈dS l rk b:=
 aE6 h.Dec (Rn h.Dec (by rw [qV h.nd hp];exact hk) (mY h.Dec k)) hb
theorem aA0(h:WT l rk) (hb:fO l b=true)(hi:i∈dS l rk b):fO l i=true:=by
 have hd:=h.Dec;generalize hm:rk b=m;induction m using Nat.strongRecOn generalizing b with
 | _ m ih=>
  rcases uJ hd hi with rfl | ⟨k,hk,hik⟩
  .exact hb
  have h1:=hd b k hk;obtain⟨q,q1,q2,q3⟩:=eV hb;rw [q3] at hk;obtain⟨c,c1,c2,_⟩:=h.kids q q1 k hk;exact ih (rk k) (by omega) (qU.2 ⟨c,c1,c2⟩) hik rfl
theorem aDg(h:WT l rk) {a:Int} :∀ {n:ND},n∈l->n.ID∈dS l rk a->n.ID∈dS l rk b->a∈dS l rk b\/b∈dS l rk a:=by
 intro n;have hd:=h.Dec;generalize hm:rk a - rk n.ID=m;induction m using Nat.strongRecOn generalizing n with
 | _ m ih=>
  intro hn ha hb;rcases Ai h hn ha with e | ⟨p,p1,p2,p3,p4⟩
  .left;rw [<- e];exact hb
  rcases Ai h hn hb with e | ⟨q,q1,q2,q3,q4⟩
  .right;rw [<- e];exact ha
  have:p=q:=mF h.nd p1 q1 (by rw [p2,q2]);subst this;have h1:=h.dec p p1 _ p3;have h2:=Rf hd p4;exact ih (rk a - rk p.ID) (by omega) rfl p1 p4 q4
theorem aD1(h:WT l rk):∀ {b:Int},(dS l rk b).Nodup:=by
 intro b;have hd:=h.Dec;generalize hm:rk b=m;induction m using Nat.strongRecOn generalizing b with
 | _ m ih =>
  rw [jU hd];refine gW.2 ⟨fun hi=>?_,?_⟩
  .obtain⟨k,hk,hik⟩:=lU.1 hi;have h1:=hd b k hk;have h2:=Rf hd hik;omega
  cases hl:fO l b with
  | false=>rw [kR hl];simp [So]
  | true =>
   obtain⟨q,q1,q2,q3⟩:=eV hl;rw [q3];have key:∀K:List Int,K.Nodup->(∀k∈K,k∈q.kids)->(K.flatMap (dS l rk)).Nodup:=by
    intro K;induction K with
    | nil=>intro _ _;simp
    | cons k K ihK =>
     intro hK hsub;have hK':=gW.1 hK;rw [gD,mB];have hk1:=h.dec q q1 k (hsub k (by simp));refine⟨ih (rk k) (by rw [q2] at hk1;omega) rfl,ihK hK'.2 fun j hj=>hsub j (by simp [hj]),fun i hi j hj hij=>?_⟩;subst hij;obtain⟨k2,hk2,hik2⟩:=lU.1 hj;have hne:k≠k2:=fun e=>hK'.1 (e ▸ hk2);have hk2q:=hsub k2 (by simp [hk2]);obtain⟨c,c1,c2,c3⟩:=h.kids q q1 k (hsub k (by simp));obtain⟨c',d1,d2,d3⟩:=h.kids q q1 k2 hk2q;have hisL:fO l i=true:=aA0 h (qU.2 ⟨c,c1,c2⟩) hi;obtain⟨n,n1,n2,_⟩:=eV hisL;have hk2':=h.dec q q1 k2 hk2q;rcases aDg h n1 (by rw [n2];exact hi) (by rw [n2];exact hik2)with hc | hc
     .rcases Ai h c1 (by rw [c2];exact hc)with e | ⟨p,p1,p2,p3,p4⟩
      .exact hne (by rw [<- c2,e])
      have:p=q:=mF h.nd p1 q1 (by rw [p2,c3]);subst this;have:=Rf hd p4;omega
     rcases Ai h d1 (by rw [d2];exact hc)with e | ⟨p,p1,p2,p3,p4⟩
     .exact hne (by rw [<- d2,e])
     have:p=q:=mF h.nd p1 q1 (by rw [p2,d3]);subst this;have:=Rf hd p4;omega
   exact key q.kids (h.kn q q1) fun k hk=>hk
theorem Od {α:Type} [DecidableEq α]:∀ {a b:List α},a.Nodup->(∀x∈a,x∈b)->a.length<=b.length
 | [],b,_,_=>iI _
 | x::a,b,hn,hs=>by
  have hn':=gW.1 hn;have hx:=hs x (by simp);have:=Od (a:=a) (b:=b.erase x) hn'.2 fun y hy=>(List.mem_erase_of_ne (by rintro rfl;exact hn'.1 hy)).2 (hs y (by simp [hy]));rw [Nf hx] at this;have:=List.length_pos_of_mem hx;simp only [bT];omega
theorem aBl(h:WT l rk)(b:Int):(dS l rk b).length<=l.length+1:=by
 cases hl:fO l b with
 | false=>rw [jU h.Dec,kR hl];simp [So]
 | true =>
  have:(dS l rk b).length<=(l.map ND.ID).length:=Od (aD1 h) fun i hi=>by
   obtain⟨n,n1,n2,_⟩:=eV (aA0 h hl hi);rw [<- n2];exact aX.2 ⟨n,n1,rfl⟩
  simpa using Nat.le_succ_of_le this
theorem WT.Tr(h:WT l rk)(hl:l.length<=1000):Tr l (dS l rk) rk:=
 ⟨jU h.Dec,h.Dec,fun id=>by have:=aBl h id;omega⟩
variable {d:DS}{e:EN}{rk:Int->Nat}
def pD:Option EN->D
 | some e=> .ref e.o 0
 | none=> .v (.pointer none)
theorem lL(e:EN):pD (some e)= .ref e.o 0:=rfl
theorem mI:pD none= .v (.pointer none):=rfl
@[simp] theorem kK(s:Option EN):(pD s).plain=true:=by cases s <;> rfl
@[simp] theorem kL(s:Option EN):(pD s).strip=pD s:=by cases s <;> rfl
@[simp] theorem aYn(s:Option EN):(pD s).s2=pD s:=by cases s <;> rfl
@[simp] theorem aYh(s:Option EN):(pD s).s1=pD s:=by cases s <;> rfl
def nx(d:DS)(id:Int):Option EN:=d.es.find? fun e=>decide (e.n.ID=id)
theorem aAz {id:Int} {p:EN} (h:nx d id=some p):p∈d.es/\p.n.ID=id:=by
 unfold nx at h;exact⟨Ft h,by simpa using List.find?_some h⟩
theorem aBi {id:Int} (h:nx d id=none):∀n∈d.l,n.ID≠id:=by
 intro n hn e;obtain⟨x,hx,rfl⟩:=aX.1 hn;unfold nx at h;rw [oU] at h;exact h x hx (by simpa using e)
theorem aL2(d:DS)(id:Int):Yi (d.es.map kvE) (.int .i64 id) (D.v (.pointer none)) (pD (nx d id)) false\/Yi (d.es.map kvE) (.int .i64 id) (D.v (.pointer none)) (pD (nx d id)) true:=by
 cases h:nx d id with
 | none=>
  left;refine Ab ?_ _;cases hl:fO (d.es.map EN.n) id with
  | false=>rfl
  | true=>obtain⟨n,h1,h2⟩:=qU.1 hl;exact absurd h2 (aBi h n h1)
 | some p=>
  right;obtain⟨h1,h2⟩:=aAz h;rw [<- h2];exact oA h1 _
theorem jJ (he:e∈d.es):e.n∈d.l:=aX.2 ⟨e,he,rfl⟩
theorem aN8 (h:WT d.l rk) (he:e∈d.es) {b:Int} (hne:¬e.n.ID=b):(∀p,nx d e.n.parent=some p->p∈d.es/\(e.n.ID∈dS d.l rk b↔p.n.ID∈dS d.l rk b)/\rk e.n.ID<rk p.n.ID)/\(nx d e.n.parent=none->e.n.ID∉dS d.l rk b):=by
 constructor
 .intro p hp;obtain⟨h1,h2⟩:=aAz hp;have hpn:=h.nn _ (jJ h1);rcases h.par _ (jJ he)with h3 | ⟨q,q1,q2,q3⟩
  .omega
  have hqp:q=p.n:=mF h.nd q1 (jJ h1) (by rw [q2,h2]);subst hqp;refine⟨h1,⟨fun hb=>?_,fun hb=>Km h q1 q3 hb⟩,h.dec _ q1 _ q3⟩;rcases Ai h (jJ he) hb with e1 | ⟨p',p1,p2,p3,p4⟩
  .exact absurd e1 hne
  have:=mF h.nd p1 q1 (by rw [p2,q2]);rw [<- this];exact p4
 intro hn hb;rcases Ai h (jJ he) hb with e1 | ⟨p',p1,p2,p3,p4⟩
 .exact hne e1
 exact aBi hn p' p1 p2
def wiM(R:Nat)(rk:Int->Nat):Option EN->Nat
 | none=>0
 | some e=>R+1 - rk e.n.ID
theorem aB1 {R:Nat} {id b:Int} (h:WT d.l rk)(hR:∀e∈d.es,rk e.n.ID<=R) (he:e∈d.es)(hne:¬e.n.ID=b)(hi:id∈dS d.l rk b↔e.n.ID∈dS d.l rk b):
  ((∀p,nx d e.n.parent=some p->p∈d.es/\(id∈dS d.l rk b↔p.n.ID∈dS d.l rk b))/\(nx d e.n.parent=none->id∉dS d.l rk b))/\wiM R rk (nx d e.n.parent)<wiM R rk (some e):=by
 obtain⟨h1,h2⟩:=aN8 h he hne;refine⟨⟨fun p hp=>?_,fun hn hb=>h2 hn (hi.1 hb)⟩,?_⟩
 .obtain⟨a,b,c⟩:=h1 p hp;exact⟨a,hi.trans b⟩
 have:=hR e he;cases hp:nx d e.n.parent with
 | none=>simp only [wiM];omega
 | some p=>
  obtain⟨a,b,c⟩:=h1 p hp;have:=hR p a;simp only [wiM];omega
theorem Hz(l:List Int)(i:Int):(l.any fun k=>decide (k=i))=decide (i∈l):=by
 rw [iZ,oE,fM];exact⟨fun⟨x,h1,h2⟩=>by rw [<- tT h2];exact h1,fun h=>⟨i,h,by simp⟩⟩
theorem aRt(m M R:Nat)(d:DS)(rk:Int->Nat)(e0 f:EN)(σ:List (List D))(ho:DO m M d σ)(hwt:WT d.l rk)(hR:∀e∈d.es,rk e.n.ID<=R)(he0:e0∈d.es)(hf:f∈d.es):Ct prog 150 [.ref m 0,D.int e0.n.ID,D.int f.n.ID] σ (fun r σ'=>r= .bool (decide (e0.n.ID∈dS d.l rk f.n.ID))/\σ'=σ):=by
 refine zf func150 ?_;have hq:=ho.hm;have hnn:=ho.hn;refine bF fun _ _ Z=>?_;simp(disch:=omega)[hq,lL,mI,kK,kL,hnn];and_intros<;>(try omega)
 all_goals first | (generalize nx d e.n.parent=s9;cases s9 <;> rfl) | skip
 apply Z;apply aE;refine bF fun _ _ Z=>?_;refine zs 6 fun _ Y=>?_;simp(disch:=omega)[hq,lL,mI,kK,kL,hnn];refine⟨m,2,d.ck,_,.ref f.o 0,⟨⟨_,hq,rfl⟩,tL _,.inr (oA hf _)⟩,?_⟩;and_intros<;>(try omega)
 all_goals first | (generalize nx d e.n.parent=s9;cases s9 <;> rfl) | skip
 apply Y;simp(disch:=omega)[hq,lL,mI,kK,kL,hnn];and_intros<;>(try omega)
 all_goals first | (generalize nx d e.n.parent=s9;cases s9 <;> rfl) | skip
 apply Z;refine zI ?_ ?_<;>intro c1<;>try simp at c1
 apply zA;apply aE;refine bF fun _ _ Z=>?_;refine zs 6 fun _ Y=>?_;simp(disch:=omega)[hq,lL,mI,kK,kL,hnn];refine⟨m,2,d.ck,_,.ref e0.o 0,⟨⟨_,hq,rfl⟩,tL _,.inr (oA he0 _)⟩,?_⟩;and_intros<;>(try omega)
 all_goals first | (generalize nx d e.n.parent=s9;cases s9 <;> rfl) | skip
 apply Y;simp(disch:=omega)[hq,lL,mI,kK,kL,hnn];and_intros<;>(try omega)
 all_goals first | (generalize nx d e.n.parent=s9;cases s9 <;> rfl) | skip
 apply Z;apply aR;refine zk [0,2,6,7] ?_;refine bA (fun(s:Option EN)=> [(7,.d (pD s))]) [6,7,21,22,23,24,25,26,27,28,29,30,31,32,33,34,35,36,37] (fun(s:Option EN)=>(∀e,s=some e->e∈d.es/\(e0.n.ID∈dS d.l rk f.n.ID↔e.n.ID∈dS d.l rk f.n.ID))/\(s=none->e0.n.ID∉dS d.l rk f.n.ID)) (fun(s:Option EN)=>wiM R rk s) (some e0) (by simp <;> rfl) ?_ ?_ ?_
 .simp [lL]
 .exact⟨fun e h=>by cases h;exact⟨he0,Iff.rfl⟩,fun h=>by cases h⟩
 rintro s ⟨hs1,hs2⟩;simp only [aQ,aP];obtain⟨e,rfl⟩ | rfl:(∃e,s=some e)\/s=none:=by cases s <;> simp
 .try simp only []
  obtain⟨he,hi⟩:=hs1 e rfl;apply aE;refine bF fun _ _ Z=>?_;simp(disch:=omega)[hq,lL,mI,kK,kL,hnn];and_intros<;>(try omega)
  all_goals first | (generalize nx d e.n.parent=s9;cases s9 <;> rfl) | skip
  apply Z;refine aZ (t:=true) (by simp) (fun _=>?_) (fun h=>by cases h);apply kP;refine bF fun _ _ Z=>?_;simp(disch:=omega)[hq,lL,mI,kK,kL,hnn];and_intros<;>(try omega)
  all_goals first | (generalize nx d e.n.parent=s9;cases s9 <;> rfl) | skip
  apply Z;refine zI ?_ ?_<;>intro c2<;>try simp at c2
  .refine bF fun _ _ Z=>?_;simp(disch:=omega)[hq,lL,mI,kK,kL,hnn];and_intros<;>(try omega)
   all_goals first | (generalize nx d e.n.parent=s9;cases s9 <;> rfl) | skip
   apply Z;apply aC;simp [aH];rw [hi,c2];exact mY hwt.Dec _
  apply nS;refine ze ⟨[],[],[],[],[]⟩ [.op {},.op {},.op {},.op {rO:=true},.op {},.op {},.op {},.op {rO:=true},.op {rO:=true},.op {}] fun all hall _ Z=>?_;refine lN 8 fun _ Y=>?_;simp(disch:=omega)[hq,lL,mI,kK,kL,hnn];and_intros<;>(try omega)
  all_goals first | (generalize nx d e.n.parent=s9;cases s9 <;> rfl) | skip
  apply Y;refine lN 1 fun _ Y=>?_;simp(disch:=omega)[hq,lL,mI,kK,kL,hnn];refine⟨m,2,d.ck,_,pD (nx d e.n.parent),⟨⟨_,hq,rfl⟩,tL _,aL2 d _⟩,?_⟩;and_intros<;>(try omega)
  all_goals first | (generalize nx d e.n.parent=s9;cases s9 <;> rfl) | skip
  apply Y;simp(disch:=omega)[hq,lL,mI,kK,kL,hnn];and_intros<;>(try omega)
  all_goals first | (generalize nx d e.n.parent=s9;cases s9 <;> rfl) | skip
  apply Z;refine zq (nx d e.n.parent) ?_ ?_ ?_
  .exact(aB1 hwt hR he c2 hi).1
  .exact(aB1 hwt hR he c2 hi).2
  simp(disch:=omega)[hq,lL,mI,kK,kL,hnn]
 try simp only []
 have hno:=hs2 rfl;apply aE;refine bF fun _ _ Z=>?_;simp(disch:=omega)[hq,lL,mI,kK,kL,hnn];and_intros<;>(try omega)
 all_goals first | (generalize nx d e.n.parent=s9;cases s9 <;> rfl) | skip
 apply Z;refine aZ (t:=false) (by simp) (fun h=>by cases h) (fun _=>?_);apply zE;refine bF fun _ _ Z=>?_;simp(disch:=omega)[hq,lL,mI,kK,kL,hnn];and_intros<;>(try omega)
 all_goals first | (generalize nx d e.n.parent=s9;cases s9 <;> rfl) | skip
 apply Z;apply aC;simp [aH];exact hno
theorem aTz(m M:Nat)(d:DS)(id f:Int)(σ:List (List D))(ho:DO m M d σ)(hno:fO d.l f=false):Ct prog 150 [.ref m 0,D.int id,D.int f] σ (fun r σ'=>r= .bool false/\σ'=σ):=by
 refine zf func150 ?_;have hq:=ho.hm;refine bF fun _ _ Z=>?_;simp[hq];apply Z;apply aE;refine bF fun _ _ Z=>?_;refine zs 6 fun _ Y=>?_;simp[hq];refine⟨m,2,d.ck,_,.v (.pointer none),⟨⟨_,hq,rfl⟩,tL _,.inl (Ab hno _)⟩,?_⟩;and_intros<;>(try omega);apply Y;simp[hq];apply Z;refine zI ?_ ?_<;>intro c1<;>try simp at c1
 refine bF fun _ _ Z=>?_;simp[hq];apply Z;apply aC;simp [aH]
theorem aSa(m M:Nat)(d:DS)(id:Int)(f:EN)(σ:List (List D))(ho:DO m M d σ)(hf:f∈d.es)(hno:fO d.l id=false):Ct prog 150 [.ref m 0,D.int id,D.int f.n.ID] σ (fun r σ'=>r= .bool false/\σ'=σ):=by
 refine zf func150 ?_;have hq:=ho.hm;refine bF fun _ _ Z=>?_;simp[hq];apply Z;apply aE;refine bF fun _ _ Z=>?_;refine zs 6 fun _ Y=>?_;simp[hq];refine⟨m,2,d.ck,_,.ref f.o 0,⟨⟨_,hq,rfl⟩,tL _,.inr (oA hf _)⟩,?_⟩;and_intros<;>(try omega);apply Y;simp[hq];apply Z;refine zI ?_ ?_<;>intro c1<;>try simp at c1
 apply zA;apply aE;refine bF fun _ _ Z=>?_;refine zs 6 fun _ Y=>?_;simp[hq];refine⟨m,2,d.ck,_,.v (.pointer none),⟨⟨_,hq,rfl⟩,tL _,.inl (Ab hno _)⟩,?_⟩;and_intros<;>(try omega);apply Y;simp[hq];apply Z;apply aR;refine zk [0,2,6,7] ?_;refine bA (fun(s:Unit)=> [(7,.d (.v (.pointer none)))]) [6,7,21,22,23,24,25,26,27,28,29,30,31,32,33,34,35,36,37] (fun(s:Unit)=>True) (fun(s:Unit)=>0) (()) (by simp <;> rfl) ?_ ?_ ?_
 .simp
 .trivial
 rintro s _;simp only [aQ,aP];apply aE;refine bF fun _ _ Z=>?_;simp[hq];apply Z;refine zI ?_ ?_<;>intro c2<;>try simp at c2
 apply zE;refine bF fun _ _ Z=>?_;simp[hq];apply Z;apply aC;simp [aH]
theorem aGs(l:List ND)(rk:Int->Nat):∃R,∀n∈l,rk n.ID<=R:=by
 induction l with
 | nil=>exact⟨0,fun n h=>by cases h⟩
 | cons a l ih=>
  obtain⟨R,hR⟩:=ih;refine⟨max R (rk a.ID),fun n h=>?_⟩;rcases bN.1 h with rfl | h
  .omega
  have:=hR n h;omega
theorem aE3(m M:Nat)(d:DS)(rk:Int->Nat)(id f:Int)(σ:List (List D))(ho:DO m M d σ)(hwt:WT d.l rk):Ct prog 150 [.ref m 0,D.int id,D.int f] σ (fun r σ'=>r= .bool (nW d.l (dS d.l rk) id f)/\σ'=σ):=by
 unfold nW;cases hf:fO d.l f with
 | false=>simp only [Bool.and_false,Bool.false_and];exact aTz m M d id f σ ho hf
 | true =>
  obtain⟨ef,hef,rfl,_⟩:=xV hf;cases hi:fO d.l id with
  | false=>simp only [Bool.false_and];exact aSa m M d id ef σ ho hef hi
  | true=>
   obtain⟨ei,hei,rfl,_⟩:=xV hi;obtain⟨R,hR⟩:=aGs d.l rk;rw [Hz];simp only [nG];exact aRt m M R d rk ei ef σ ho hwt (fun e he=>hR _ (jJ he)) hei hef
end Go.Proofs.YtbgfljpnhhdkoaaGreat
