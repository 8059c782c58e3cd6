import Derived.Test.YtbgfljpnhhdkoaaGreatWvLaw
import Derived.Test.YtbgfljpnhhdkoaaGreatWkWv4
import Derived.Test.YtbgfljpnhhdkoaaGreatWkAr9
set_option linter.all false
set_option maxRecDepth 20000
set_option maxHeartbeats 8000000
open Go.Proofs.Tryz
namespace Go.Proofs.YtbgfljpnhhdkoaaGreat
open Go Go.Vm
variable {M k m:Nat}{b i:Int}{bel:Int->List Int}{d:DS}{l:List ND}{n:ND}{rk:Int->Nat}{α β:Type}{σ:List (List D)}
def uC {α β:Type} (nm:α->ByteArray)(mk:Bool->α->β)(A B:List α):List β:=(A.filter fun p=> !Lp nm B (nm p)).map (mk true)
def wI {α:Type} [DecidableEq α](nm:α->ByteArray)(A:List α)(p:α):Bool:=Lp nm A (nm p) && decide (A[lG nm A (nm p)]?=some p)
def tC {α β:Type} [DecidableEq α](nm:α->ByteArray)(mk:Bool->α->β)(A B:List α):List β:=(B.filter fun p=> !wI nm A p).map (mk false)
def iS {α β:Type} [DecidableEq α](nm:α->ByteArray)(mk:Bool->α->β)(a b:List α):List β:=uC nm mk (hU nm a) (hU nm b)++tC nm mk (hU nm a) (hU nm b)
theorem Tl {nm:α->ByteArray} {mk:Bool->α->β} {A B:List α} (hk:k<A.length)(h:¬Lp nm B (nm A[k])=true):uC nm mk (A.take (k+1)) B=uC nm mk (A.take k) B++ [mk true A[k]]:=by
 unfold uC;rw [bN A k hk,fU,qE (by simpa using h),cN];rfl
theorem aAy {nm:α->ByteArray} {mk:Bool->α->β} {A B:List α} (hk:k<A.length)(h:Lp nm B (nm A[k])=true):uC nm mk (A.take (k+1)) B=uC nm mk (A.take k) B:=by
 unfold uC;rw [bN A k hk,fU,sC (by simpa using h),lK,gR]
theorem Bh [DecidableEq α] {nm:α->ByteArray} {mk:Bool->α->β} {A B:List α} (hk:k<B.length)(h:¬wI nm A B[k]=true):tC nm mk A (B.take (k+1))=tC nm mk A (B.take k)++ [mk false B[k]]:=by
 unfold tC;rw [bN B k hk,fU,qE (by simpa using h),cN];rfl
theorem aCb [DecidableEq α] {nm:α->ByteArray} {mk:Bool->α->β} {A B:List α} (hk:k<B.length)(h:wI nm A B[k]=true):tC nm mk A (B.take (k+1))=tC nm mk A (B.take k):=by
 unfold tC;rw [bN B k hk,fU,sC (by simpa using h),lK,gR]
theorem wP (nm:α->ByteArray)(mk:Bool->α->β)(A B:List α):(uC nm mk A B).length<=A.length:=by unfold uC;rw [bS];exact jD _ _
theorem Kf [DecidableEq α](nm:α->ByteArray)(mk:Bool->α->β)(A B:List α):(tC nm mk A B).length<=B.length:=by unfold tC;rw [bS];exact jD _ _
abbrev xG(b:Bool)(p:AT):SA:=if b then⟨true,p.name,⟨#[]⟩⟩else⟨false,p.name,p.value⟩
abbrev zP(b:Bool)(p:PI):SI:=if b then⟨true,p.name,0⟩else⟨false,p.name,p.value⟩
@[simp] abbrev q22_1:Cfg:=⟨[0,1,4,5,14,15,16,17,33,63,72],[],[],[19,22,41,44,58],[]⟩
theorem aFh(a b:List AT)(σ:List (List D))(ha:a.length<=99999)(hb:b.length<=99999):Ct prog 118 [.sl false (a.map cW),.sl false (b.map cW)] σ (fun r σ'=>r= .sl true ((iS nA xG a b).map Qd)/\∃J,σ'=σ++J):=by
 refine zf func118 ?_;obtain⟨A,hA⟩:∃A,hU nA a=A:=⟨_,rfl⟩;obtain⟨B,hB⟩:∃B,hU nA b=B:=⟨_,rfl⟩;have hAl:A.length<=99999:=by rw [<- hA];have:=iD nA a;omega
 have hBl:B.length<=99999:=by rw [<- hB];have:=iD nA b;omega
 have hAs:Sorted nA A:=by rw [<- hA];exact gK nA a
 have hBs:Sorted nA B:=by rw [<- hB];exact gK nA b
 refine zr q22_1 fun _ _ Z=>?_;simp(disch:=omega)[lL,eY,fG,aB,aA,hA,hB];apply Z;refine zr q22_1 fun _ _ Z=>?_;refine zs 1 fun _ Y=>?_;simp(disch:=omega)[lL,eY,fG,aB,aA,hA,hB];apply Y;refine aE fun _ Y=>?_;simp(disch:=omega)[lL,eY,fG,aB,aA,hA,hB];refine cH (Dl a _ (by omega)) ?_;apply Y;refine zs 1 fun _ Y=>?_;simp(disch:=omega)[lL,eY,fG,aB,aA,hA,hB];apply Y;refine aE fun _ Y=>?_;simp(disch:=omega)[lL,eY,fG,aB,aA,hA,hB];refine cH (Dl b _ (by omega)) ?_;apply Y;simp(disch:=omega)[lL,eY,fG,aB,aA,hA,hB];apply Z;refine zr q22_1 fun _ _ Z=>?_;simp(disch:=omega)[lL,eY,fG,aB,aA,hA,hB];apply Z;apply aF;refine iL 0 2 rfl (by decide) fun cap rest hcap hcm hrest hk0 hes=>?_;subst hrest;simp only [bS] at hcap |-;rw [cU (f:=cA) (fun _=>rfl)];refine iL 1 2 rfl (by decide) fun cap2 rest hcap2 hcm2 hrest hk02 hes2=>?_;subst hrest;simp only [bS] at hcap2 |-;rw [cU (f:=cA) (fun _=>rfl)];simp only [bU,aQ,aP,bB,cG,dX,Nat.reduceAdd];refine zr q22_1 fun _ _ Z=>?_;simp(disch:=omega)[lL,eY,fG,aB,aA,hA,hB];and_intros<;>(try omega);apply Z;apply aR;refine zk [0,1,4,5,18,19,20] ?_;refine aY (fun(k:Nat)=> [(20,.d (.v (.int .i64 (k:Int)))),(5,.d (.sl true ((uC nA xG (A.take k) B).map Qd))),(7,.d (.any)),(8,.d (.any)),(9,.d (.any))]) [5,7,8,9,20,21,22,23,24,25,26,27,28,29,30,31,32,33,34,35,36,37,38,39] (fun(k:Nat)=>k<=A.length) (fun(k:Nat)=>A.length - k) (0) (by simp <;> rfl) ?_ ?_ ?_
 .simp [uC]
 .simp
 rintro k hk;simp only [aQ,aP];have hdl:=wP nA xG (A.take k) B;simp only [bE] at hdl;refine zr q22_1 fun _ _ Z=>?_;simp(disch:=omega)[lL,eY,fG,aB,aA,hA,hB];apply Z;apply aF;refine zI ?_ ?_<;>intro c1<;>try simp at c1
 .apply jY;refine zr q22_1 fun _ _ Z=>?_;simp(disch:=omega)[lL,eY,fG,aB,aA,hA,hB];and_intros<;>(try omega);apply Z;refine zk [0,1,4,5,7,8,9,18,19,20] ?_;refine zr q22_1 fun _ _ Z=>?_;refine zs 3 fun _ Y=>?_;simp(disch:=omega)[lL,eY,fG,aB,aA,hA,hB];apply Y;refine aE fun _ Y=>?_;simp(disch:=omega)[lL,eY,fG,aB,aA,hA,hB];refine cH (Rl (σ.length+1) cap2 B _ A[k].name _ (by omega) (by simp [lL];rfl) hBs) ?_;apply Y;simp(disch:=omega)[lL,eY,fG,aB,aA,hA,hB];apply Z;refine zk [0,1,4,5,7,8,9,18,19,20] ?_;refine zr q22_1 fun _ _ Z=>?_;simp(disch:=omega)[lL,eY,fG,aB,aA,hA,hB];apply Z;refine zI ?_ ?_<;>intro c2<;>try simp at c2
  .have hds:uC nA xG (A.take (k+1)) B=uC nA xG (A.take k) B++ [⟨true,A[k].name,⟨#[]⟩⟩]:=Tl c1 (by simpa using c2);refine zk [0,1,4,5,7,8,9,18,19,20] ?_;refine zt q22_1 fun _ _ Z=>?_;simp(disch:=omega)[lL,eY,fG,aB,aA,hA,hB];and_intros<;>(try omega);apply Z;apply zB;refine zk [0,1,4,5,7,8,9,18,19,20] ?_;refine zt q22_1 fun _ _ Z=>?_;simp(disch:=omega)[lL,eY,fG,aB,aA,hA,hB];and_intros<;>(try omega);apply Z;refine zq (k+1) ?_ ?_ ?_
   .omega
   .try dsimp only
    omega
   simp(disch:=omega)[lL,eY,fG,aB,aA,hds,hA,hB]
  have hds:=aAy (nm:=nA) (mk:=xG) (B:=B) c1 (by simpa using c2);apply nI;refine zk [0,1,4,5,7,8,9,18,19,20] ?_;refine zt q22_1 fun _ _ Z=>?_;simp(disch:=omega)[lL,eY,fG,aB,aA,hA,hB];and_intros<;>(try omega);apply Z;refine zq (k+1) ?_ ?_ ?_
  .omega
  .try dsimp only
   omega
  simp(disch:=omega)[lL,eY,fG,aB,aA,hds,hA,hB]
 obtain rfl:k=A.length:=by omega
 simp only [dS];apply zE;apply aF;refine zr q22_1 fun _ _ Z=>?_;simp(disch:=omega)[lL,eY,fG,aB,aA,hA,hB];and_intros<;>(try omega);apply Z;apply aR;refine zk [0,4,5,40,41,42] ?_;refine aY (fun(j:Nat)=> [(42,.d (.v (.int .i64 (j:Int)))),(5,.d (.sl true ((uC nA xG A B++tC nA xG A (B.take j)).map Qd))),(11,.d (.any)),(12,.d (.any)),(13,.d (.any))]) [5,11,12,13,42,43,44,45,46,47,48,49,50,51,52,53,54,55,56,57,58,59,60,61,62,63,64,65,66,67,68,69,70,71] (fun(j:Nat)=>j<=B.length) (fun(j:Nat)=>B.length - j) (0) (by simp <;> rfl) ?_ ?_ ?_
 .simp [tC]
 .simp
 rintro j hj;simp only [aQ,aP];have hdl:=wP nA xG A B;have hsl:=Kf nA xG A (B.take j);simp only [bE] at hsl;refine zr q22_1 fun _ _ Z=>?_;simp(disch:=omega)[lL,eY,fG,aB,aA,hA,hB];apply Z;apply aF;refine zI ?_ ?_<;>intro c3<;>try simp at c3
 .apply jY;refine zr q22_1 fun _ _ Z=>?_;simp(disch:=omega)[lL,eY,fG,aB,aA,hA,hB];and_intros<;>(try omega);apply Z;refine zk [0,4,5,11,12,13,40,41,42] ?_;refine zr q22_1 fun _ _ Z=>?_;refine zs 3 fun _ Y=>?_;simp(disch:=omega)[lL,eY,fG,aB,aA,hA,hB];apply Y;refine aE fun _ Y=>?_;simp(disch:=omega)[lL,eY,fG,aB,aA,hA,hB];refine cH (Rl σ.length cap A _ B[j].name _ (by omega) (by simp [eY];rfl) hAs) ?_;apply Y;simp(disch:=omega)[lL,eY,fG,aB,aA,hA,hB];apply Z;refine zk [0,4,5,11,12,13,40,41,42] ?_;refine zd q22_1 [.op {},.op {},.op {},.op {},.op {},.op {},.op {rO:=true},.op {rL:=true},.op {},.op {}] fun all hall _ Z=>?_;have ga2:aN all 2=some 55:=hall 2;refine lM 3 fun _ Y=>?_;simp(disch:=omega)[lL,eY,fG,aB,aA,ga2,hA,hB];apply Y;refine zbD 55 ?_ ?_<;>intro g4<;>try simp at g4
  .have hss:tC nA xG A (B.take (j+1))=tC nA xG A (B.take j)++ [⟨false,B[j].name,B[j].value⟩]:=Bh c3 (by unfold wI;simp [g4]);simp(disch:=omega)[lL,eY,fG,aB,aA,ga2,hA,hB];apply Z;refine aX (t:=true) (by simp) (fun _=>?_) (fun h=>by cases h);refine zk [0,4,5,11,12,13,40,41,42] ?_;refine zt q22_1 fun _ _ Z=>?_;refine zs 8 fun _ Y=>?_;simp(disch:=omega)[lL,eY,fG,aB,aA,hA,hB];and_intros<;>(try omega);apply Y;simp(disch:=omega)[lL,eY,fG,aB,aA,hA,hB];apply Z;apply zB;refine zk [0,4,5,11,12,13,40,41,42] ?_;refine zt q22_1 fun _ _ Z=>?_;simp(disch:=omega)[lL,eY,fG,aB,aA,hA,hB];and_intros<;>(try omega);apply Z;refine zq (j+1) ?_ ?_ ?_
   .omega
   .try dsimp only
    omega
   simp(disch:=omega)[lL,eY,fG,aB,aA,hss,hA,hB]
  have hlt:=zY nA g4;simp(disch:=omega)[lL,eY,fG,aB,aA,ga2,hA,hB];and_intros<;>(try omega);apply Z;refine zI ?_ ?_<;>intro c5<;>try simp at c5
  .have hss:tC nA xG A (B.take (j+1))=tC nA xG A (B.take j)++ [⟨false,B[j].name,B[j].value⟩]:=Bh c3 (by unfold wI;rw [g4,aW hlt];simp only [nT,fN,bF];intro e;rw [e] at c5;simp at c5);refine zk [0,4,5,11,12,13,40,41,42] ?_;refine zt q22_1 fun _ _ Z=>?_;refine zs 8 fun _ Y=>?_;simp(disch:=omega)[lL,eY,fG,aB,aA,hA,hB];and_intros<;>(try omega);apply Y;simp(disch:=omega)[lL,eY,fG,aB,aA,hA,hB];apply Z;apply zB;refine zk [0,4,5,11,12,13,40,41,42] ?_;refine zt q22_1 fun _ _ Z=>?_;simp(disch:=omega)[lL,eY,fG,aB,aA,hA,hB];and_intros<;>(try omega);apply Z;refine zq (j+1) ?_ ?_ ?_
   .omega
   .try dsimp only
    omega
   simp(disch:=omega)[lL,eY,fG,aB,aA,hss,hA,hB]
  have hss:=aCb (nm:=nA) (mk:=xG) c3 (by unfold wI;rw [g4,aW hlt];simp only [nT,fN,bF];generalize A[lG nA A B[j].name]=x at c5 |-;generalize B[j]=y at c5 |-;cases x;cases y;simpa using c5);apply nI;refine zk [0,4,5,11,12,13,40,41,42] ?_;refine zt q22_1 fun _ _ Z=>?_;simp(disch:=omega)[lL,eY,fG,aB,aA,hA,hB];and_intros<;>(try omega);apply Z;refine zq (j+1) ?_ ?_ ?_
  .omega
  .try dsimp only
   omega
  simp(disch:=omega)[lL,eY,fG,aB,aA,hss,hA,hB]
 obtain rfl:j=B.length:=by omega
 simp only [dS];apply zE;refine zr q22_1 fun _ _ Z=>?_;simp(disch:=omega)[lL,eY,fG,aB,aA,hA,hB];apply Z;apply aC;simp [aI,iS,hA,hB]
theorem aD7(a b:List PI)(σ:List (List D))(ha:a.length<=99999)(hb:b.length<=99999):Ct prog 124 [.sl false (a.map cQ),.sl false (b.map cQ)] σ (fun r σ'=>r= .sl true ((iS nP zP a b).map Rr)/\∃J,σ'=σ++J):=by
 refine zf func124 ?_;obtain⟨A,hA⟩:∃A,hU nP a=A:=⟨_,rfl⟩;obtain⟨B,hB⟩:∃B,hU nP b=B:=⟨_,rfl⟩;have hAl:A.length<=99999:=by rw [<- hA];have:=iD nP a;omega
 have hBl:B.length<=99999:=by rw [<- hB];have:=iD nP b;omega
 have hAs:Sorted nP A:=by rw [<- hA];exact gK nP a
 have hBs:Sorted nP B:=by rw [<- hB];exact gK nP b
 refine zr q22_1 fun _ _ Z=>?_;simp(disch:=omega)[lL,eY,fG,aB,aA,hA,hB];apply Z;refine zr q22_1 fun _ _ Z=>?_;refine zs 1 fun _ Y=>?_;simp(disch:=omega)[lL,eY,fG,aB,aA,hA,hB];apply Y;refine aE fun _ Y=>?_;simp(disch:=omega)[lL,eY,fG,aB,aA,hA,hB];refine cH (Ei a _ (by omega)) ?_;apply Y;refine zs 1 fun _ Y=>?_;simp(disch:=omega)[lL,eY,fG,aB,aA,hA,hB];apply Y;refine aE fun _ Y=>?_;simp(disch:=omega)[lL,eY,fG,aB,aA,hA,hB];refine cH (Ei b _ (by omega)) ?_;apply Y;simp(disch:=omega)[lL,eY,fG,aB,aA,hA,hB];apply Z;refine zr q22_1 fun _ _ Z=>?_;simp(disch:=omega)[lL,eY,fG,aB,aA,hA,hB];apply Z;apply aF;refine iL 0 2 rfl (by decide) fun cap rest hcap hcm hrest hk0 hes=>?_;subst hrest;simp only [bS] at hcap |-;rw [cU (f:=cP) (fun _=>rfl)];refine iL 1 2 rfl (by decide) fun cap2 rest hcap2 hcm2 hrest hk02 hes2=>?_;subst hrest;simp only [bS] at hcap2 |-;rw [cU (f:=cP) (fun _=>rfl)];simp only [bU,aQ,aP,bB,cG,dX,Nat.reduceAdd];refine zr q22_1 fun _ _ Z=>?_;simp(disch:=omega)[lL,eY,fG,aB,aA,hA,hB];and_intros<;>(try omega);apply Z;apply aR;refine zk [0,1,4,5,18,19,20] ?_;refine aY (fun(k:Nat)=> [(20,.d (.v (.int .i64 (k:Int)))),(5,.d (.sl true ((uC nP zP (A.take k) B).map Rr))),(7,.d (.any)),(8,.d (.any)),(9,.d (.any))]) [5,7,8,9,20,21,22,23,24,25,26,27,28,29,30,31,32,33,34,35,36,37,38,39] (fun(k:Nat)=>k<=A.length) (fun(k:Nat)=>A.length - k) (0) (by simp <;> rfl) ?_ ?_ ?_
 .simp [uC]
 .simp
 rintro k hk;simp only [aQ,aP];have hdl:=wP nP zP (A.take k) B;simp only [bE] at hdl;refine zr q22_1 fun _ _ Z=>?_;simp(disch:=omega)[lL,eY,fG,aB,aA,hA,hB];apply Z;apply aF;refine zI ?_ ?_<;>intro c1<;>try simp at c1
 .apply jY;refine zr q22_1 fun _ _ Z=>?_;simp(disch:=omega)[lL,eY,fG,aB,aA,hA,hB];and_intros<;>(try omega);apply Z;refine zk [0,1,4,5,7,8,9,18,19,20] ?_;refine zr q22_1 fun _ _ Z=>?_;refine zs 3 fun _ Y=>?_;simp(disch:=omega)[lL,eY,fG,aB,aA,hA,hB];apply Y;refine aE fun _ Y=>?_;simp(disch:=omega)[lL,eY,fG,aB,aA,hA,hB];refine cH (Rz (σ.length+1) cap2 B _ A[k].name _ (by omega) (by simp [lL];rfl) hBs) ?_;apply Y;simp(disch:=omega)[lL,eY,fG,aB,aA,hA,hB];apply Z;refine zk [0,1,4,5,7,8,9,18,19,20] ?_;refine zr q22_1 fun _ _ Z=>?_;simp(disch:=omega)[lL,eY,fG,aB,aA,hA,hB];apply Z;refine zI ?_ ?_<;>intro c2<;>try simp at c2
  .have hds:uC nP zP (A.take (k+1)) B=uC nP zP (A.take k) B++ [⟨true,A[k].name,0⟩]:=Tl c1 (by simpa using c2);refine zk [0,1,4,5,7,8,9,18,19,20] ?_;refine zt q22_1 fun _ _ Z=>?_;simp(disch:=omega)[lL,eY,fG,aB,aA,hA,hB];and_intros<;>(try omega);apply Z;apply zB;refine zk [0,1,4,5,7,8,9,18,19,20] ?_;refine zt q22_1 fun _ _ Z=>?_;simp(disch:=omega)[lL,eY,fG,aB,aA,hA,hB];and_intros<;>(try omega);apply Z;refine zq (k+1) ?_ ?_ ?_
   .omega
   .try dsimp only
    omega
   simp(disch:=omega)[lL,eY,fG,aB,aA,hds,hA,hB]
  have hds:=aAy (nm:=nP) (mk:=zP) (B:=B) c1 (by simpa using c2);apply nI;refine zk [0,1,4,5,7,8,9,18,19,20] ?_;refine zt q22_1 fun _ _ Z=>?_;simp(disch:=omega)[lL,eY,fG,aB,aA,hA,hB];and_intros<;>(try omega);apply Z;refine zq (k+1) ?_ ?_ ?_
  .omega
  .try dsimp only
   omega
  simp(disch:=omega)[lL,eY,fG,aB,aA,hds,hA,hB]
 obtain rfl:k=A.length:=by omega
 simp only [dS];apply zE;apply aF;refine zr q22_1 fun _ _ Z=>?_;simp(disch:=omega)[lL,eY,fG,aB,aA,hA,hB];and_intros<;>(try omega);apply Z;apply aR;refine zk [0,4,5,40,41,42] ?_;refine aY (fun(j:Nat)=> [(42,.d (.v (.int .i64 (j:Int)))),(5,.d (.sl true ((uC nP zP A B++tC nP zP A (B.take j)).map Rr))),(11,.d (.any)),(12,.d (.any)),(13,.d (.any))]) [5,11,12,13,42,43,44,45,46,47,48,49,50,51,52,53,54,55,56,57,58,59,60,61,62,63,64,65,66,67,68,69,70,71] (fun(j:Nat)=>j<=B.length) (fun(j:Nat)=>B.length - j) (0) (by simp <;> rfl) ?_ ?_ ?_
 .simp [tC]
 .simp
 rintro j hj;simp only [aQ,aP];have hdl:=wP nP zP A B;have hsl:=Kf nP zP A (B.take j);simp only [bE] at hsl;refine zr q22_1 fun _ _ Z=>?_;simp(disch:=omega)[lL,eY,fG,aB,aA,hA,hB];apply Z;apply aF;refine zI ?_ ?_<;>intro c3<;>try simp at c3
 .apply jY;refine zr q22_1 fun _ _ Z=>?_;simp(disch:=omega)[lL,eY,fG,aB,aA,hA,hB];and_intros<;>(try omega);apply Z;refine zk [0,4,5,11,12,13,40,41,42] ?_;refine zr q22_1 fun _ _ Z=>?_;refine zs 3 fun _ Y=>?_;simp(disch:=omega)[lL,eY,fG,aB,aA,hA,hB];apply Y;refine aE fun _ Y=>?_;simp(disch:=omega)[lL,eY,fG,aB,aA,hA,hB];refine cH (Rz σ.length cap A _ B[j].name _ (by omega) (by simp [eY];rfl) hAs) ?_;apply Y;simp(disch:=omega)[lL,eY,fG,aB,aA,hA,hB];apply Z;refine zk [0,4,5,11,12,13,40,41,42] ?_;refine zd q22_1 [.op {},.op {},.op {},.op {},.op {},.op {},.op {rO:=true},.op {rL:=true},.op {},.op {}] fun all hall _ Z=>?_;have ga2:aN all 2=some 55:=hall 2;refine lM 3 fun _ Y=>?_;simp(disch:=omega)[lL,eY,fG,aB,aA,ga2,hA,hB];apply Y;refine zbD 55 ?_ ?_<;>intro g4<;>try simp at g4
  .have hss:tC nP zP A (B.take (j+1))=tC nP zP A (B.take j)++ [⟨false,B[j].name,B[j].value⟩]:=Bh c3 (by unfold wI;simp [g4]);simp(disch:=omega)[lL,eY,fG,aB,aA,ga2,hA,hB];apply Z;refine aX (t:=true) (by simp) (fun _=>?_) (fun h=>by cases h);refine zk [0,4,5,11,12,13,40,41,42] ?_;refine zt q22_1 fun _ _ Z=>?_;refine zs 8 fun _ Y=>?_;simp(disch:=omega)[lL,eY,fG,aB,aA,hA,hB];and_intros<;>(try omega);apply Y;simp(disch:=omega)[lL,eY,fG,aB,aA,hA,hB];apply Z;apply zB;refine zk [0,4,5,11,12,13,40,41,42] ?_;refine zt q22_1 fun _ _ Z=>?_;simp(disch:=omega)[lL,eY,fG,aB,aA,hA,hB];and_intros<;>(try omega);apply Z;refine zq (j+1) ?_ ?_ ?_
   .omega
   .try dsimp only
    omega
   simp(disch:=omega)[lL,eY,fG,aB,aA,hss,hA,hB]
  have hlt:=zY nP g4;simp(disch:=omega)[lL,eY,fG,aB,aA,ga2,hA,hB];and_intros<;>(try omega);apply Z;refine zI ?_ ?_<;>intro c5<;>try simp at c5
  .have hss:tC nP zP A (B.take (j+1))=tC nP zP A (B.take j)++ [⟨false,B[j].name,B[j].value⟩]:=Bh c3 (by unfold wI;rw [g4,aW hlt];simp only [nT,fN,bF];intro e;rw [e] at c5;simp at c5);refine zk [0,4,5,11,12,13,40,41,42] ?_;refine zt q22_1 fun _ _ Z=>?_;refine zs 8 fun _ Y=>?_;simp(disch:=omega)[lL,eY,fG,aB,aA,hA,hB];and_intros<;>(try omega);apply Y;simp(disch:=omega)[lL,eY,fG,aB,aA,hA,hB];apply Z;apply zB;refine zk [0,4,5,11,12,13,40,41,42] ?_;refine zt q22_1 fun _ _ Z=>?_;simp(disch:=omega)[lL,eY,fG,aB,aA,hA,hB];and_intros<;>(try omega);apply Z;refine zq (j+1) ?_ ?_ ?_
   .omega
   .try dsimp only
    omega
   simp(disch:=omega)[lL,eY,fG,aB,aA,hss,hA,hB]
  have hss:=aCb (nm:=nP) (mk:=zP) c3 (by unfold wI;rw [g4,aW hlt];simp only [nT,fN,bF];generalize A[lG nP A B[j].name]=x at c5 |-;generalize B[j]=y at c5 |-;cases x;cases y;simpa using c5);apply nI;refine zk [0,4,5,11,12,13,40,41,42] ?_;refine zt q22_1 fun _ _ Z=>?_;simp(disch:=omega)[lL,eY,fG,aB,aA,hA,hB];and_intros<;>(try omega);apply Z;refine zq (j+1) ?_ ?_ ?_
  .omega
  .try dsimp only
   omega
  simp(disch:=omega)[lL,eY,fG,aB,aA,hss,hA,hB]
 obtain rfl:j=B.length:=by omega
 simp only [dS];apply zE;refine zr q22_1 fun _ _ Z=>?_;simp(disch:=omega)[lL,eY,fG,aB,aA,hA,hB];apply Z;apply aC;simp [aI,iS,hA,hB]
structure WD(d:DS)(bel:Int->List Int)(rk:Int->Nat):Prop where
 nb:NB d.l
 ids:∀e∈d.es,aH d.l e.n.ID=e.n
 tr:Tr d.l bel rk
 kids:∀e∈d.es,∀k∈e.n.kids,eL d.l k=true
theorem DO.lt (h:DO m M d σ) {e:EN} (he:e∈d.es):e.o<σ.length:=oD (h.hn e he)
theorem DO.app (h:DO m M d σ)(J:List (List D)):DO m M d (σ++J):=
 ⟨eX h.hm J,fun e he=>eX (h.hn e he) J,h.nm,h.nd,by rw [bB];have:=h.hM;omega⟩
theorem EF.of {q:Nat} (h:DO m M d σ)(hw:WD d bel rk)(hq:σ.length<=q):EF m q d bel rk:=
 ⟨by have:=oD h.hm;omega,fun e he=>by have:=h.lt he;omega,h.nm,h.nd,hw.nb,hw.ids,hw.tr,hw.kids⟩
theorem EO.of (h:DO m M d σ)(hw:WD d bel rk)(id:Int):EO m M σ.length d bel id [] (σ++ [[.xs 1 []]]):=
 ⟨eX h.hm _,fun i _ e he _=>eX (h.hn e he) _,by simp,by have:=hw.tr.len id;simp;omega⟩
structure WP(d:DS):Prop where
 par:∀e∈d.es,e.n.parent= -1\/∃p∈d.es,p.n.ID=e.n.parent/\p.o≠e.o
 nn:∀e∈d.es,0<=e.n.ID
structure WT(l:List ND)(rk:Int->Nat):Prop where
 nd:(l.map ND.ID).Nodup
 kids:∀n∈l,∀k∈n.kids,∃c∈l,c.ID=k/\c.parent=n.ID
 par:∀n∈l,n.parent= -1\/∃p∈l,p.ID=n.parent/\n.ID∈p.kids
 nn:∀n∈l,0<=n.ID
 kn:∀n∈l,n.kids.Nodup
 dec:∀n∈l,∀k∈n.kids,rk k<rk n.ID
def Bv:Nat->List ND->Int->List Int
 | 0,_,id=> [id]
 | f+1,l,id=>id::(aH l id).kids.flatMap (Bv f l)
def dQ(l:List ND)(rk:Int->Nat)(id:Int):List Int:=Bv (rk id) l id
theorem mI (h:(l.map ND.ID).Nodup) {a b:ND} (ha:a∈l)(hb:b∈l)(e:a.ID=b.ID):a=b:=by
 obtain⟨i,hi,rfl⟩:=mB ha;obtain⟨j,hj,rfl⟩:=mB hb;have hp:=qI.1 h;rcases uT i j with h1 | rfl | h1
 .exact absurd e (by have:=hp i j (by simpa using hi) (by simpa using hj) h1;rwa [kF,kF] at this)
 .rfl
 exact absurd e.symm (by have:=hp j i (by simpa using hj) (by simpa using hi) h1;rwa [kF,kF] at this)
theorem Kj (h:(l.map ND.ID).Nodup) (hn:n∈l):kM l n.ID=some n:=by
 cases e:kM l n.ID with
 | none=>
  unfold kM at e;rw [rX] at e;exact absurd (by simp:decide (n.ID=n.ID)=true) (e n hn)
 | some m=>
  obtain⟨h1,h2⟩:=oT e;rw [mI h h1 hn h2]
theorem mZ (h:(l.map ND.ID).Nodup) (hn:n∈l):aH l n.ID=n:=by unfold aH;rw [Kj h hn];rfl
theorem aAx (h:(l.map ND.ID).Nodup) (hn:n∈l):eL l n.ID=true:=by unfold eL;rw [Kj h hn];rfl
theorem eK {id:Int} (h:eL l id=true):∃n∈l,n.ID=id/\aH l id=n:=by
 unfold eL at h;cases hq:kM l id with
 | none=>rw [hq] at h;cases h
 | some n=>obtain⟨h1,h2⟩:=oT hq;exact⟨n,h1,h2,by unfold aH;rw [hq];rfl⟩
theorem kT {id:Int} (h:eL l id=false):aH l id=Sw:=by
 unfold aH;unfold eL at h;cases hq:kM l id with
 | none=>rfl
 | some n=>rw [hq] at h;cases h
theorem qR {id:Int} :eL l id=true↔∃n∈l,n.ID=id:=by
 constructor
 .intro h;obtain⟨n,h1,h2,_⟩:=eK h;exact⟨n,h1,h2⟩
 rintro⟨n,h1,rfl⟩;cases h:eL l n.ID with
 | true=>rfl
 | false=>exact absurd rfl (zC h n h1)
def Dec(l:List ND)(rk:Int->Nat):Prop:=∀id,∀k∈(aH l id).kids,rk k<rk id
theorem WT.Dec (h:WT l rk):Dec l rk:=fun id k hk=>by
 cases hl:eL l id with
 | false=>rw [kT hl] at hk;cases hk
 | true=>
  obtain⟨n,h1,h2,h3⟩:=eK hl;rw [h3] at hk;rw [<- h2];exact h.dec n h1 k hk
theorem nB {l:List α} {f g:α->List β} (h:∀a∈l,f a=g a):l.flatMap f=l.flatMap g:=by
 induction l with
 | nil=>rfl
 | cons a l ih=>rw [gH,gH,h a (by simp),ih fun b hb=>h b (by simp [hb])]
theorem Dec.nil (hd:Dec l rk) {id:Int} (h:rk id=0):(aH l id).kids= []:=
 Dm.2 fun k hk=>by have:=hd id k hk;omega
theorem Ra (hd:Dec l rk):∀(f g:Nat) (id:Int),rk id<=f->rk id<=g->Bv f l id=Bv g l id
 | 0,0,id,_,_=>rfl
 | 0,g+1,id,h,_=>by simp [Bv,hd.nil (show rk id=0 by omega)]
 | f+1,0,id,_,h=>by simp [Bv,hd.nil (show rk id=0 by omega)]
 | f+1,g+1,id,h1,h2=>by
  simp only [Bv];congr 1;exact nB fun k hk=>Ra hd f g k (by have:=hd id k hk;omega) (by have:=hd id k hk;omega)
theorem jX (hd:Dec l rk)(id:Int):dQ l rk id=id::(aH l id).kids.flatMap (dQ l rk):=by
 unfold dQ;rw [Ra hd (rk id) (rk id+1) id (bC _) (by omega)];simp only [Bv];congr 1;exact nB fun k hk=>Ra hd (rk id) (rk k) k (by have:=hd id k hk;omega) (bC _)
theorem mS (hd:Dec l rk)(id:Int):id∈dQ l rk id:=by rw [jX hd];exact eH
theorem Sh (hd:Dec l rk) {id k:Int} (hk:k∈(aH l id).kids)(hi:i∈dQ l rk k):i∈dQ l rk id:=by
 rw [jX hd];exact gG _ (mE.2 ⟨k,hk,hi⟩)
theorem uS (hd:Dec l rk) {id:Int} (h:i∈dQ l rk id):i=id\/∃k∈(aH l id).kids,i∈dQ l rk k:=by
 rw [jX hd] at h;rcases bP.1 h with h | h
 .exact .inl h
 obtain⟨k,h1,h2⟩:=mE.1 h;exact .inr ⟨k,h1,h2⟩
theorem aR6 (hd:Dec l rk):∀(n:Nat) (id:Int),rk id<=n->∀i∈dQ l rk id,rk i<=rk id:=by
 intro n;induction n with
 | zero=>
  intro id hn i hi;rcases uS hd hi with rfl | ⟨k,hk,_⟩
  .exact bC _
  have:=hd id k hk;omega
 | succ n ih=>
  intro id hn i hi;rcases uS hd hi with rfl | ⟨k,hk,hik⟩
  .exact bC _
  have h1:=hd id k hk;have:=ih k (by omega) i hik;omega
theorem Sn (hd:Dec l rk) {id:Int} (h:i∈dQ l rk id):rk i<=rk id:=aR6 hd (rk id) id (bC _) i h
theorem aD1 (hd:Dec l rk) {a:Int} (hab:a∈dQ l rk b):∀ {c:Int},b∈dQ l rk c->a∈dQ l rk c:=by
 intro c;generalize hn:rk c=n;induction n using Nat.strongRecOn generalizing c with
 | _ n ih=>
  intro hbc;rcases uS hd hbc with rfl | ⟨k,hk,hik⟩
  .exact hab
  have h1:=hd c k hk;exact Sh hd hk (ih (rk k) (by omega) rfl hik)
theorem Al(h:WT l rk) (hn:n∈l) (hb:n.ID∈dQ l rk b):n.ID=b\/∃p∈l,p.ID=n.parent/\n.ID∈p.kids/\p.ID∈dQ l rk b:=by
 have hd:=h.Dec;generalize hm:rk b=m;induction m using Nat.strongRecOn generalizing b with
 | _ m ih =>
  rcases uS hd hb with e | ⟨k,hk,hik⟩
  .exact .inl e
  have h1:=hd b k hk;have hlb:eL l b=true:=by
   cases hl:eL l b with
   | true=>rfl
   | false=>rw [kT hl] at hk;cases hk
  obtain⟨q,q1,q2,q3⟩:=eK hlb;rw [q3] at hk;rcases ih (rk k) (by omega) hik rfl with e | ⟨p,p1,p2,p3,p4⟩
  .obtain⟨c,c1,c2,c3⟩:=h.kids q q1 k hk;have:c=n:=mI h.nd c1 hn (by rw [c2,e]);subst this;refine .inr ⟨q,q1,c3.symm,by rw [e];exact hk,by rw [q2];exact mS hd b⟩
  exact .inr ⟨p,p1,p2,p3,Sh hd (by rw [q3];exact hk) p4⟩
theorem Ip(h:WT l rk) {p:ND} (hp:p∈l) {k:Int} (hk:k∈p.kids)(hb:p.ID∈dQ l rk b):k∈dQ l rk b:=
 aD1 h.Dec (Sh h.Dec (by rw [mZ h.nd hp];exact hk) (mS h.Dec k)) hb
theorem aA1(h:WT l rk) (hb:eL l b=true)(hi:i∈dQ l rk b):eL l i=true:=by
 have hd:=h.Dec;generalize hm:rk b=m;induction m using Nat.strongRecOn generalizing b with
 | _ m ih=>
  rcases uS hd hi with rfl | ⟨k,hk,hik⟩
  .exact hb
  have h1:=hd b k hk;obtain⟨q,q1,q2,q3⟩:=eK hb;rw [q3] at hk;obtain⟨c,c1,c2,_⟩:=h.kids q q1 k hk;exact ih (rk k) (by omega) (qR.2 ⟨c,c1,c2⟩) hik rfl
theorem aF3(h:WT l rk) {a:Int} :∀ {n:ND},n∈l->n.ID∈dQ l rk a->n.ID∈dQ l rk b->a∈dQ l rk b\/b∈dQ l rk a:=by
 intro n;have hd:=h.Dec;generalize hm:rk a - rk n.ID=m;induction m using Nat.strongRecOn generalizing n with
 | _ m ih=>
  intro hn ha hb;rcases Al h hn ha with e | ⟨p,p1,p2,p3,p4⟩
  .left;rw [<- e];exact hb
  rcases Al h hn hb with e | ⟨q,q1,q2,q3,q4⟩
  .right;rw [<- e];exact ha
  have:p=q:=mI h.nd p1 q1 (by rw [p2,q2]);subst this;have h1:=h.dec p p1 _ p3;have h2:=Sn hd p4;exact ih (rk a - rk p.ID) (by omega) rfl p1 p4 q4
theorem aDw(h:WT l rk):∀ {b:Int},(dQ l rk b).Nodup:=by
 intro b;have hd:=h.Dec;generalize hm:rk b=m;induction m using Nat.strongRecOn generalizing b with
 | _ m ih =>
  rw [jX hd];refine iM.2 ⟨fun hi=>?_,?_⟩
  .obtain⟨k,hk,hik⟩:=mE.1 hi;have h1:=hd b k hk;have h2:=Sn hd hik;omega
  cases hl:eL l b with
  | false=>rw [kT hl];simp [Sw]
  | true =>
   obtain⟨q,q1,q2,q3⟩:=eK hl;rw [q3];have key:∀K:List Int,K.Nodup->(∀k∈K,k∈q.kids)->(K.flatMap (dQ l rk)).Nodup:=by
    intro K;induction K with
    | nil=>intro _ _;simp
    | cons k K ihK =>
     intro hK hsub;have hK':=iM.1 hK;rw [gH,lI];have hk1:=h.dec q q1 k (hsub k (by simp));refine⟨ih (rk k) (by rw [q2] at hk1;omega) rfl,ihK hK'.2 fun j hj=>hsub j (by simp [hj]),fun i hi j hj hij=>?_⟩;subst hij;obtain⟨k2,hk2,hik2⟩:=mE.1 hj;have hne:k≠k2:=fun e=>hK'.1 (e ▸ hk2);have hk2q:=hsub k2 (by simp [hk2]);obtain⟨c,c1,c2,c3⟩:=h.kids q q1 k (hsub k (by simp));obtain⟨c',d1,d2,d3⟩:=h.kids q q1 k2 hk2q;have hisL:eL l i=true:=aA1 h (qR.2 ⟨c,c1,c2⟩) hi;obtain⟨n,n1,n2,_⟩:=eK hisL;have hk2':=h.dec q q1 k2 hk2q;rcases aF3 h n1 (by rw [n2];exact hi) (by rw [n2];exact hik2)with hc | hc
     .rcases Al h c1 (by rw [c2];exact hc)with e | ⟨p,p1,p2,p3,p4⟩
      .exact hne (by rw [<- c2,e])
      have:p=q:=mI h.nd p1 q1 (by rw [p2,c3]);subst this;have:=Sn hd p4;omega
     rcases Al h d1 (by rw [d2];exact hc)with e | ⟨p,p1,p2,p3,p4⟩
     .exact hne (by rw [<- d2,e])
     have:p=q:=mI h.nd p1 q1 (by rw [p2,d3]);subst this;have:=Sn hd p4;omega
   exact key q.kids (h.kn q q1) fun k hk=>hk
theorem Nr {α:Type} [DecidableEq α]:∀ {a b:List α},a.Nodup->(∀x∈a,x∈b)->a.length<=b.length
 | [],b,_,_=>iK _
 | x::a,b,hn,hs=>by
  have hn':=iM.1 hn;have hx:=hs x (by simp);have:=Nr (a:=a) (b:=b.erase x) hn'.2 fun y hy=>(List.mem_erase_of_ne (by rintro rfl;exact hn'.1 hy)).2 (hs y (by simp [hy]));rw [Nc hx] at this;have:=List.length_pos_of_mem hx;simp only [cG];omega
theorem aCh(h:WT l rk)(b:Int):(dQ l rk b).length<=l.length+1:=by
 cases hl:eL l b with
 | false=>rw [jX h.Dec,kT hl];simp [Sw]
 | true =>
  have:(dQ l rk b).length<=(l.map ND.ID).length:=Nr (aDw h) fun i hi=>by
   obtain⟨n,n1,n2,_⟩:=eK (aA1 h hl hi);rw [<- n2];exact aU.2 ⟨n,n1,rfl⟩
  simpa using Nat.le_succ_of_le this
theorem WT.Tr(h:WT l rk)(hl:l.length<=1000):Tr l (dQ l rk) rk:=
 ⟨jX h.Dec,h.Dec,fun id=>by have:=aCh h id;omega⟩
variable {d:DS}{e:EN}{rk:Int->Nat}
def pD:Option EN->D
 | some e=> .ref e.o 0
 | none=> .v (.pointer none)
theorem lP(e:EN):pD (some e)= .ref e.o 0:=rfl
theorem mN:pD none= .v (.pointer none):=rfl
@[simp] theorem kL(s:Option EN):(pD s).plain=true:=by cases s <;> rfl
@[simp] theorem kN(s:Option EN):(pD s).strip=pD s:=by cases s <;> rfl
@[simp] theorem aYu(s:Option EN):(pD s).s2=pD s:=by cases s <;> rfl
@[simp] theorem aYc(s:Option EN):(pD s).s1=pD s:=by cases s <;> rfl
def nx(d:DS)(id:Int):Option EN:=d.es.find? fun e=>decide (e.n.ID=id)
theorem aBv {id:Int} {p:EN} (h:nx d id=some p):p∈d.es/\p.n.ID=id:=by
 unfold nx at h;exact⟨Ny h,by simpa using List.find?_some h⟩
theorem aAs {id:Int} (h:nx d id=none):∀n∈d.l,n.ID≠id:=by
 intro n hn e;obtain⟨x,hx,rfl⟩:=aU.1 hn;unfold nx at h;rw [rX] at h;exact h x hx (by simpa using e)
theorem aHf(d:DS)(id:Int):Zg (d.es.map kvE) (.int .i64 id) (D.v (.pointer none)) (pD (nx d id)) false\/Zg (d.es.map kvE) (.int .i64 id) (D.v (.pointer none)) (pD (nx d id)) true:=by
 cases h:nx d id with
 | none=>
  left;refine Ar ?_ _;cases hl:eL (d.es.map EN.n) id with
  | false=>rfl
  | true=>obtain⟨n,h1,h2⟩:=qR.1 hl;exact absurd h2 (aAs h n h1)
 | some p=>
  right;obtain⟨h1,h2⟩:=aBv h;rw [<- h2];exact oH h1 _
theorem jL (he:e∈d.es):e.n∈d.l:=aU.2 ⟨e,he,rfl⟩
theorem aP5 (h:WT d.l rk) (he:e∈d.es) {b:Int} (hne:¬e.n.ID=b):(∀p,nx d e.n.parent=some p->p∈d.es/\(e.n.ID∈dQ d.l rk b↔p.n.ID∈dQ d.l rk b)/\rk e.n.ID<rk p.n.ID)/\(nx d e.n.parent=none->e.n.ID∉dQ d.l rk b):=by
 constructor
 .intro p hp;obtain⟨h1,h2⟩:=aBv hp;have hpn:=h.nn _ (jL h1);rcases h.par _ (jL he)with h3 | ⟨q,q1,q2,q3⟩
  .omega
  have hqp:q=p.n:=mI h.nd q1 (jL h1) (by rw [q2,h2]);subst hqp;refine⟨h1,⟨fun hb=>?_,fun hb=>Ip h q1 q3 hb⟩,h.dec _ q1 _ q3⟩;rcases Al h (jL he) hb with e1 | ⟨p',p1,p2,p3,p4⟩
  .exact absurd e1 hne
  have:=mI h.nd p1 q1 (by rw [p2,q2]);rw [<- this];exact p4
 intro hn hb;rcases Al h (jL he) hb with e1 | ⟨p',p1,p2,p3,p4⟩
 .exact hne e1
 exact aAs hn p' p1 p2
def wiM(R:Nat)(rk:Int->Nat):Option EN->Nat
 | none=>0
 | some e=>R+1 - rk e.n.ID
theorem aBd {R:Nat} {id b:Int} (h:WT d.l rk)(hR:∀e∈d.es,rk e.n.ID<=R) (he:e∈d.es)(hne:¬e.n.ID=b)(hi:id∈dQ d.l rk b↔e.n.ID∈dQ d.l rk b):
  ((∀p,nx d e.n.parent=some p->p∈d.es/\(id∈dQ d.l rk b↔p.n.ID∈dQ d.l rk b))/\(nx d e.n.parent=none->id∉dQ d.l rk b))/\wiM R rk (nx d e.n.parent)<wiM R rk (some e):=by
 obtain⟨h1,h2⟩:=aP5 h he hne;refine⟨⟨fun p hp=>?_,fun hn hb=>h2 hn (hi.1 hb)⟩,?_⟩
 .obtain⟨a,b,c⟩:=h1 p hp;exact⟨a,hi.trans b⟩
 have:=hR e he;cases hp:nx d e.n.parent with
 | none=>simp only [wiM];omega
 | some p=>
  obtain⟨a,b,c⟩:=h1 p hp;have:=hR p a;simp only [wiM];omega
theorem Ia(l:List Int)(i:Int):(l.any fun k=>decide (k=i))=decide (i∈l):=by
 rw [jA,oU,fN];exact⟨fun⟨x,h1,h2⟩=>by rw [<- xX h2];exact h1,fun h=>⟨i,h,by simp⟩⟩
theorem aRt(m M R:Nat)(d:DS)(rk:Int->Nat)(e0 f:EN)(σ:List (List D))(ho:DO m M d σ)(hwt:WT d.l rk)(hR:∀e∈d.es,rk e.n.ID<=R)(he0:e0∈d.es)(hf:f∈d.es):Ct prog 150 [.ref m 0,D.int e0.n.ID,D.int f.n.ID] σ (fun r σ'=>r= .bool (decide (e0.n.ID∈dQ d.l rk f.n.ID))/\σ'=σ):=by
 refine zf func150 ?_;have hq:=ho.hm;have hnn:=ho.hn;refine aZ fun _ _ Z=>?_;simp(disch:=omega)[hq,lP,mN,kL,kN,hnn];and_intros<;>(try omega)
 all_goals first | (generalize nx d e.n.parent=s9;cases s9 <;> rfl) | skip
 apply Z;apply aF;refine aZ fun _ _ Z=>?_;refine zs 6 fun _ Y=>?_;simp(disch:=omega)[hq,lP,mN,kL,kN,hnn];refine⟨m,2,d.ck,_,.ref f.o 0,⟨⟨_,hq,rfl⟩,tQ _,.inr (oH hf _)⟩,?_⟩;and_intros<;>(try omega)
 all_goals first | (generalize nx d e.n.parent=s9;cases s9 <;> rfl) | skip
 apply Y;simp(disch:=omega)[hq,lP,mN,kL,kN,hnn];and_intros<;>(try omega)
 all_goals first | (generalize nx d e.n.parent=s9;cases s9 <;> rfl) | skip
 apply Z;refine zI ?_ ?_<;>intro c1<;>try simp at c1
 apply zA;apply aF;refine aZ fun _ _ Z=>?_;refine zs 6 fun _ Y=>?_;simp(disch:=omega)[hq,lP,mN,kL,kN,hnn];refine⟨m,2,d.ck,_,.ref e0.o 0,⟨⟨_,hq,rfl⟩,tQ _,.inr (oH he0 _)⟩,?_⟩;and_intros<;>(try omega)
 all_goals first | (generalize nx d e.n.parent=s9;cases s9 <;> rfl) | skip
 apply Y;simp(disch:=omega)[hq,lP,mN,kL,kN,hnn];and_intros<;>(try omega)
 all_goals first | (generalize nx d e.n.parent=s9;cases s9 <;> rfl) | skip
 apply Z;apply aR;refine zk [0,2,6,7] ?_;refine aY (fun(s:Option EN)=> [(7,.d (pD s))]) [6,7,21,22,23,24,25,26,27,28,29,30,31,32,33,34,35,36,37] (fun(s:Option EN)=>(∀e,s=some e->e∈d.es/\(e0.n.ID∈dQ d.l rk f.n.ID↔e.n.ID∈dQ d.l rk f.n.ID))/\(s=none->e0.n.ID∉dQ d.l rk f.n.ID)) (fun(s:Option EN)=>wiM R rk s) (some e0) (by simp <;> rfl) ?_ ?_ ?_
 .simp [lP]
 .exact⟨fun e h=>by cases h;exact⟨he0,Iff.rfl⟩,fun h=>by cases h⟩
 rintro s ⟨hs1,hs2⟩;simp only [aQ,aP];obtain⟨e,rfl⟩ | rfl:(∃e,s=some e)\/s=none:=by cases s <;> simp
 .try simp only []
  obtain⟨he,hi⟩:=hs1 e rfl;apply aF;refine aZ fun _ _ Z=>?_;simp(disch:=omega)[hq,lP,mN,kL,kN,hnn];and_intros<;>(try omega)
  all_goals first | (generalize nx d e.n.parent=s9;cases s9 <;> rfl) | skip
  apply Z;refine aX (t:=true) (by simp) (fun _=>?_) (fun h=>by cases h);apply jY;refine aZ fun _ _ Z=>?_;simp(disch:=omega)[hq,lP,mN,kL,kN,hnn];and_intros<;>(try omega)
  all_goals first | (generalize nx d e.n.parent=s9;cases s9 <;> rfl) | skip
  apply Z;refine zI ?_ ?_<;>intro c2<;>try simp at c2
  .refine aZ fun _ _ Z=>?_;simp(disch:=omega)[hq,lP,mN,kL,kN,hnn];and_intros<;>(try omega)
   all_goals first | (generalize nx d e.n.parent=s9;cases s9 <;> rfl) | skip
   apply Z;apply aC;simp [aI];rw [hi,c2];exact mS hwt.Dec _
  apply nI;refine ze ⟨[],[],[],[],[]⟩ [.op {},.op {},.op {},.op {rO:=true},.op {},.op {},.op {},.op {rO:=true},.op {rO:=true},.op {}] fun all hall _ Z=>?_;refine lM 8 fun _ Y=>?_;simp(disch:=omega)[hq,lP,mN,kL,kN,hnn];and_intros<;>(try omega)
  all_goals first | (generalize nx d e.n.parent=s9;cases s9 <;> rfl) | skip
  apply Y;refine lM 1 fun _ Y=>?_;simp(disch:=omega)[hq,lP,mN,kL,kN,hnn];refine⟨m,2,d.ck,_,pD (nx d e.n.parent),⟨⟨_,hq,rfl⟩,tQ _,aHf d _⟩,?_⟩;and_intros<;>(try omega)
  all_goals first | (generalize nx d e.n.parent=s9;cases s9 <;> rfl) | skip
  apply Y;simp(disch:=omega)[hq,lP,mN,kL,kN,hnn];and_intros<;>(try omega)
  all_goals first | (generalize nx d e.n.parent=s9;cases s9 <;> rfl) | skip
  apply Z;refine zq (nx d e.n.parent) ?_ ?_ ?_
  .exact(aBd hwt hR he c2 hi).1
  .exact(aBd hwt hR he c2 hi).2
  simp(disch:=omega)[hq,lP,mN,kL,kN,hnn]
 try simp only []
 have hno:=hs2 rfl;apply aF;refine aZ fun _ _ Z=>?_;simp(disch:=omega)[hq,lP,mN,kL,kN,hnn];and_intros<;>(try omega)
 all_goals first | (generalize nx d e.n.parent=s9;cases s9 <;> rfl) | skip
 apply Z;refine aX (t:=false) (by simp) (fun h=>by cases h) (fun _=>?_);apply zE;refine aZ fun _ _ Z=>?_;simp(disch:=omega)[hq,lP,mN,kL,kN,hnn];and_intros<;>(try omega)
 all_goals first | (generalize nx d e.n.parent=s9;cases s9 <;> rfl) | skip
 apply Z;apply aC;simp [aI];exact hno
theorem aR2(m M:Nat)(d:DS)(id f:Int)(σ:List (List D))(ho:DO m M d σ)(hno:eL d.l f=false):Ct prog 150 [.ref m 0,D.int id,D.int f] σ (fun r σ'=>r= .bool false/\σ'=σ):=by
 refine zf func150 ?_;have hq:=ho.hm;refine aZ fun _ _ Z=>?_;simp[hq];apply Z;apply aF;refine aZ fun _ _ Z=>?_;refine zs 6 fun _ Y=>?_;simp[hq];refine⟨m,2,d.ck,_,.v (.pointer none),⟨⟨_,hq,rfl⟩,tQ _,.inl (Ar hno _)⟩,?_⟩;and_intros<;>(try omega);apply Y;simp[hq];apply Z;refine zI ?_ ?_<;>intro c1<;>try simp at c1
 refine aZ fun _ _ Z=>?_;simp[hq];apply Z;apply aC;simp [aI]
theorem aRr(m M:Nat)(d:DS)(id:Int)(f:EN)(σ:List (List D))(ho:DO m M d σ)(hf:f∈d.es)(hno:eL d.l id=false):Ct prog 150 [.ref m 0,D.int id,D.int f.n.ID] σ (fun r σ'=>r= .bool false/\σ'=σ):=by
 refine zf func150 ?_;have hq:=ho.hm;refine aZ fun _ _ Z=>?_;simp[hq];apply Z;apply aF;refine aZ fun _ _ Z=>?_;refine zs 6 fun _ Y=>?_;simp[hq];refine⟨m,2,d.ck,_,.ref f.o 0,⟨⟨_,hq,rfl⟩,tQ _,.inr (oH hf _)⟩,?_⟩;and_intros<;>(try omega);apply Y;simp[hq];apply Z;refine zI ?_ ?_<;>intro c1<;>try simp at c1
 apply zA;apply aF;refine aZ fun _ _ Z=>?_;refine zs 6 fun _ Y=>?_;simp[hq];refine⟨m,2,d.ck,_,.v (.pointer none),⟨⟨_,hq,rfl⟩,tQ _,.inl (Ar hno _)⟩,?_⟩;and_intros<;>(try omega);apply Y;simp[hq];apply Z;apply aR;refine zk [0,2,6,7] ?_;refine aY (fun(s:Unit)=> [(7,.d (.v (.pointer none)))]) [6,7,21,22,23,24,25,26,27,28,29,30,31,32,33,34,35,36,37] (fun(s:Unit)=>True) (fun(s:Unit)=>0) (()) (by simp <;> rfl) ?_ ?_ ?_
 .simp
 .trivial
 rintro s _;simp only [aQ,aP];apply aF;refine aZ fun _ _ Z=>?_;simp[hq];apply Z;refine zI ?_ ?_<;>intro c2<;>try simp at c2
 apply zE;refine aZ fun _ _ Z=>?_;simp[hq];apply Z;apply aC;simp [aI]
theorem aKr(l:List ND)(rk:Int->Nat):∃R,∀n∈l,rk n.ID<=R:=by
 induction l with
 | nil=>exact⟨0,fun n h=>by cases h⟩
 | cons a l ih=>
  obtain⟨R,hR⟩:=ih;refine⟨max R (rk a.ID),fun n h=>?_⟩;rcases bP.1 h with rfl | h
  .omega
  have:=hR n h;omega
theorem aF4(m M:Nat)(d:DS)(rk:Int->Nat)(id f:Int)(σ:List (List D))(ho:DO m M d σ)(hwt:WT d.l rk):Ct prog 150 [.ref m 0,D.int id,D.int f] σ (fun r σ'=>r= .bool (nY d.l (dQ d.l rk) id f)/\σ'=σ):=by
 unfold nY;cases hf:eL d.l f with
 | false=>simp only [Bool.and_false,Bool.false_and];exact aR2 m M d id f σ ho hf
 | true =>
  obtain⟨ef,hef,rfl,_⟩:=xR hf;cases hi:eL d.l id with
  | false=>simp only [Bool.false_and];exact aRr m M d id ef σ ho hef hi
  | true=>
   obtain⟨ei,hei,rfl,_⟩:=xR hi;obtain⟨R,hR⟩:=aKr d.l rk;rw [Ia];simp only [nT];exact aRt m M R d rk ei ef σ ho hwt (fun e he=>hR _ (jL he)) hei hef
end Go.Proofs.YtbgfljpnhhdkoaaGreat
