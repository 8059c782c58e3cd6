import Derived.Test.YtbgfljpnhhdkoaaGreatWkDr1
import Derived.Test.YtbgfljpnhhdkoaaGreatWkWv4
import Derived.Test.YtbgfljpnhhdkoaaGreatWkAr9
set_option linter.all false
set_option maxRecDepth 20000
set_option maxHeartbeats 8000000
open Go.Proofs.Tryz
namespace Go.Proofs.YtbgfljpnhhdkoaaGreat
open Go Go.Vm
variable {M k m:Nat}{b i:Int}{bel:Int->List Int}{d:DS}{l:List ND}{n:ND}{rk:Int->Nat}{α β:Type}{σ:List (List D)}
def vP {α β:Type} (nm:α->ByteArray)(mk:Bool->α->β)(A B:List α):List β:=(A.filter fun p=> !Kv nm B (nm p)).map (mk true)
def xS {α:Type} [DecidableEq α](nm:α->ByteArray)(A:List α)(p:α):Bool:=Kv nm A (nm p) && decide (A[lO nm A (nm p)]?=some p)
def tP {α β:Type} [DecidableEq α](nm:α->ByteArray)(mk:Bool->α->β)(A B:List α):List β:=(B.filter fun p=> !xS nm A p).map (mk false)
def jF {α β:Type} [DecidableEq α](nm:α->ByteArray)(mk:Bool->α->β)(a b:List α):List β:=vP nm mk (fY nm a) (fY nm b)++tP nm mk (fY nm a) (fY nm b)
theorem Wd {nm:α->ByteArray} {mk:Bool->α->β} {A B:List α} (hk:k<A.length)(h:¬Kv nm B (nm A[k])=true):vP nm mk (A.take (k+1)) B=vP nm mk (A.take k) B++ [mk true A[k]]:=by
 unfold vP;rw [bK A k hk,eP,oO (by simpa using h),dK];rfl
theorem aDd {nm:α->ByteArray} {mk:Bool->α->β} {A B:List α} (hk:k<A.length)(h:Kv nm B (nm A[k])=true):vP nm mk (A.take (k+1)) B=vP nm mk (A.take k) B:=by
 unfold vP;rw [bK A k hk,eP,oR (by simpa using h),mI,fZ]
theorem Dt [DecidableEq α] {nm:α->ByteArray} {mk:Bool->α->β} {A B:List α} (hk:k<B.length)(h:¬xS nm A B[k]=true):tP nm mk A (B.take (k+1))=tP nm mk A (B.take k)++ [mk false B[k]]:=by
 unfold tP;rw [bK B k hk,eP,oO (by simpa using h),dK];rfl
theorem aB1 [DecidableEq α] {nm:α->ByteArray} {mk:Bool->α->β} {A B:List α} (hk:k<B.length)(h:xS nm A B[k]=true):tP nm mk A (B.take (k+1))=tP nm mk A (B.take k):=by
 unfold tP;rw [bK B k hk,eP,oR (by simpa using h),mI,fZ]
theorem yG (nm:α->ByteArray)(mk:Bool->α->β)(A B:List α):(vP nm mk A B).length<=A.length:=by unfold vP;rw [bI];exact gE _ _
theorem Mf [DecidableEq α](nm:α->ByteArray)(mk:Bool->α->β)(A B:List α):(tP nm mk A B).length<=B.length:=by unfold tP;rw [bI];exact gE _ _
abbrev zD(b:Bool)(p:AT):SA:=if b then⟨true,p.name,⟨#[]⟩⟩else⟨false,p.name,p.value⟩
abbrev Ao(b:Bool)(p:PI):SI:=if b then⟨true,p.name,0⟩else⟨false,p.name,p.value⟩
@[simp] abbrev q28_1:Cfg:=⟨[0,1,4,5,14,15,16,17,33,63,72],[],[],[19,22,41,44,58],[]⟩
theorem aGh(a b:List AT)(σ:List (List D))(ha:a.length<=99999)(hb:b.length<=99999):Ct prog 118 [.sl false (a.map dU),.sl false (b.map dU)] σ (fun r σ'=>r= .sl true ((jF nA zD a b).map Sf)/\∃J,σ'=σ++J):=by
 refine zf func118 ?_;obtain⟨A,hA⟩:∃A,fY nA a=A:=⟨_,rfl⟩;obtain⟨B,hB⟩:∃B,fY nA b=B:=⟨_,rfl⟩;have hAl:A.length<=99999:=by rw [<- hA];have:=gZ nA a;omega
 have hBl:B.length<=99999:=by rw [<- hB];have:=gZ nA b;omega
 have hAs:Sorted nA A:=by rw [<- hA];exact jD nA a
 have hBs:Sorted nA B:=by rw [<- hB];exact jD nA b
 refine zr q28_1 fun _ _ Z=>?_;simp(disch:=omega)[fN,cE,bR,aB,aA,hA,hB];apply Z;refine zr q28_1 fun _ _ Z=>?_;refine zs 1 fun _ Y=>?_;simp(disch:=omega)[fN,cE,bR,aB,aA,hA,hB];apply Y;refine aE fun _ Y=>?_;simp(disch:=omega)[fN,cE,bR,aB,aA,hA,hB];refine cB (Lv a _ (by omega)) ?_;apply Y;refine zs 1 fun _ Y=>?_;simp(disch:=omega)[fN,cE,bR,aB,aA,hA,hB];apply Y;refine aE fun _ Y=>?_;simp(disch:=omega)[fN,cE,bR,aB,aA,hA,hB];refine cB (Lv b _ (by omega)) ?_;apply Y;simp(disch:=omega)[fN,cE,bR,aB,aA,hA,hB];apply Z;refine zr q28_1 fun _ _ Z=>?_;simp(disch:=omega)[fN,cE,bR,aB,aA,hA,hB];apply Z;apply aF;refine gW 0 2 rfl (by decide) fun cap rest hcap hcm hrest hk0 hes=>?_;subst hrest;simp only [bI] at hcap |-;rw [cW (f:=cA) (fun _=>rfl)];refine gW 1 2 rfl (by decide) fun cap2 rest hcap2 hcm2 hrest hk02 hes2=>?_;subst hrest;simp only [bI] at hcap2 |-;rw [cW (f:=cA) (fun _=>rfl)];simp only [bM,aP,aN,bB,bT,dF,Nat.reduceAdd];refine zr q28_1 fun _ _ Z=>?_;simp(disch:=omega)[fN,cE,bR,aB,aA,hA,hB];and_intros<;>(try omega);apply Z;apply aS;refine zk [0,1,4,5,18,19,20] ?_;refine aZ (fun(k:Nat)=> [(20,.d (.v (.int .i64 (k:Int)))),(5,.d (.sl true ((vP nA zD (A.take k) B).map Sf))),(7,.d (.any)),(8,.d (.any)),(9,.d (.any))]) [5,7,8,9,20,21,22,23,24,25,26,27,28,29,30,31,32,33,34,35,36,37,38,39] (fun(k:Nat)=>k<=A.length) (fun(k:Nat)=>A.length - k) (0) (by simp <;> rfl) ?_ ?_ ?_
 .simp [vP]
 .simp
 rintro k hk;simp only [aP,aN];have hdl:=yG nA zD (A.take k) B;simp only [bF] at hdl;refine zr q28_1 fun _ _ Z=>?_;simp(disch:=omega)[fN,cE,bR,aB,aA,hA,hB];apply Z;apply aF;refine zI ?_ ?_<;>intro c1<;>try simp at c1
 .apply kR;refine zr q28_1 fun _ _ Z=>?_;simp(disch:=omega)[fN,cE,bR,aB,aA,hA,hB];and_intros<;>(try omega);apply Z;refine zk [0,1,4,5,7,8,9,18,19,20] ?_;refine zr q28_1 fun _ _ Z=>?_;refine zs 3 fun _ Y=>?_;simp(disch:=omega)[fN,cE,bR,aB,aA,hA,hB];apply Y;refine aE fun _ Y=>?_;simp(disch:=omega)[fN,cE,bR,aB,aA,hA,hB];refine cB (Ty (σ.length+1) cap2 B _ A[k].name _ (by omega) (by simp [fN];rfl) hBs) ?_;apply Y;simp(disch:=omega)[fN,cE,bR,aB,aA,hA,hB];apply Z;refine zk [0,1,4,5,7,8,9,18,19,20] ?_;refine zr q28_1 fun _ _ Z=>?_;simp(disch:=omega)[fN,cE,bR,aB,aA,hA,hB];apply Z;refine zI ?_ ?_<;>intro c2<;>try simp at c2
  .have hds:vP nA zD (A.take (k+1)) B=vP nA zD (A.take k) B++ [⟨true,A[k].name,⟨#[]⟩⟩]:=Wd c1 (by simpa using c2);refine zk [0,1,4,5,7,8,9,18,19,20] ?_;refine zt q28_1 fun _ _ Z=>?_;simp(disch:=omega)[fN,cE,bR,aB,aA,hA,hB];and_intros<;>(try omega);apply Z;apply zB;refine zk [0,1,4,5,7,8,9,18,19,20] ?_;refine zt q28_1 fun _ _ Z=>?_;simp(disch:=omega)[fN,cE,bR,aB,aA,hA,hB];and_intros<;>(try omega);apply Z;refine zq (k+1) ?_ ?_ ?_
   .omega
   .try dsimp only
    omega
   simp(disch:=omega)[fN,cE,bR,aB,aA,hds,hA,hB]
  have hds:=aDd (nm:=nA) (mk:=zD) (B:=B) c1 (by simpa using c2);apply mM;refine zk [0,1,4,5,7,8,9,18,19,20] ?_;refine zt q28_1 fun _ _ Z=>?_;simp(disch:=omega)[fN,cE,bR,aB,aA,hA,hB];and_intros<;>(try omega);apply Z;refine zq (k+1) ?_ ?_ ?_
  .omega
  .try dsimp only
   omega
  simp(disch:=omega)[fN,cE,bR,aB,aA,hds,hA,hB]
 obtain rfl:k=A.length:=by omega
 simp only [eH];apply zE;apply aF;refine zr q28_1 fun _ _ Z=>?_;simp(disch:=omega)[fN,cE,bR,aB,aA,hA,hB];and_intros<;>(try omega);apply Z;apply aS;refine zk [0,4,5,40,41,42] ?_;refine aZ (fun(j:Nat)=> [(42,.d (.v (.int .i64 (j:Int)))),(5,.d (.sl true ((vP nA zD A B++tP nA zD A (B.take j)).map Sf))),(11,.d (.any)),(12,.d (.any)),(13,.d (.any))]) [5,11,12,13,42,43,44,45,46,47,48,49,50,51,52,53,54,55,56,57,58,59,60,61,62,63,64,65,66,67,68,69,70,71] (fun(j:Nat)=>j<=B.length) (fun(j:Nat)=>B.length - j) (0) (by simp <;> rfl) ?_ ?_ ?_
 .simp [tP]
 .simp
 rintro j hj;simp only [aP,aN];have hdl:=yG nA zD A B;have hsl:=Mf nA zD A (B.take j);simp only [bF] at hsl;refine zr q28_1 fun _ _ Z=>?_;simp(disch:=omega)[fN,cE,bR,aB,aA,hA,hB];apply Z;apply aF;refine zI ?_ ?_<;>intro c3<;>try simp at c3
 .apply kR;refine zr q28_1 fun _ _ Z=>?_;simp(disch:=omega)[fN,cE,bR,aB,aA,hA,hB];and_intros<;>(try omega);apply Z;refine zk [0,4,5,11,12,13,40,41,42] ?_;refine zr q28_1 fun _ _ Z=>?_;refine zs 3 fun _ Y=>?_;simp(disch:=omega)[fN,cE,bR,aB,aA,hA,hB];apply Y;refine aE fun _ Y=>?_;simp(disch:=omega)[fN,cE,bR,aB,aA,hA,hB];refine cB (Ty σ.length cap A _ B[j].name _ (by omega) (by simp [cE];rfl) hAs) ?_;apply Y;simp(disch:=omega)[fN,cE,bR,aB,aA,hA,hB];apply Z;refine zk [0,4,5,11,12,13,40,41,42] ?_;refine zd q28_1 [.op {},.op {},.op {},.op {},.op {},.op {},.op {rO:=true},.op {rL:=true},.op {},.op {}] fun all hall _ Z=>?_;have ga2:aT all 2=some 55:=hall 2;refine iU 3 fun _ Y=>?_;simp(disch:=omega)[fN,cE,bR,aB,aA,ga2,hA,hB];apply Y;refine Yg 55 ?_ ?_<;>intro g4<;>try simp at g4
  .have hss:tP nA zD A (B.take (j+1))=tP nA zD A (B.take j)++ [⟨false,B[j].name,B[j].value⟩]:=Dt c3 (by unfold xS;simp [g4]);simp(disch:=omega)[fN,cE,bR,aB,aA,ga2,hA,hB];apply Z;refine bS (t:=true) (by simp) (fun _=>?_) (fun h=>by cases h);refine zk [0,4,5,11,12,13,40,41,42] ?_;refine zt q28_1 fun _ _ Z=>?_;refine zs 8 fun _ Y=>?_;simp(disch:=omega)[fN,cE,bR,aB,aA,hA,hB];and_intros<;>(try omega);apply Y;simp(disch:=omega)[fN,cE,bR,aB,aA,hA,hB];apply Z;apply zB;refine zk [0,4,5,11,12,13,40,41,42] ?_;refine zt q28_1 fun _ _ Z=>?_;simp(disch:=omega)[fN,cE,bR,aB,aA,hA,hB];and_intros<;>(try omega);apply Z;refine zq (j+1) ?_ ?_ ?_
   .omega
   .try dsimp only
    omega
   simp(disch:=omega)[fN,cE,bR,aB,aA,hss,hA,hB]
  have hlt:=Bm nA g4;simp(disch:=omega)[fN,cE,bR,aB,aA,ga2,hA,hB];and_intros<;>(try omega);apply Z;refine zI ?_ ?_<;>intro c5<;>try simp at c5
  .have hss:tP nA zD A (B.take (j+1))=tP nA zD A (B.take j)++ [⟨false,B[j].name,B[j].value⟩]:=Dt c3 (by unfold xS;rw [g4,aQ hlt];simp only [lP,eO,bC];intro e;rw [e] at c5;simp at c5);refine zk [0,4,5,11,12,13,40,41,42] ?_;refine zt q28_1 fun _ _ Z=>?_;refine zs 8 fun _ Y=>?_;simp(disch:=omega)[fN,cE,bR,aB,aA,hA,hB];and_intros<;>(try omega);apply Y;simp(disch:=omega)[fN,cE,bR,aB,aA,hA,hB];apply Z;apply zB;refine zk [0,4,5,11,12,13,40,41,42] ?_;refine zt q28_1 fun _ _ Z=>?_;simp(disch:=omega)[fN,cE,bR,aB,aA,hA,hB];and_intros<;>(try omega);apply Z;refine zq (j+1) ?_ ?_ ?_
   .omega
   .try dsimp only
    omega
   simp(disch:=omega)[fN,cE,bR,aB,aA,hss,hA,hB]
  have hss:=aB1 (nm:=nA) (mk:=zD) c3 (by unfold xS;rw [g4,aQ hlt];simp only [lP,eO,bC];generalize A[lO nA A B[j].name]=x at c5 |-;generalize B[j]=y at c5 |-;cases x;cases y;simpa using c5);apply mM;refine zk [0,4,5,11,12,13,40,41,42] ?_;refine zt q28_1 fun _ _ Z=>?_;simp(disch:=omega)[fN,cE,bR,aB,aA,hA,hB];and_intros<;>(try omega);apply Z;refine zq (j+1) ?_ ?_ ?_
  .omega
  .try dsimp only
   omega
  simp(disch:=omega)[fN,cE,bR,aB,aA,hss,hA,hB]
 obtain rfl:j=B.length:=by omega
 simp only [eH];apply zE;refine zr q28_1 fun _ _ Z=>?_;simp(disch:=omega)[fN,cE,bR,aB,aA,hA,hB];apply Z;apply aD;simp [aK,jF,hA,hB]
theorem aHi(a b:List PI)(σ:List (List D))(ha:a.length<=99999)(hb:b.length<=99999):Ct prog 124 [.sl false (a.map cM),.sl false (b.map cM)] σ (fun r σ'=>r= .sl true ((jF nP Ao a b).map Il)/\∃J,σ'=σ++J):=by
 refine zf func124 ?_;obtain⟨A,hA⟩:∃A,fY nP a=A:=⟨_,rfl⟩;obtain⟨B,hB⟩:∃B,fY nP b=B:=⟨_,rfl⟩;have hAl:A.length<=99999:=by rw [<- hA];have:=gZ nP a;omega
 have hBl:B.length<=99999:=by rw [<- hB];have:=gZ nP b;omega
 have hAs:Sorted nP A:=by rw [<- hA];exact jD nP a
 have hBs:Sorted nP B:=by rw [<- hB];exact jD nP b
 refine zr q28_1 fun _ _ Z=>?_;simp(disch:=omega)[fN,cE,bR,aB,aA,hA,hB];apply Z;refine zr q28_1 fun _ _ Z=>?_;refine zs 1 fun _ Y=>?_;simp(disch:=omega)[fN,cE,bR,aB,aA,hA,hB];apply Y;refine aE fun _ Y=>?_;simp(disch:=omega)[fN,cE,bR,aB,aA,hA,hB];refine cB (Mm a _ (by omega)) ?_;apply Y;refine zs 1 fun _ Y=>?_;simp(disch:=omega)[fN,cE,bR,aB,aA,hA,hB];apply Y;refine aE fun _ Y=>?_;simp(disch:=omega)[fN,cE,bR,aB,aA,hA,hB];refine cB (Mm b _ (by omega)) ?_;apply Y;simp(disch:=omega)[fN,cE,bR,aB,aA,hA,hB];apply Z;refine zr q28_1 fun _ _ Z=>?_;simp(disch:=omega)[fN,cE,bR,aB,aA,hA,hB];apply Z;apply aF;refine gW 0 2 rfl (by decide) fun cap rest hcap hcm hrest hk0 hes=>?_;subst hrest;simp only [bI] at hcap |-;rw [cW (f:=cP) (fun _=>rfl)];refine gW 1 2 rfl (by decide) fun cap2 rest hcap2 hcm2 hrest hk02 hes2=>?_;subst hrest;simp only [bI] at hcap2 |-;rw [cW (f:=cP) (fun _=>rfl)];simp only [bM,aP,aN,bB,bT,dF,Nat.reduceAdd];refine zr q28_1 fun _ _ Z=>?_;simp(disch:=omega)[fN,cE,bR,aB,aA,hA,hB];and_intros<;>(try omega);apply Z;apply aS;refine zk [0,1,4,5,18,19,20] ?_;refine aZ (fun(k:Nat)=> [(20,.d (.v (.int .i64 (k:Int)))),(5,.d (.sl true ((vP nP Ao (A.take k) B).map Il))),(7,.d (.any)),(8,.d (.any)),(9,.d (.any))]) [5,7,8,9,20,21,22,23,24,25,26,27,28,29,30,31,32,33,34,35,36,37,38,39] (fun(k:Nat)=>k<=A.length) (fun(k:Nat)=>A.length - k) (0) (by simp <;> rfl) ?_ ?_ ?_
 .simp [vP]
 .simp
 rintro k hk;simp only [aP,aN];have hdl:=yG nP Ao (A.take k) B;simp only [bF] at hdl;refine zr q28_1 fun _ _ Z=>?_;simp(disch:=omega)[fN,cE,bR,aB,aA,hA,hB];apply Z;apply aF;refine zI ?_ ?_<;>intro c1<;>try simp at c1
 .apply kR;refine zr q28_1 fun _ _ Z=>?_;simp(disch:=omega)[fN,cE,bR,aB,aA,hA,hB];and_intros<;>(try omega);apply Z;refine zk [0,1,4,5,7,8,9,18,19,20] ?_;refine zr q28_1 fun _ _ Z=>?_;refine zs 3 fun _ Y=>?_;simp(disch:=omega)[fN,cE,bR,aB,aA,hA,hB];apply Y;refine aE fun _ Y=>?_;simp(disch:=omega)[fN,cE,bR,aB,aA,hA,hB];refine cB (Sz (σ.length+1) cap2 B _ A[k].name _ (by omega) (by simp [fN];rfl) hBs) ?_;apply Y;simp(disch:=omega)[fN,cE,bR,aB,aA,hA,hB];apply Z;refine zk [0,1,4,5,7,8,9,18,19,20] ?_;refine zr q28_1 fun _ _ Z=>?_;simp(disch:=omega)[fN,cE,bR,aB,aA,hA,hB];apply Z;refine zI ?_ ?_<;>intro c2<;>try simp at c2
  .have hds:vP nP Ao (A.take (k+1)) B=vP nP Ao (A.take k) B++ [⟨true,A[k].name,0⟩]:=Wd c1 (by simpa using c2);refine zk [0,1,4,5,7,8,9,18,19,20] ?_;refine zt q28_1 fun _ _ Z=>?_;simp(disch:=omega)[fN,cE,bR,aB,aA,hA,hB];and_intros<;>(try omega);apply Z;apply zB;refine zk [0,1,4,5,7,8,9,18,19,20] ?_;refine zt q28_1 fun _ _ Z=>?_;simp(disch:=omega)[fN,cE,bR,aB,aA,hA,hB];and_intros<;>(try omega);apply Z;refine zq (k+1) ?_ ?_ ?_
   .omega
   .try dsimp only
    omega
   simp(disch:=omega)[fN,cE,bR,aB,aA,hds,hA,hB]
  have hds:=aDd (nm:=nP) (mk:=Ao) (B:=B) c1 (by simpa using c2);apply mM;refine zk [0,1,4,5,7,8,9,18,19,20] ?_;refine zt q28_1 fun _ _ Z=>?_;simp(disch:=omega)[fN,cE,bR,aB,aA,hA,hB];and_intros<;>(try omega);apply Z;refine zq (k+1) ?_ ?_ ?_
  .omega
  .try dsimp only
   omega
  simp(disch:=omega)[fN,cE,bR,aB,aA,hds,hA,hB]
 obtain rfl:k=A.length:=by omega
 simp only [eH];apply zE;apply aF;refine zr q28_1 fun _ _ Z=>?_;simp(disch:=omega)[fN,cE,bR,aB,aA,hA,hB];and_intros<;>(try omega);apply Z;apply aS;refine zk [0,4,5,40,41,42] ?_;refine aZ (fun(j:Nat)=> [(42,.d (.v (.int .i64 (j:Int)))),(5,.d (.sl true ((vP nP Ao A B++tP nP Ao A (B.take j)).map Il))),(11,.d (.any)),(12,.d (.any)),(13,.d (.any))]) [5,11,12,13,42,43,44,45,46,47,48,49,50,51,52,53,54,55,56,57,58,59,60,61,62,63,64,65,66,67,68,69,70,71] (fun(j:Nat)=>j<=B.length) (fun(j:Nat)=>B.length - j) (0) (by simp <;> rfl) ?_ ?_ ?_
 .simp [tP]
 .simp
 rintro j hj;simp only [aP,aN];have hdl:=yG nP Ao A B;have hsl:=Mf nP Ao A (B.take j);simp only [bF] at hsl;refine zr q28_1 fun _ _ Z=>?_;simp(disch:=omega)[fN,cE,bR,aB,aA,hA,hB];apply Z;apply aF;refine zI ?_ ?_<;>intro c3<;>try simp at c3
 .apply kR;refine zr q28_1 fun _ _ Z=>?_;simp(disch:=omega)[fN,cE,bR,aB,aA,hA,hB];and_intros<;>(try omega);apply Z;refine zk [0,4,5,11,12,13,40,41,42] ?_;refine zr q28_1 fun _ _ Z=>?_;refine zs 3 fun _ Y=>?_;simp(disch:=omega)[fN,cE,bR,aB,aA,hA,hB];apply Y;refine aE fun _ Y=>?_;simp(disch:=omega)[fN,cE,bR,aB,aA,hA,hB];refine cB (Sz σ.length cap A _ B[j].name _ (by omega) (by simp [cE];rfl) hAs) ?_;apply Y;simp(disch:=omega)[fN,cE,bR,aB,aA,hA,hB];apply Z;refine zk [0,4,5,11,12,13,40,41,42] ?_;refine zd q28_1 [.op {},.op {},.op {},.op {},.op {},.op {},.op {rO:=true},.op {rL:=true},.op {},.op {}] fun all hall _ Z=>?_;have ga2:aT all 2=some 55:=hall 2;refine iU 3 fun _ Y=>?_;simp(disch:=omega)[fN,cE,bR,aB,aA,ga2,hA,hB];apply Y;refine Yg 55 ?_ ?_<;>intro g4<;>try simp at g4
  .have hss:tP nP Ao A (B.take (j+1))=tP nP Ao A (B.take j)++ [⟨false,B[j].name,B[j].value⟩]:=Dt c3 (by unfold xS;simp [g4]);simp(disch:=omega)[fN,cE,bR,aB,aA,ga2,hA,hB];apply Z;refine bS (t:=true) (by simp) (fun _=>?_) (fun h=>by cases h);refine zk [0,4,5,11,12,13,40,41,42] ?_;refine zt q28_1 fun _ _ Z=>?_;refine zs 8 fun _ Y=>?_;simp(disch:=omega)[fN,cE,bR,aB,aA,hA,hB];and_intros<;>(try omega);apply Y;simp(disch:=omega)[fN,cE,bR,aB,aA,hA,hB];apply Z;apply zB;refine zk [0,4,5,11,12,13,40,41,42] ?_;refine zt q28_1 fun _ _ Z=>?_;simp(disch:=omega)[fN,cE,bR,aB,aA,hA,hB];and_intros<;>(try omega);apply Z;refine zq (j+1) ?_ ?_ ?_
   .omega
   .try dsimp only
    omega
   simp(disch:=omega)[fN,cE,bR,aB,aA,hss,hA,hB]
  have hlt:=Bm nP g4;simp(disch:=omega)[fN,cE,bR,aB,aA,ga2,hA,hB];and_intros<;>(try omega);apply Z;refine zI ?_ ?_<;>intro c5<;>try simp at c5
  .have hss:tP nP Ao A (B.take (j+1))=tP nP Ao A (B.take j)++ [⟨false,B[j].name,B[j].value⟩]:=Dt c3 (by unfold xS;rw [g4,aQ hlt];simp only [lP,eO,bC];intro e;rw [e] at c5;simp at c5);refine zk [0,4,5,11,12,13,40,41,42] ?_;refine zt q28_1 fun _ _ Z=>?_;refine zs 8 fun _ Y=>?_;simp(disch:=omega)[fN,cE,bR,aB,aA,hA,hB];and_intros<;>(try omega);apply Y;simp(disch:=omega)[fN,cE,bR,aB,aA,hA,hB];apply Z;apply zB;refine zk [0,4,5,11,12,13,40,41,42] ?_;refine zt q28_1 fun _ _ Z=>?_;simp(disch:=omega)[fN,cE,bR,aB,aA,hA,hB];and_intros<;>(try omega);apply Z;refine zq (j+1) ?_ ?_ ?_
   .omega
   .try dsimp only
    omega
   simp(disch:=omega)[fN,cE,bR,aB,aA,hss,hA,hB]
  have hss:=aB1 (nm:=nP) (mk:=Ao) c3 (by unfold xS;rw [g4,aQ hlt];simp only [lP,eO,bC];generalize A[lO nP A B[j].name]=x at c5 |-;generalize B[j]=y at c5 |-;cases x;cases y;simpa using c5);apply mM;refine zk [0,4,5,11,12,13,40,41,42] ?_;refine zt q28_1 fun _ _ Z=>?_;simp(disch:=omega)[fN,cE,bR,aB,aA,hA,hB];and_intros<;>(try omega);apply Z;refine zq (j+1) ?_ ?_ ?_
  .omega
  .try dsimp only
   omega
  simp(disch:=omega)[fN,cE,bR,aB,aA,hss,hA,hB]
 obtain rfl:j=B.length:=by omega
 simp only [eH];apply zE;refine zr q28_1 fun _ _ Z=>?_;simp(disch:=omega)[fN,cE,bR,aB,aA,hA,hB];apply Z;apply aD;simp [aK,jF,hA,hB]
structure WD(d:DS)(bel:Int->List Int)(rk:Int->Nat):Prop where
 nb:NB d.l
 ids:∀e∈d.es,aG d.l e.n.ID=e.n
 tr:Tr d.l bel rk
 kids:∀e∈d.es,∀k∈e.n.kids,eN d.l k=true
theorem DO.lt (h:DO m M d σ) {e:EN} (he:e∈d.es):e.o<σ.length:=lC (h.hn e he)
theorem DO.app (h:DO m M d σ)(J:List (List D)):DO m M d (σ++J):=
 ⟨fB h.hm J,fun e he=>fB (h.hn e he) J,h.nm,h.nd,by rw [bB];have:=h.hM;omega⟩
theorem EF.of {q:Nat} (h:DO m M d σ)(hw:WD d bel rk)(hq:σ.length<=q):EF m q d bel rk:=
 ⟨by have:=lC h.hm;omega,fun e he=>by have:=h.lt he;omega,h.nm,h.nd,hw.nb,hw.ids,hw.tr,hw.kids⟩
theorem EO.of (h:DO m M d σ)(hw:WD d bel rk)(id:Int):EO m M σ.length d bel id [] (σ++ [[.xs 1 []]]):=
 ⟨fB h.hm _,fun i _ e he _=>fB (h.hn e he) _,by simp,by have:=hw.tr.len id;simp;omega⟩
theorem aGe(m M:Nat)(d:DS)(bel:Int->List Int)(rk:Int->Nat)(σ:List (List D))(ho:DO m M d σ)(hw:WD d bel rk)(h0:eN d.l 0=true):Ct prog 84 [.ref m 0] σ (fun r σ'=>r= .xs 1 ((bel 0).map D.int)/\∃J,σ'=σ++J):=by
 refine zf func84 ?_;refine zr ⟨[2,7],[],[3],[],[]⟩ fun _ _ Z=>?_;simp[aY,aR,aL,aJ];apply Z;refine zr ⟨[2,7],[],[3],[],[]⟩ fun _ _ Z=>?_;simp[aY,aR,aL,aJ];and_intros<;>(try omega);apply Z;refine yH σ.length 0 1 (by simp [aL];rfl) rfl ?_;simp only [aJ,eQ];refine zr ⟨[2,7],[],[3],[],[]⟩ fun _ _ Z=>?_;refine zs 2 fun _ Y=>?_;simp[aY,aR,aL,aJ];and_intros<;>(try omega);apply Y;refine aE fun _ Y=>?_;simp[aY,aR,aL,aJ];refine cB (aDi m M σ.length 166 d bel rk 0 [] _ (aEw σ.length) (EF.of ho hw (aV _)) h0 (EO.of ho hw 0)) ?_;simp only [aJ,eQ,aN];apply Y;simp only [eE];apply Z;refine zr ⟨[2,7],[],[3],[],[]⟩ fun _ _ Z=>?_;simp[aY,aR,aL,aJ];apply Z;apply aD;simp [aK]
theorem aF6(m M:Nat)(d:DS)(bel:Int->List Int)(rk:Int->Nat)(σ:List (List D))(ho:DO m M d σ)(hw:WD d bel rk)(h0:eN d.l 0=true):Ct prog 84 [.ref m 0] σ (fun r σ'=>r= .xs 1 ((bel 0).map D.int)/\σ'=σ):=
 xA (aGe m M d bel rk σ ho hw h0) fun r hr=>by rw [hr];exact aEa _ _
theorem aJ0(m M:Nat)(d:DS)(bel:Int->List Int)(rk:Int->Nat)(σ:List (List D))(ho:DO m M d σ)(hw:WD d bel rk)(h0:eN d.l 0=true):Ct prog 84 [.ref m 0] σ (fun r σ'=>r= .sl false ((bel 0).map D.int)/\σ'=σ):=
 (aF6 m M d bel rk σ ho hw h0).freeze fun _ _ h=>h
theorem aHg(m M:Nat)(d:DS)(id:Int)(σ:List (List D))(ho:DO m M d σ)(hno:eN d.l id=false):Ct prog 87 [.ref m 0,D.int id] σ (fun r σ'=>r= .int (-1)/\σ'=σ):=by
 refine zf func87 ?_;have hq:=ho.hm;refine bE fun _ _ Z=>?_;simp[hq];apply Z;refine bE fun _ _ Z=>?_;refine zs 6 fun _ Y=>?_;simp[hq];refine⟨m,2,d.ck,_,.v (.pointer none),⟨⟨_,hq,rfl⟩,mT _,.inl (tK hno _)⟩,?_⟩;and_intros<;>(try omega);apply Y;simp[hq];apply Z;apply aF;refine pB ⟨[],[],[],[],[]⟩ fun all hall _ Z=>?_;have ga2:aT all 2=some 14:=hall 2;refine zs 3 fun _ Y=>?_;simp[hq,ga2];apply Y;refine zb 14 ?_ ?_<;>intro g1<;>try simp at g1
 simp[hq,ga2];apply Z;refine bS (t:=true) (by simp) (fun _=>?_) (fun h=>by cases h);refine zk [0,1,4,5] ?_;refine bE fun _ _ Z=>?_;simp[hq];apply Z;apply aD;simp [aK]
theorem aGr(m M:Nat)(d:DS)(e:EN)(σ:List (List D))(ho:DO m M d σ)(he:e∈d.es)(hp:e.n.parent= -1):Ct prog 87 [.ref m 0,D.int e.n.ID] σ (fun r σ'=>r= .int (-1)/\σ'=σ):=by
 refine zf func87 ?_;have hq:=ho.hm;have hne:=ho.hn e he;refine bE fun _ _ Z=>?_;simp[hq,hne,hp];apply Z;refine bE fun _ _ Z=>?_;refine zs 6 fun _ Y=>?_;simp[hq,hne,hp];refine⟨m,2,d.ck,_,.ref e.o 0,⟨⟨_,hq,rfl⟩,mT _,.inr (iL he _)⟩,?_⟩;and_intros<;>(try omega);apply Y;simp[hq,hne,hp];apply Z;apply aF;refine pB ⟨[],[],[],[],[]⟩ fun all hall _ Z=>?_;have ga2:aT all 2=some 14:=hall 2;refine zs 3 fun _ Y=>?_;simp[hq,hne,hp,ga2];apply Y;refine zb 14 ?_ ?_<;>intro g1<;>try simp at g1
 simp[hq,hne,hp,ga2];apply Z;refine zI ?_ ?_<;>intro c2<;>try simp at c2
 refine zk [0,1,4,5] ?_;refine bE fun _ _ Z=>?_;simp[hq,hne,hp];apply Z;apply aD;simp [aK]
theorem aGf(m M:Nat)(d:DS)(e p:EN)(σ:List (List D))(ho:DO m M d σ)(he:e∈d.es)(hp:p∈d.es)(hpp:p.n.ID=e.n.parent)(hnn:¬e.n.parent= -1)(hoo:e.o≠p.o)(hk:p.n.kids.length<=1000):Ct prog 87 [.ref m 0,D.int e.n.ID] σ (fun r σ'=>r= .int (Lb e.n.ID p.n.kids)/\∃J,σ'=σ++J):=by
 refine zf func87 ?_;have hq2:∀cs J,(σ.set p.o cs++J)[m]?=some (sW M d):=fun cs J=>by rw [aW (by simpa using lC ho.hm),eY (ho.nm p hp)];exact ho.hm
 have he2:∀cs J,(σ.set p.o cs++J)[e.o]?=some (gT e.n):=fun cs J=>by rw [aW (by simpa using lC (ho.hn e he)),eY (gP hoo)];exact ho.hn e he
 have hpc:=ho.hn p hp;refine nR p.o 8 1 (es:=p.n.kids.map D.int) hpc rfl (by decide) fun cap rest hcap hcm hrest hes=>?_;simp only [bI,aG8] at hcap hrest |-;rw [gH (f:=D.int) (fun _=>rfl)];refine bE fun _ _ Z=>?_;simp[hq2,he2,dE hpc,hnn,aY,aR,aL,aJ];apply Z;refine bE fun _ _ Z=>?_;refine zs 6 fun _ Y=>?_;simp[hq2,he2,dE hpc,hnn,aY,aR,aL,aJ];refine⟨m,2,d.ck,_,.ref e.o 0,⟨⟨_,hq2 _ _,rfl⟩,mT _,.inr (iL he _)⟩,?_⟩;and_intros<;>(try omega);apply Y;simp[hq2,he2,dE hpc,hnn,aY,aR,aL,aJ];apply Z;apply aF;refine pB ⟨[],[],[],[],[]⟩ fun all hall _ Z=>?_;have ga2:aT all 2=some 14:=hall 2;refine zs 3 fun _ Y=>?_;simp[hq2,he2,dE hpc,hnn,aY,aR,aL,aJ,ga2];apply Y;refine zb 14 ?_ ?_<;>intro g1<;>try simp at g1
 simp[hq2,he2,dE hpc,hnn,aY,aR,aL,aJ,ga2];apply Z;refine zI ?_ ?_<;>intro c2<;>try simp at c2
 apply zA;refine zk [0,1,4,5] ?_;refine zd ⟨[],[],[],[],[]⟩ [.op {},.op {},.op {},.op {rO:=true},.op {},.op {},.op {},.op {rO:=true},.op {rO:=true},.op {},.op {},.op {rO:=true},.op {},.read,.op {}] fun all hall _ Z=>?_;refine iU 8 fun _ Y=>?_;simp[hq2,he2,dE hpc,hnn,aY,aR,aL,aJ];apply Y;refine iU 1 fun _ Y=>?_;simp[hq2,he2,dE hpc,hnn,aY,aR,aL,aJ];rw [<- hpp];refine⟨m,2,d.ck,_,.ref p.o 0,⟨⟨_,hq2 _ _,rfl⟩,mT _,.inr (iL hp _)⟩,?_⟩;and_intros<;>(try omega);apply Y;refine iU 4 fun _ Y=>?_;simp[hq2,he2,dE hpc,hnn,aY,aR,aL,aJ];apply Y;refine dL fun _ Y=>?_;simp[hq2,he2,dE hpc,hnn,aY,aR,aL,aJ];refine zdr (Fm σ.length cap p.n.kids rest e.n.ID _ (by omega) (by simp [cX])) ?_;apply Y;simp[hq2,he2,dE hpc,hnn,aY,aR,aL,aJ];apply Z;refine rH p.o 8 1 σ.length p.n.kids.length cap (p.n.kids.map D.int) _ (p.n.kids.map D.int++rest) (dE hpc _ _) rfl (by simp [cX]) (by have:=lC hpc;omega) (by decide) (by simp [hrest];omega) (by simp) hes (by rw [gH (f:=D.int) (fun _=>rfl)];exact cD _ _) ?_;simp only [aG8,eG hpc,cO];rw [nU hpc];apply aD;simp [aK]
structure WP(d:DS):Prop where
 par:∀e∈d.es,e.n.parent= -1\/∃p∈d.es,p.n.ID=e.n.parent/\p.o≠e.o
 nn:∀e∈d.es,0<=e.n.ID
theorem Ri(m M:Nat)(d:DS)(id:Int)(σ:List (List D))(ho:DO m M d σ)(hx:NB d.l)(hp:WP d)(hids:∀e∈d.es,aG d.l e.n.ID=e.n):Ct prog 87 [.ref m 0,D.int id] σ (fun r σ'=>r= .int (Bu d.l id)/\σ'=σ):=by
 cases hl:eN d.l id with
 | false=>
  have e:Bu d.l id= -1:=by unfold Bu;rw [aC (by rw [hl];simp)]
  rw [e];exact aHg m M d id σ ho hl
 | true =>
  obtain⟨e,he,rfl,hf⟩:=pJ hl;rcases hp.par e he with h1 | ⟨p,hp1,hp2,hp3⟩
  .have e1:Bu d.l e.n.ID= -1:=by unfold Bu;rw [hf,aC (by rintro⟨_,h⟩;omega)]
   rw [e1];exact aGr m M d e σ ho he h1
  have hnn:=hp.nn p hp1;have e1:Bu d.l e.n.ID=Lb e.n.ID p.n.kids:=by
   unfold Bu;rw [hf,aI ⟨hl,by omega⟩,<- hp2,hids p hp1]
  rw [e1];exact xA (aGf m M d e p σ ho he hp1 hp2 (by omega) (gP hp3) (hx.en hp1).1) fun r hr=>by rw [hr];exact Sc.v _
structure WT(l:List ND)(rk:Int->Nat):Prop where
 nd:(l.map ND.ID).Nodup
 kids:∀n∈l,∀k∈n.kids,∃c∈l,c.ID=k/\c.parent=n.ID
 par:∀n∈l,n.parent= -1\/∃p∈l,p.ID=n.parent/\n.ID∈p.kids
 nn:∀n∈l,0<=n.ID
 kn:∀n∈l,n.kids.Nodup
 dec:∀n∈l,∀k∈n.kids,rk k<rk n.ID
def Jo:Nat->List ND->Int->List Int
 | 0,_,id=> [id]
 | f+1,l,id=>id::(aG l id).kids.flatMap (Jo f l)
def cF(l:List ND)(rk:Int->Nat)(id:Int):List Int:=Jo (rk id) l id
theorem lZ (h:(l.map ND.ID).Nodup) {a b:ND} (ha:a∈l)(hb:b∈l)(e:a.ID=b.ID):a=b:=by
 obtain⟨i,hi,rfl⟩:=kN ha;obtain⟨j,hj,rfl⟩:=kN hb;have hp:=pZ.1 h;rcases sH i j with h1 | rfl | h1
 .exact absurd e (by have:=hp i j (by simpa using hi) (by simpa using hj) h1;rwa [jM,jM] at this)
 .rfl
 exact absurd e.symm (by have:=hp j i (by simpa using hj) (by simpa using hi) h1;rwa [jM,jM] at this)
theorem Na (h:(l.map ND.ID).Nodup) (hn:n∈l):mF l n.ID=some n:=by
 cases e:mF l n.ID with
 | none=>
  unfold mF at e;rw [qC] at e;exact absurd (by simp:decide (n.ID=n.ID)=true) (e n hn)
 | some m=>
  obtain⟨h1,h2⟩:=oQ e;rw [lZ h h1 hn h2]
theorem nO (h:(l.map ND.ID).Nodup) (hn:n∈l):aG l n.ID=n:=by unfold aG;rw [Na h hn];rfl
theorem aOv (h:(l.map ND.ID).Nodup) (hn:n∈l):eN l n.ID=true:=by unfold eN;rw [Na h hn];rfl
theorem fE {id:Int} (h:eN l id=true):∃n∈l,n.ID=id/\aG l id=n:=by
 unfold eN at h;cases hq:mF l id with
 | none=>rw [hq] at h;cases h
 | some n=>obtain⟨h1,h2⟩:=oQ hq;exact⟨n,h1,h2,by unfold aG;rw [hq];rfl⟩
theorem jT {id:Int} (h:eN l id=false):aG l id=Ud:=by
 unfold aG;unfold eN at h;cases hq:mF l id with
 | none=>rfl
 | some n=>rw [hq] at h;cases h
theorem nB {id:Int} :eN l id=true↔∃n∈l,n.ID=id:=by
 constructor
 .intro h;obtain⟨n,h1,h2,_⟩:=fE h;exact⟨n,h1,h2⟩
 rintro⟨n,h1,rfl⟩;cases h:eN l n.ID with
 | true=>rfl
 | false=>exact absurd rfl (Al h n h1)
def Dec(l:List ND)(rk:Int->Nat):Prop:=∀id,∀k∈(aG l id).kids,rk k<rk id
theorem WT.Dec (h:WT l rk):Dec l rk:=fun id k hk=>by
 cases hl:eN l id with
 | false=>rw [jT hl] at hk;cases hk
 | true=>
  obtain⟨n,h1,h2,h3⟩:=fE hl;rw [h3] at hk;rw [<- h2];exact h.dec n h1 k hk
theorem lQ {l:List α} {f g:α->List β} (h:∀a∈l,f a=g a):l.flatMap f=l.flatMap g:=by
 induction l with
 | nil=>rfl
 | cons a l ih=>rw [gM,gM,h a (by simp),ih fun b hb=>h b (by simp [hb])]
theorem Dec.nil (hd:Dec l rk) {id:Int} (h:rk id=0):(aG l id).kids= []:=
 Pi.2 fun k hk=>by have:=hd id k hk;omega
theorem Sl (hd:Dec l rk):∀(f g:Nat) (id:Int),rk id<=f->rk id<=g->Jo f l id=Jo g l id
 | 0,0,id,_,_=>rfl
 | 0,g+1,id,h,_=>by simp [Jo,hd.nil (show rk id=0 by omega)]
 | f+1,0,id,_,h=>by simp [Jo,hd.nil (show rk id=0 by omega)]
 | f+1,g+1,id,h1,h2=>by
  simp only [Jo];congr 1;exact lQ fun k hk=>Sl hd f g k (by have:=hd id k hk;omega) (by have:=hd id k hk;omega)
theorem jI (hd:Dec l rk)(id:Int):cF l rk id=id::(aG l id).kids.flatMap (cF l rk):=by
 unfold cF;rw [Sl hd (rk id) (rk id+1) id (aV _) (by omega)];simp only [Jo];congr 1;exact lQ fun k hk=>Sl hd (rk id) (rk k) k (by have:=hd id k hk;omega) (aV _)
theorem nH (hd:Dec l rk)(id:Int):id∈cF l rk id:=by rw [jI hd];exact kO
theorem Tj (hd:Dec l rk) {id k:Int} (hk:k∈(aG l id).kids)(hi:i∈cF l rk k):i∈cF l rk id:=by
 rw [jI hd];exact lE _ (kQ.2 ⟨k,hk,hi⟩)
theorem uZ (hd:Dec l rk) {id:Int} (h:i∈cF l rk id):i=id\/∃k∈(aG l id).kids,i∈cF l rk k:=by
 rw [jI hd] at h;rcases bU.1 h with h | h
 .exact .inl h
 obtain⟨k,h1,h2⟩:=kQ.1 h;exact .inr ⟨k,h1,h2⟩
theorem aSx (hd:Dec l rk):∀(n:Nat) (id:Int),rk id<=n->∀i∈cF l rk id,rk i<=rk id:=by
 intro n;induction n with
 | zero=>
  intro id hn i hi;rcases uZ hd hi with rfl | ⟨k,hk,_⟩
  .exact aV _
  have:=hd id k hk;omega
 | succ n ih=>
  intro id hn i hi;rcases uZ hd hi with rfl | ⟨k,hk,hik⟩
  .exact aV _
  have h1:=hd id k hk;have:=ih k (by omega) i hik;omega
theorem Rq (hd:Dec l rk) {id:Int} (h:i∈cF l rk id):rk i<=rk id:=aSx hd (rk id) id (aV _) i h
theorem aE2 (hd:Dec l rk) {a:Int} (hab:a∈cF l rk b):∀ {c:Int},b∈cF l rk c->a∈cF l rk c:=by
 intro c;generalize hn:rk c=n;induction n using Nat.strongRecOn generalizing c with
 | _ n ih=>
  intro hbc;rcases uZ hd hbc with rfl | ⟨k,hk,hik⟩
  .exact hab
  have h1:=hd c k hk;exact Tj hd hk (ih (rk k) (by omega) rfl hik)
theorem xH(h:WT l rk) (hn:n∈l) (hb:n.ID∈cF l rk b):n.ID=b\/∃p∈l,p.ID=n.parent/\n.ID∈p.kids/\p.ID∈cF l rk b:=by
 have hd:=h.Dec;generalize hm:rk b=m;induction m using Nat.strongRecOn generalizing b with
 | _ m ih =>
  rcases uZ hd hb with e | ⟨k,hk,hik⟩
  .exact .inl e
  have h1:=hd b k hk;have hlb:eN l b=true:=by
   cases hl:eN l b with
   | true=>rfl
   | false=>rw [jT hl] at hk;cases hk
  obtain⟨q,q1,q2,q3⟩:=fE hlb;rw [q3] at hk;rcases ih (rk k) (by omega) hik rfl with e | ⟨p,p1,p2,p3,p4⟩
  .obtain⟨c,c1,c2,c3⟩:=h.kids q q1 k hk;have:c=n:=lZ h.nd c1 hn (by rw [c2,e]);subst this;refine .inr ⟨q,q1,c3.symm,by rw [e];exact hk,by rw [q2];exact nH hd b⟩
  exact .inr ⟨p,p1,p2,p3,Tj hd (by rw [q3];exact hk) p4⟩
theorem Lj(h:WT l rk) {p:ND} (hp:p∈l) {k:Int} (hk:k∈p.kids)(hb:p.ID∈cF l rk b):k∈cF l rk b:=
 aE2 h.Dec (Tj h.Dec (by rw [nO h.nd hp];exact hk) (nH h.Dec k)) hb
theorem aB3(h:WT l rk) (hb:eN l b=true)(hi:i∈cF l rk b):eN l i=true:=by
 have hd:=h.Dec;generalize hm:rk b=m;induction m using Nat.strongRecOn generalizing b with
 | _ m ih=>
  rcases uZ hd hi with rfl | ⟨k,hk,hik⟩
  .exact hb
  have h1:=hd b k hk;obtain⟨q,q1,q2,q3⟩:=fE hb;rw [q3] at hk;obtain⟨c,c1,c2,_⟩:=h.kids q q1 k hk;exact ih (rk k) (by omega) (nB.2 ⟨c,c1,c2⟩) hik rfl
theorem aD4(h:WT l rk) {a:Int} :∀ {n:ND},n∈l->n.ID∈cF l rk a->n.ID∈cF l rk b->a∈cF l rk b\/b∈cF l rk a:=by
 intro n;have hd:=h.Dec;generalize hm:rk a - rk n.ID=m;induction m using Nat.strongRecOn generalizing n with
 | _ m ih=>
  intro hn ha hb;rcases xH h hn ha with e | ⟨p,p1,p2,p3,p4⟩
  .left;rw [<- e];exact hb
  rcases xH h hn hb with e | ⟨q,q1,q2,q3,q4⟩
  .right;rw [<- e];exact ha
  have:p=q:=lZ h.nd p1 q1 (by rw [p2,q2]);subst this;have h1:=h.dec p p1 _ p3;have h2:=Rq hd p4;exact ih (rk a - rk p.ID) (by omega) rfl p1 p4 q4
theorem aGx(h:WT l rk):∀ {b:Int},(cF l rk b).Nodup:=by
 intro b;have hd:=h.Dec;generalize hm:rk b=m;induction m using Nat.strongRecOn generalizing b with
 | _ m ih =>
  rw [jI hd];refine iR.2 ⟨fun hi=>?_,?_⟩
  .obtain⟨k,hk,hik⟩:=kQ.1 hi;have h1:=hd b k hk;have h2:=Rq hd hik;omega
  cases hl:eN l b with
  | false=>rw [jT hl];simp [Ud]
  | true =>
   obtain⟨q,q1,q2,q3⟩:=fE hl;rw [q3];have key:∀K:List Int,K.Nodup->(∀k∈K,k∈q.kids)->(K.flatMap (cF l rk)).Nodup:=by
    intro K;induction K with
    | nil=>intro _ _;simp
    | cons k K ihK =>
     intro hK hsub;have hK':=iR.1 hK;rw [gM,mR];have hk1:=h.dec q q1 k (hsub k (by simp));refine⟨ih (rk k) (by rw [q2] at hk1;omega) rfl,ihK hK'.2 fun j hj=>hsub j (by simp [hj]),fun i hi j hj hij=>?_⟩;subst hij;obtain⟨k2,hk2,hik2⟩:=kQ.1 hj;have hne:k≠k2:=fun e=>hK'.1 (e ▸ hk2);have hk2q:=hsub k2 (by simp [hk2]);obtain⟨c,c1,c2,c3⟩:=h.kids q q1 k (hsub k (by simp));obtain⟨c',d1,d2,d3⟩:=h.kids q q1 k2 hk2q;have hisL:eN l i=true:=aB3 h (nB.2 ⟨c,c1,c2⟩) hi;obtain⟨n,n1,n2,_⟩:=fE hisL;have hk2':=h.dec q q1 k2 hk2q;rcases aD4 h n1 (by rw [n2];exact hi) (by rw [n2];exact hik2)with hc | hc
     .rcases xH h c1 (by rw [c2];exact hc)with e | ⟨p,p1,p2,p3,p4⟩
      .exact hne (by rw [<- c2,e])
      have:p=q:=lZ h.nd p1 q1 (by rw [p2,c3]);subst this;have:=Rq hd p4;omega
     rcases xH h d1 (by rw [d2];exact hc)with e | ⟨p,p1,p2,p3,p4⟩
     .exact hne (by rw [<- d2,e])
     have:p=q:=lZ h.nd p1 q1 (by rw [p2,d3]);subst this;have:=Rq hd p4;omega
   exact key q.kids (h.kn q q1) fun k hk=>hk
theorem Rm {α:Type} [DecidableEq α]:∀ {a b:List α},a.Nodup->(∀x∈a,x∈b)->a.length<=b.length
 | [],b,_,_=>gD _
 | x::a,b,hn,hs=>by
  have hn':=iR.1 hn;have hx:=hs x (by simp);have:=Rm (a:=a) (b:=b.erase x) hn'.2 fun y hy=>(List.mem_erase_of_ne (by rintro rfl;exact hn'.1 hy)).2 (hs y (by simp [hy]));rw [Pm hx] at this;have:=List.length_pos_of_mem hx;simp only [bT];omega
theorem aCv(h:WT l rk)(b:Int):(cF l rk b).length<=l.length+1:=by
 cases hl:eN l b with
 | false=>rw [jI h.Dec,jT hl];simp [Ud]
 | true =>
  have:(cF l rk b).length<=(l.map ND.ID).length:=Rm (aGx h) fun i hi=>by
   obtain⟨n,n1,n2,_⟩:=fE (aB3 h hl hi);rw [<- n2];exact aX.2 ⟨n,n1,rfl⟩
  simpa using Nat.le_succ_of_le this
theorem WT.Tr(h:WT l rk)(hl:l.length<=1000):Tr l (cF l rk) rk:=
 ⟨jI h.Dec,h.Dec,fun id=>by have:=aCv h id;omega⟩
variable {d:DS}{e:EN}{rk:Int->Nat}
def pD:Option EN->D
 | some e=> .ref e.o 0
 | none=> .v (.pointer none)
theorem mB(e:EN):pD (some e)= .ref e.o 0:=rfl
theorem mW:pD none= .v (.pointer none):=rfl
@[simp] theorem kT(s:Option EN):(pD s).plain=true:=by cases s <;> rfl
@[simp] theorem kU(s:Option EN):(pD s).strip=pD s:=by cases s <;> rfl
@[simp] theorem aZk(s:Option EN):(pD s).s2=pD s:=by cases s <;> rfl
@[simp] theorem aZg(s:Option EN):(pD s).s1=pD s:=by cases s <;> rfl
def nx(d:DS)(id:Int):Option EN:=d.es.find? fun e=>decide (e.n.ID=id)
theorem aC5 {id:Int} {p:EN} (h:nx d id=some p):p∈d.es/\p.n.ID=id:=by
 unfold nx at h;exact⟨Hc h,by simpa using List.find?_some h⟩
theorem aCn {id:Int} (h:nx d id=none):∀n∈d.l,n.ID≠id:=by
 intro n hn e;obtain⟨x,hx,rfl⟩:=aX.1 hn;unfold nx at h;rw [qC] at h;exact h x hx (by simpa using e)
theorem aNw(d:DS)(id:Int):Gf (d.es.map Ue) (.int .i64 id) (D.v (.pointer none)) (pD (nx d id)) false\/Gf (d.es.map Ue) (.int .i64 id) (D.v (.pointer none)) (pD (nx d id)) true:=by
 cases h:nx d id with
 | none=>
  left;refine tK ?_ _;cases hl:eN (d.es.map EN.n) id with
  | false=>rfl
  | true=>obtain⟨n,h1,h2⟩:=nB.1 hl;exact absurd h2 (aCn h n h1)
 | some p=>
  right;obtain⟨h1,h2⟩:=aC5 h;rw [<- h2];exact iL h1 _
theorem iD (he:e∈d.es):e.n∈d.l:=aX.2 ⟨e,he,rfl⟩
theorem aRx (h:WT d.l rk) (he:e∈d.es) {b:Int} (hne:¬e.n.ID=b):(∀p,nx d e.n.parent=some p->p∈d.es/\(e.n.ID∈cF d.l rk b↔p.n.ID∈cF d.l rk b)/\rk e.n.ID<rk p.n.ID)/\(nx d e.n.parent=none->e.n.ID∉cF d.l rk b):=by
 constructor
 .intro p hp;obtain⟨h1,h2⟩:=aC5 hp;have hpn:=h.nn _ (iD h1);rcases h.par _ (iD he)with h3 | ⟨q,q1,q2,q3⟩
  .omega
  have hqp:q=p.n:=lZ h.nd q1 (iD h1) (by rw [q2,h2]);subst hqp;refine⟨h1,⟨fun hb=>?_,fun hb=>Lj h q1 q3 hb⟩,h.dec _ q1 _ q3⟩;rcases xH h (iD he) hb with e1 | ⟨p',p1,p2,p3,p4⟩
  .exact absurd e1 hne
  have:=lZ h.nd p1 q1 (by rw [p2,q2]);rw [<- this];exact p4
 intro hn hb;rcases xH h (iD he) hb with e1 | ⟨p',p1,p2,p3,p4⟩
 .exact hne e1
 exact aCn hn p' p1 p2
def wiM(R:Nat)(rk:Int->Nat):Option EN->Nat
 | none=>0
 | some e=>R+1 - rk e.n.ID
theorem aDc {R:Nat} {id b:Int} (h:WT d.l rk)(hR:∀e∈d.es,rk e.n.ID<=R) (he:e∈d.es)(hne:¬e.n.ID=b)(hi:id∈cF d.l rk b↔e.n.ID∈cF d.l rk b):
  ((∀p,nx d e.n.parent=some p->p∈d.es/\(id∈cF d.l rk b↔p.n.ID∈cF d.l rk b))/\(nx d e.n.parent=none->id∉cF d.l rk b))/\wiM R rk (nx d e.n.parent)<wiM R rk (some e):=by
 obtain⟨h1,h2⟩:=aRx h he hne;refine⟨⟨fun p hp=>?_,fun hn hb=>h2 hn (hi.1 hb)⟩,?_⟩
 .obtain⟨a,b,c⟩:=h1 p hp;exact⟨a,hi.trans b⟩
 have:=hR e he;cases hp:nx d e.n.parent with
 | none=>simp only [wiM];omega
 | some p=>
  obtain⟨a,b,c⟩:=h1 p hp;have:=hR p a;simp only [wiM];omega
theorem Ji(l:List Int)(i:Int):(l.any fun k=>decide (k=i))=decide (i∈l):=by
 rw [iQ,lU,eO];exact⟨fun⟨x,h1,h2⟩=>by rw [<- uJ h2];exact h1,fun h=>⟨i,h,by simp⟩⟩
theorem aT3(m M R:Nat)(d:DS)(rk:Int->Nat)(e0 f:EN)(σ:List (List D))(ho:DO m M d σ)(hwt:WT d.l rk)(hR:∀e∈d.es,rk e.n.ID<=R)(he0:e0∈d.es)(hf:f∈d.es):Ct prog 150 [.ref m 0,D.int e0.n.ID,D.int f.n.ID] σ (fun r σ'=>r= .bool (decide (e0.n.ID∈cF d.l rk f.n.ID))/\σ'=σ):=by
 refine zf func150 ?_;have hq:=ho.hm;have hnn:=ho.hn;refine bE fun _ _ Z=>?_;simp(disch:=omega)[hq,mB,mW,kT,kU,hnn];and_intros<;>(try omega)
 all_goals first | (generalize nx d e.n.parent=s9;cases s9 <;> rfl) | skip
 apply Z;apply aF;refine bE fun _ _ Z=>?_;refine zs 6 fun _ Y=>?_;simp(disch:=omega)[hq,mB,mW,kT,kU,hnn];refine⟨m,2,d.ck,_,.ref f.o 0,⟨⟨_,hq,rfl⟩,mT _,.inr (iL hf _)⟩,?_⟩;and_intros<;>(try omega)
 all_goals first | (generalize nx d e.n.parent=s9;cases s9 <;> rfl) | skip
 apply Y;simp(disch:=omega)[hq,mB,mW,kT,kU,hnn];and_intros<;>(try omega)
 all_goals first | (generalize nx d e.n.parent=s9;cases s9 <;> rfl) | skip
 apply Z;refine zI ?_ ?_<;>intro c1<;>try simp at c1
 apply zA;apply aF;refine bE fun _ _ Z=>?_;refine zs 6 fun _ Y=>?_;simp(disch:=omega)[hq,mB,mW,kT,kU,hnn];refine⟨m,2,d.ck,_,.ref e0.o 0,⟨⟨_,hq,rfl⟩,mT _,.inr (iL he0 _)⟩,?_⟩;and_intros<;>(try omega)
 all_goals first | (generalize nx d e.n.parent=s9;cases s9 <;> rfl) | skip
 apply Y;simp(disch:=omega)[hq,mB,mW,kT,kU,hnn];and_intros<;>(try omega)
 all_goals first | (generalize nx d e.n.parent=s9;cases s9 <;> rfl) | skip
 apply Z;apply aS;refine zk [0,2,6,7] ?_;refine aZ (fun(s:Option EN)=> [(7,.d (pD s))]) [6,7,21,22,23,24,25,26,27,28,29,30,31,32,33,34,35,36,37] (fun(s:Option EN)=>(∀e,s=some e->e∈d.es/\(e0.n.ID∈cF d.l rk f.n.ID↔e.n.ID∈cF d.l rk f.n.ID))/\(s=none->e0.n.ID∉cF d.l rk f.n.ID)) (fun(s:Option EN)=>wiM R rk s) (some e0) (by simp <;> rfl) ?_ ?_ ?_
 .simp [mB]
 .exact⟨fun e h=>by cases h;exact⟨he0,Iff.rfl⟩,fun h=>by cases h⟩
 rintro s ⟨hs1,hs2⟩;simp only [aP,aN];obtain⟨e,rfl⟩ | rfl:(∃e,s=some e)\/s=none:=by cases s <;> simp
 .try simp only []
  obtain⟨he,hi⟩:=hs1 e rfl;apply aF;refine bE fun _ _ Z=>?_;simp(disch:=omega)[hq,mB,mW,kT,kU,hnn];and_intros<;>(try omega)
  all_goals first | (generalize nx d e.n.parent=s9;cases s9 <;> rfl) | skip
  apply Z;refine bS (t:=true) (by simp) (fun _=>?_) (fun h=>by cases h);apply kR;refine bE fun _ _ Z=>?_;simp(disch:=omega)[hq,mB,mW,kT,kU,hnn];and_intros<;>(try omega)
  all_goals first | (generalize nx d e.n.parent=s9;cases s9 <;> rfl) | skip
  apply Z;refine zI ?_ ?_<;>intro c2<;>try simp at c2
  .refine bE fun _ _ Z=>?_;simp(disch:=omega)[hq,mB,mW,kT,kU,hnn];and_intros<;>(try omega)
   all_goals first | (generalize nx d e.n.parent=s9;cases s9 <;> rfl) | skip
   apply Z;apply aD;simp [aK];rw [hi,c2];exact nH hwt.Dec _
  apply mM;refine ze ⟨[],[],[],[],[]⟩ [.op {},.op {},.op {},.op {rO:=true},.op {},.op {},.op {},.op {rO:=true},.op {rO:=true},.op {}] fun all hall _ Z=>?_;refine iU 8 fun _ Y=>?_;simp(disch:=omega)[hq,mB,mW,kT,kU,hnn];and_intros<;>(try omega)
  all_goals first | (generalize nx d e.n.parent=s9;cases s9 <;> rfl) | skip
  apply Y;refine iU 1 fun _ Y=>?_;simp(disch:=omega)[hq,mB,mW,kT,kU,hnn];refine⟨m,2,d.ck,_,pD (nx d e.n.parent),⟨⟨_,hq,rfl⟩,mT _,aNw d _⟩,?_⟩;and_intros<;>(try omega)
  all_goals first | (generalize nx d e.n.parent=s9;cases s9 <;> rfl) | skip
  apply Y;simp(disch:=omega)[hq,mB,mW,kT,kU,hnn];and_intros<;>(try omega)
  all_goals first | (generalize nx d e.n.parent=s9;cases s9 <;> rfl) | skip
  apply Z;refine zq (nx d e.n.parent) ?_ ?_ ?_
  .exact(aDc hwt hR he c2 hi).1
  .exact(aDc hwt hR he c2 hi).2
  simp(disch:=omega)[hq,mB,mW,kT,kU,hnn]
 try simp only []
 have hno:=hs2 rfl;apply aF;refine bE fun _ _ Z=>?_;simp(disch:=omega)[hq,mB,mW,kT,kU,hnn];and_intros<;>(try omega)
 all_goals first | (generalize nx d e.n.parent=s9;cases s9 <;> rfl) | skip
 apply Z;refine bS (t:=false) (by simp) (fun h=>by cases h) (fun _=>?_);apply zE;refine bE fun _ _ Z=>?_;simp(disch:=omega)[hq,mB,mW,kT,kU,hnn];and_intros<;>(try omega)
 all_goals first | (generalize nx d e.n.parent=s9;cases s9 <;> rfl) | skip
 apply Z;apply aD;simp [aK];exact hno
theorem aS5(m M:Nat)(d:DS)(id f:Int)(σ:List (List D))(ho:DO m M d σ)(hno:eN d.l f=false):Ct prog 150 [.ref m 0,D.int id,D.int f] σ (fun r σ'=>r= .bool false/\σ'=σ):=by
 refine zf func150 ?_;have hq:=ho.hm;refine bE fun _ _ Z=>?_;simp[hq];apply Z;apply aF;refine bE fun _ _ Z=>?_;refine zs 6 fun _ Y=>?_;simp[hq];refine⟨m,2,d.ck,_,.v (.pointer none),⟨⟨_,hq,rfl⟩,mT _,.inl (tK hno _)⟩,?_⟩;and_intros<;>(try omega);apply Y;simp[hq];apply Z;refine zI ?_ ?_<;>intro c1<;>try simp at c1
 refine bE fun _ _ Z=>?_;simp[hq];apply Z;apply aD;simp [aK]
theorem aTk(m M:Nat)(d:DS)(id:Int)(f:EN)(σ:List (List D))(ho:DO m M d σ)(hf:f∈d.es)(hno:eN d.l id=false):Ct prog 150 [.ref m 0,D.int id,D.int f.n.ID] σ (fun r σ'=>r= .bool false/\σ'=σ):=by
 refine zf func150 ?_;have hq:=ho.hm;refine bE fun _ _ Z=>?_;simp[hq];apply Z;apply aF;refine bE fun _ _ Z=>?_;refine zs 6 fun _ Y=>?_;simp[hq];refine⟨m,2,d.ck,_,.ref f.o 0,⟨⟨_,hq,rfl⟩,mT _,.inr (iL hf _)⟩,?_⟩;and_intros<;>(try omega);apply Y;simp[hq];apply Z;refine zI ?_ ?_<;>intro c1<;>try simp at c1
 apply zA;apply aF;refine bE fun _ _ Z=>?_;refine zs 6 fun _ Y=>?_;simp[hq];refine⟨m,2,d.ck,_,.v (.pointer none),⟨⟨_,hq,rfl⟩,mT _,.inl (tK hno _)⟩,?_⟩;and_intros<;>(try omega);apply Y;simp[hq];apply Z;apply aS;refine zk [0,2,6,7] ?_;refine aZ (fun(s:Unit)=> [(7,.d (.v (.pointer none)))]) [6,7,21,22,23,24,25,26,27,28,29,30,31,32,33,34,35,36,37] (fun(s:Unit)=>True) (fun(s:Unit)=>0) (()) (by simp <;> rfl) ?_ ?_ ?_
 .simp
 .trivial
 rintro s _;simp only [aP,aN];apply aF;refine bE fun _ _ Z=>?_;simp[hq];apply Z;refine zI ?_ ?_<;>intro c2<;>try simp at c2
 apply zE;refine bE fun _ _ Z=>?_;simp[hq];apply Z;apply aD;simp [aK]
theorem aJg(l:List ND)(rk:Int->Nat):∃R,∀n∈l,rk n.ID<=R:=by
 induction l with
 | nil=>exact⟨0,fun n h=>by cases h⟩
 | cons a l ih=>
  obtain⟨R,hR⟩:=ih;refine⟨max R (rk a.ID),fun n h=>?_⟩;rcases bU.1 h with rfl | h
  .omega
  have:=hR n h;omega
theorem Oq(m M:Nat)(d:DS)(rk:Int->Nat)(id f:Int)(σ:List (List D))(ho:DO m M d σ)(hwt:WT d.l rk):Ct prog 150 [.ref m 0,D.int id,D.int f] σ (fun r σ'=>r= .bool (oB d.l (cF d.l rk) id f)/\σ'=σ):=by
 unfold oB;cases hf:eN d.l f with
 | false=>simp only [Bool.and_false,Bool.false_and];exact aS5 m M d id f σ ho hf
 | true =>
  obtain⟨ef,hef,rfl,_⟩:=pJ hf;cases hi:eN d.l id with
  | false=>simp only [Bool.false_and];exact aTk m M d id ef σ ho hef hi
  | true=>
   obtain⟨ei,hei,rfl,_⟩:=pJ hi;obtain⟨R,hR⟩:=aJg d.l rk;rw [Ji];simp only [lP];exact aT3 m M R d rk ei ef σ ho hwt (fun e he=>hR _ (iD he)) hei hef
end Go.Proofs.YtbgfljpnhhdkoaaGreat
