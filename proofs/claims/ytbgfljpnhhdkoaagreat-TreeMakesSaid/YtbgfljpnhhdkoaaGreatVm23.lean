import Derived.Test.YtbgfljpnhhdkoaaGreatWkTf1
import Derived.Test.YtbgfljpnhhdkoaaGreatVm22
import Derived.ProofKit
set_option linter.all false
set_option maxRecDepth 20000
set_option maxHeartbeats 8000000
open Go.Proofs.Tryz
namespace Go.Proofs.YtbgfljpnhhdkoaaGreat
open Go Go.Vm
def wN(a:Nat):Int:=(a:Int)+1
theorem aRm(j:Nat):(List.range (j+1)).map wN=(List.range j).map wN++ [(j:Int)+1]:=by rw [sJ,cE];rfl
theorem aTj(n:Nat):((List.range n).map fun(a:Nat)=>1+(a:Int))=(List.range n).map wN:=cW fun a _=>by unfold wN;omega
@[simp] abbrev q14_1:Cfg:=⟨[12,81],[],[],[],[130]⟩
theorem Ub(f:List FL)(most:Int)(σ:List (List D))(hlf:f.length<=9223372036854775807)(hf:∀x∈f,FO x):Ct prog 11 [.sl false (f.map Rc),D.int most] σ (fun r σ'=>r= .bool true):=by
 refine zf func11 ?_;refine zr q14_1 fun _ _ Z=>?_;simp;apply Z;apply aE;refine zr q14_1 fun _ _ Z=>?_;refine aF fun _ Y=>?_;simp;refine Mo (Zp _) ?_;rintro _ σ1 hr9;subst hr9;apply Y;simp;apply Z;refine zI ?_ ?_<;>intro c1<;>try simp at c1
 apply zA;refine zr q14_1 fun _ _ Z=>?_;refine zs 1 fun _ Y=>?_;simp;apply Y;refine aF fun _ Y=>?_;simp;refine Mo (aPs f 25 _ (by omega) hlf hf) ?_;rintro _ τ1 ⟨⟨v,hr1,hvv,hcv⟩,hτ1⟩;subst hr1 hτ1;apply Y;simp;apply Z;refine zr q14_1 fun _ _ Z=>?_;refine zs 1 fun _ Y=>?_;simp;apply Y;refine aF fun _ Y=>?_;simp;refine Mo (Of most _) ?_;rintro _ τ0 ⟨m,M,l,d,rk,hr9,hx⟩;subst hr9;have hg:=hx.at_;apply Y;simp[hg];apply Z;apply aE;refine zr q14_1 fun _ _ Z=>?_;simp[hg];apply Z;refine zI ?_ ?_<;>intro c2<;>try simp at c2
 apply zA;apply aE;refine zr q14_1 fun _ _ Z=>?_;refine zs 1 fun _ Y=>?_;simp[hg];apply Y;refine aF fun _ Y=>?_;simp[hg];refine Mo (aFc v 20 4096 _ hvv (by omega)) ?_;rintro _ _ ⟨⟨e1,hr9,he1⟩,hs9⟩;subst hr9;subst hs9;apply Y;simp[hg];apply Z;refine zI ?_ ?_<;>intro c3<;>try simp at c3
 .refine zk [1,4,5,6] ?_;refine zr q14_1 fun _ _ Z=>?_;simp[hg];apply Z;apply aC;simp [aH]
 apply zA;refine zk [1,4,5,6] ?_;refine zr q14_1 fun _ _ Z=>?_;refine zs 2 fun _ Y=>?_;simp[hg];apply Y;refine aF fun _ Y=>?_;simp[hg];refine cT (aB9 v hvv (by omega) _) ?_;apply Y;refine aF fun _ Y=>?_;simp[hg];have hmk:=aA5 hx hvv (he1 c3) (by omega);have hes:=aK5 hx;have hcn:=Ca v;have hcl:=jV (cZ v);refine Mo (hmk) ?_;rintro _ τ9 (⟨hbig,hr9,hs9⟩ | ⟨hbig,q,σ1,o1,oq,t1,w,rs,hr9,hs9,hg1,hol,hqq,r1,tb1,hno,hids,hoq,hfd,hf0,hb0,hh0,hit⟩)
 .subst hr9;replace hs9:=hs9.symm;subst hs9;apply Y;simp[hg,hbig,hes];apply Z;refine zk [1,4,5,6,7,8] ?_;refine zr q14_1 fun _ _ Z=>?_;refine zs 1 fun _ Y=>?_;simp[hg,hbig,hes];apply Y;refine aF fun _ Y=>?_;simp[hg,hbig,hes];refine cT (Dz v hvv (by omega) _) ?_;apply Y;simp[hg,hbig,hes];apply Z;apply Od;refine zr q14_1 fun _ _ Z=>?_;refine zs 1 fun _ Y=>?_;simp[hg,hbig,hes];apply Y;refine aF fun _ Y=>?_;simp[hg,hbig,hes];refine cT (Cd (cZ v) (by omega) _) ?_;apply Y;simp[hg,hbig,hes];and_intros<;>(try omega);apply Z;refine zI ?_ ?_<;>intro c4<;>try simp at c4
  refine zk [4,5,6,7,8,9] ?_;refine mH q14_1 fun all hall _ Z=>?_;have ga2:aN all 2=some 46:=hall 2;have ga6:aN all 6=some 50:=hall 6;refine zs 3 fun _ Y=>?_;simp[ga2,ga6,hg,hbig,hes];apply Y;refine zb 46 ?_ ?_<;>intro g5<;>try simp at g5
  refine zs 4 fun _ Y=>?_;simp[ga2,ga6,hg,hbig,hes];apply Y;refine zb 50 ?_ ?_<;>intro g6<;>try simp at g6
  refine zs 4 fun _ Y=>?_;simp[ga2,ga6,hg,hbig,hes];apply Y;refine zg ga6 fun _ Y=>?_;simp[ga2,ga6,hg,hbig,hes];refine cT (Ei m M d _ hx.ix.iv.ho (by omega)) ?_;apply Y;simp[ga2,ga6,hg,hbig,hes];apply Z;apply aC;simp [aH]
 subst hr9;replace hs9:=hs9.symm;subst hs9;simp only [jG] at hqq;rw [aTj] at hids;have hil:=Cb t1;rw [hids] at hil;simp only [bQ,Gv] at hil;have hdec:decide (tO t1=(List.range (cB (cZ v))).map wN)=true:=decide_eq_true hids;apply Y;simp[hbig,hg1,hqq,hol,hdec];apply Z;refine zk [1,4,5,6,7,8] ?_;refine zr q14_1 fun _ _ Z=>?_;refine zs 1 fun _ Y=>?_;simp[hbig,hg1,hqq,hol,hdec];apply Y;refine aF fun _ Y=>?_;simp[hbig,hg1,hqq,hol,hdec];refine cT (Dz v hvv (by omega) _) ?_;apply Y;simp[hbig,hg1,hqq,hol,hdec];apply Z;apply Od;refine zr q14_1 fun _ _ Z=>?_;refine zs 1 fun _ Y=>?_;simp[hbig,hg1,hqq,hol,hdec];apply Y;refine aF fun _ Y=>?_;simp[hbig,hg1,hqq,hol,hdec];refine cT (Cd (cZ v) (by omega) _) ?_;apply Y;simp[hbig,hg1,hqq,hol,hdec];and_intros<;>(try omega);apply Z;refine zI ?_ ?_<;>intro c7<;>try simp at c7
 apply mS;apply aE;refine zk [4,5,6,7,8,9] ?_;refine mH q14_1 fun all hall _ Z=>?_;have ga2:aN all 2=some 60:=hall 2;refine zs 3 fun _ Y=>?_;simp[ga2,hbig,hg1,hqq,hol,hdec];apply Y;refine zb 60 ?_ ?_<;>intro g8<;>try simp at g8
 simp[ga2,hbig,hg1,hqq,hol,hdec];apply Z;refine zI ?_ ?_<;>intro c9<;>try simp at c9
 apply zA;refine zk [4,5,6,7,9] ?_;refine zd q14_1 [.op {},.op {},.op {},.op {rO:=true},.op {},.op {},.op {},.op {rO:=true},.read,.op {},.op {},.op {},.op {rL:=true,wL:=true},.op {rL:=true,wL:=true},.op {}] fun all hall _ Z=>?_;refine kF 8 fun _ Y=>?_;simp[hbig,hg1,hqq,hol,hdec];apply Y;refine bY fun _ Y=>?_;simp[hbig,hg1,hqq,hol,hdec];refine zdr (r1) ?_;apply Y;simp[hbig,hg1,hqq,hol,hdec];apply Z;refine zk [4,5,7,9,10] ?_;refine zr q14_1 fun _ _ Z=>?_;simp[hbig,hg1,hqq,hol,hdec];apply Z;apply aE;refine zr q14_1 fun _ _ Z=>?_;refine zs 1 fun _ Y=>?_;simp[hbig,hg1,hqq,hol,hdec];apply Y;refine aF fun _ Y=>?_;simp[hbig,hg1,hqq,hol,hdec];refine cT (Cd (cZ v) (by omega) _) ?_;apply Y;simp[hbig,hg1,hqq,hol,hdec];apply Z;apply aR;refine zk [4,5,7,10,12,77,78] ?_;refine aY (fun(j:Nat)=> [(78,.d (.v (.int .i64 (j:Int)))),(12,.d (.sl true (((List.range j).map wN).map D.int))),(13,.d (.any))]) [12,13,78,79,80,81,82,83,84,85,86] (fun(j:Nat)=>j<=cB (cZ v)) (fun(j:Nat)=>cB (cZ v) - j) (0) (by simp <;> rfl) ?_ ?_ ?_
 .simp
 .simp
 rintro j hj;simp only [aQ,aO];refine zr q14_1 fun _ _ Z=>?_;simp[hbig,hg1,hqq,hol,hdec];apply Z;apply aE;refine zI ?_ ?_<;>intro c10<;>try simp at c10
 .have hnx:=aRm j;apply jM;refine zr q14_1 fun _ _ Z=>?_;simp[hbig,hg1,hqq,hol,hdec];apply Z;refine zt q14_1 fun _ _ Z=>?_;simp[hbig,hg1,hqq,hol,hdec];and_intros<;>(try omega);apply Z;apply zB;refine zk [4,5,7,10,12,13,77,78] ?_;refine zt q14_1 fun _ _ Z=>?_;simp[hbig,hg1,hqq,hol,hdec];and_intros<;>(try omega);apply Z;refine zq (j+1) ?_ ?_ ?_
  .omega
  .try dsimp only
   omega
  simp[hnx,hbig,hg1,hqq,hol,hdec]
 obtain rfl:j=cB (cZ v):=by omega
 apply zE;refine zr q14_1 fun _ _ Z=>?_;refine zs 1 fun _ Y=>?_;simp[hbig,hg1,hqq,hol,hdec];apply Y;refine aF fun _ Y=>?_;simp[hbig,hg1,hqq,hol,hdec];refine cT (hoq) ?_;apply Y;simp[hbig,hg1,hqq,hol,hdec];apply Z;apply aE;refine zk [4,5,7,10,12,14] ?_;refine zr q14_1 fun _ _ Z=>?_;simp[hbig,hg1,hqq,hol,hdec];and_intros<;>(try omega);apply Z;apply aR;refine zk [4,5,7,10,12,14,89,90,91] ?_;refine aY (fun(i:Nat)=> [(91,.d (.v (.int .i64 (i:Int)))),(15,.d (.any)),(16,.d (.any))]) [4,15,16,91,92,93,94,95,96,97,98,99,100,101,102,103,104,105,106,107,108,109,110,111,112,113,114,115,116,117,118,119,120,121,122,123,124,125,126,127,128,129,130,131,132,133,134,135,136,137,138,139,140,141,142] (fun(i:Nat)=>i<=oq.length) (fun(i:Nat)=>oq.length - i) (0) (by simp <;> rfl) ?_ ?_ ?_
 .simp
 .simp
 rintro i hi;simp only [aQ,aO];rcases uX i with hi0 | hi0
 .try simp only []
  have hi9:(i=0)↔True:=⟨fun _=>trivial,fun _=>hi0⟩;refine zr q14_1 fun _ _ Z=>?_;simp[hbig,hg1,hqq,hol,hdec,hi9];apply Z;apply aE;refine zI ?_ ?_<;>intro c11<;>try simp at c11
  .obtain⟨w3,rs3,p3,hz0,hz1⟩:=hit i (by omega);first | have hz:=hz0 hi0 | have hz:=hz1 hi0
   simp only [jG] at hz;have hrg:oq[i]?=some oq[i]:=aS (by omega);apply jM;refine zr q14_1 fun _ _ Z=>?_;simp[hbig,hg1,hqq,hol,hdec,hi9,hz,hrg];and_intros<;>(try omega);apply Z;refine zk [5,7,10,12,14,15,16,89,90,91] ?_;refine mH q14_1 fun all hall _ Z=>?_;have ga2:aN all 2=some 98:=hall 2;have ga11:aN all 11=some 107:=hall 11;have ga19:aN all 19=some 115:=hall 19;have ga28:aN all 28=some 124:=hall 28;have ga36:aN all 36=some 132:=hall 36;refine zs 3 fun _ Y=>?_;simp[ga2,ga11,ga19,ga28,ga36,hbig,hg1,hqq,hol,hdec,hi9,hz,hrg];apply Y;refine zb 98 ?_ ?_<;>intro g12<;>try simp at g12
   refine zs 8 fun _ Y=>?_;simp[ga2,ga11,ga19,ga28,ga36,hbig,hg1,hqq,hol,hdec,hi9,hz,hrg];and_intros<;>(try omega);apply Y;refine zs 1 fun _ Y=>?_;simp[ga2,ga11,ga19,ga28,ga36,hbig,hg1,hqq,hol,hdec,hi9,hz,hrg];apply Y;refine zb 107 ?_ ?_<;>intro g13<;>try simp at g13
   refine zs 8 fun _ Y=>?_;simp[ga2,ga11,ga19,ga28,ga36,hbig,hg1,hqq,hol,hdec,hi9,hz,hrg];apply Y;refine zb 115 ?_ ?_<;>intro g14<;>try simp at g14
   refine zs 8 fun _ Y=>?_;simp[ga2,ga11,ga19,ga28,ga36,hbig,hg1,hqq,hol,hdec,hi9,hz,hrg];and_intros<;>(try omega);apply Y;refine zs 1 fun _ Y=>?_;simp[ga2,ga11,ga19,ga28,ga36,hbig,hg1,hqq,hol,hdec,hi9,hz,hrg];apply Y;refine zb 124 ?_ ?_<;>intro g15<;>try simp at g15
   refine zs 3 fun _ Y=>?_;simp[ga2,ga11,ga19,ga28,ga36,hbig,hg1,hqq,hol,hdec,hi9,hz,hrg];and_intros<;>(try omega);apply Y;refine zg ga28 fun _ Y=>?_;simp[ga2,ga11,ga19,ga28,ga36,hbig,hg1,hqq,hol,hdec,hi9,hz,hrg];refine cT (hfd i (by omega)) ?_;apply Y;refine zs 4 fun _ Y=>?_;simp[ga2,ga11,ga19,ga28,ga36,hbig,hg1,hqq,hol,hdec,hi9,hz,hrg];apply Y;refine zb 132 ?_ ?_<;>intro g16<;>try simp at g16
   refine zs 8 fun _ Y=>?_;simp[ga2,ga11,ga19,ga28,ga36,hbig,hg1,hqq,hol,hdec,hi9,hz,hrg];apply Y;simp[ga2,ga11,ga19,ga28,ga36,hbig,hg1,hqq,hol,hdec,hi9,hz,hrg];apply Z;refine zI ?_ ?_<;>intro c17<;>try simp at c17
   apply mS;refine zk [5,7,10,12,14,15,16,89,90,91] ?_;refine zt q14_1 fun _ _ Z=>?_;simp[hbig,hg1,hqq,hol,hdec,hi9,hz,hrg];and_intros<;>(try omega);apply Z;refine zq (i+1) ?_ ?_ ?_
   .omega
   .try dsimp only
    omega
   simp[hbig,hg1,hqq,hol,hdec,hi9,hz,hrg]
  exfalso;omega
 try simp only []
 have hi9:(i=0)↔False:=⟨fun h9=>by omega,fun h9=>h9.elim⟩;refine zr q14_1 fun _ _ Z=>?_;simp[hbig,hg1,hqq,hol,hdec,hi9];apply Z;apply aE;refine zI ?_ ?_<;>intro c18<;>try simp at c18
 .obtain⟨w3,rs3,p3,hz0,hz1⟩:=hit i (by omega);first | have hz:=hz0 hi0 | have hz:=hz1 hi0
  simp only [jG] at hz;have hrg:oq[i]?=some oq[i]:=aS (by omega);apply jM;refine zr q14_1 fun _ _ Z=>?_;simp[hbig,hg1,hqq,hol,hdec,hi9,hz,hrg];and_intros<;>(try omega);apply Z;refine zk [5,7,10,12,14,15,16,89,90,91] ?_;refine mH q14_1 fun all hall _ Z=>?_;have ga2:aN all 2=some 98:=hall 2;have ga11:aN all 11=some 107:=hall 11;have ga19:aN all 19=some 115:=hall 19;have ga28:aN all 28=some 124:=hall 28;have ga36:aN all 36=some 132:=hall 36;refine zs 3 fun _ Y=>?_;simp[ga2,ga11,ga19,ga28,ga36,hbig,hg1,hqq,hol,hdec,hi9,hz,hrg];apply Y;refine zb 98 ?_ ?_<;>intro g19<;>try simp at g19
  refine zs 8 fun _ Y=>?_;simp[ga2,ga11,ga19,ga28,ga36,hbig,hg1,hqq,hol,hdec,hi9,hz,hrg];and_intros<;>(try omega);apply Y;refine zs 1 fun _ Y=>?_;simp[ga2,ga11,ga19,ga28,ga36,hbig,hg1,hqq,hol,hdec,hi9,hz,hrg];apply Y;refine zb 107 ?_ ?_<;>intro g20<;>try simp at g20
  refine zs 8 fun _ Y=>?_;simp[ga2,ga11,ga19,ga28,ga36,hbig,hg1,hqq,hol,hdec,hi9,hz,hrg];apply Y;refine zb 115 ?_ ?_<;>intro g21<;>try simp at g21
  refine zs 8 fun _ Y=>?_;simp[ga2,ga11,ga19,ga28,ga36,hbig,hg1,hqq,hol,hdec,hi9,hz,hrg];and_intros<;>(try omega);apply Y;refine zs 1 fun _ Y=>?_;simp[ga2,ga11,ga19,ga28,ga36,hbig,hg1,hqq,hol,hdec,hi9,hz,hrg];apply Y;refine zb 124 ?_ ?_<;>intro g22<;>try simp at g22
  refine zs 3 fun _ Y=>?_;simp[ga2,ga11,ga19,ga28,ga36,hbig,hg1,hqq,hol,hdec,hi9,hz,hrg];and_intros<;>(try omega);apply Y;refine zg ga28 fun _ Y=>?_;simp[ga2,ga11,ga19,ga28,ga36,hbig,hg1,hqq,hol,hdec,hi9,hz,hrg];refine cT (hfd i (by omega)) ?_;apply Y;refine zs 4 fun _ Y=>?_;simp[ga2,ga11,ga19,ga28,ga36,hbig,hg1,hqq,hol,hdec,hi9,hz,hrg];apply Y;refine zb 132 ?_ ?_<;>intro g23<;>try simp at g23
  refine zs 8 fun _ Y=>?_;simp[ga2,ga11,ga19,ga28,ga36,hbig,hg1,hqq,hol,hdec,hi9,hz,hrg];apply Y;simp[ga2,ga11,ga19,ga28,ga36,hbig,hg1,hqq,hol,hdec,hi9,hz,hrg];apply Z;refine zI ?_ ?_<;>intro c24<;>try simp at c24
  apply mS;refine zk [5,7,10,12,14,15,16,89,90,91] ?_;refine zt q14_1 fun _ _ Z=>?_;simp[hbig,hg1,hqq,hol,hdec,hi9,hz,hrg];and_intros<;>(try omega);apply Z;refine zq (i+1) ?_ ?_ ?_
  .omega
  .try dsimp only
   omega
  simp[hbig,hg1,hqq,hol,hdec,hi9,hz,hrg]
 apply zE;refine zk [5,7,10,12,14] ?_;refine zd q14_1 [.op {rL:=true},.pure,.op {rL:=true},.pure,.pure,.op {},.op {rL:=true},.pure,.op {},.pure,.op {},.op {},.op {},.op {},.op {},.op {},.op {},.op {},.op {},.op {},.read,.op {},.op {},.op {},.op {},.read,.op {},.read,.op {},.op {},.op {},.op {}] fun all hall _ Z=>?_;have ga5:aN all 5=some 148:=hall 5;have ga11:aN all 11=some 154:=hall 11;have ga18:aN all 18=some 161:=hall 18;have ga23:aN all 23=some 166:=hall 23;refine kF 1 fun _ Y=>?_;simp[ga5,ga11,ga18,ga23,hbig,hg1,hqq,hol,hdec];apply Y;refine bY fun _ Y=>?_;simp[ga5,ga11,ga18,ga23,hbig,hg1,hqq,hol,hdec];refine wI (fun _=>(aBz t1 tb1 _)) ?_;apply Y;refine kF 1 fun _ Y=>?_;simp[ga5,ga11,ga18,ga23,hbig,hg1,hqq,hol,hdec];apply Y;refine bY fun _ Y=>?_;simp[ga5,ga11,ga18,ga23,hbig,hg1,hqq,hol,hdec];refine wI (fun _=>(aPr v _ hvv (by omega))) ?_;apply Y;refine bY fun _ Y=>?_;simp[ga5,ga11,ga18,ga23,hbig,hg1,hqq,hol,hdec];refine wI (fun _=>(Vz t1 (Rq (cZ v)) tb1 (by rw [<- hno,Oi]) _)) ?_;apply Y;refine kF 1 fun _ Y=>?_;simp[ga5,ga11,ga18,ga23,hbig,hg1,hqq,hol,hdec];apply Y;refine zbD 148 ?_ ?_<;>intro g25<;>try simp at g25
 refine kF 1 fun _ Y=>?_;simp[ga5,ga11,ga18,ga23,hbig,hg1,hqq,hol,hdec];apply Y;refine zdg ga5 fun _ Y=>?_;simp[ga5,ga11,ga18,ga23,hbig,hg1,hqq,hol,hdec];refine wI (fun _=>(aQo t1 _ (by omega))) ?_;apply Y;refine kF 1 fun _ Y=>?_;simp[ga5,ga11,ga18,ga23,hbig,hg1,hqq,hol,hdec];apply Y;refine zdg ga5 fun _ Y=>?_;simp[ga5,ga11,ga18,ga23,hbig,hg1,hqq,hol,hdec];refine wI (fun _=>(aA2 (tO t1) ((List.range (cB (cZ v))).map wN) _ (by rw [hids];simp;omega) (by simp;omega))) ?_;apply Y;refine kF 2 fun _ Y=>?_;simp[ga5,ga11,ga18,ga23,hbig,hg1,hqq,hol,hdec];apply Y;refine zbD 154 ?_ ?_<;>intro g26<;>try simp at g26
 refine kF 7 fun _ Y=>?_;simp[ga5,ga11,ga18,ga23,hbig,hg1,hqq,hol,hdec];and_intros<;>(try omega);apply Y;refine zbD 161 ?_ ?_<;>intro g27<;>try simp at g27
 refine kF 1 fun _ Y=>?_;simp[ga5,ga11,ga18,ga23,hbig,hg1,hqq,hol,hdec];apply Y;refine zdg ga18 fun _ Y=>?_;simp[ga5,ga11,ga18,ga23,hbig,hg1,hqq,hol,hdec];refine zdr (hf0) ?_;apply Y;refine kF 3 fun _ Y=>?_;simp[ga5,ga11,ga18,ga23,hbig,hg1,hqq,hol,hdec];apply Y;refine zbD 166 ?_ ?_<;>intro g28<;>try simp at g28
 refine kF 1 fun _ Y=>?_;simp[ga5,ga11,ga18,ga23,hbig,hg1,hqq,hol,hdec];apply Y;refine zdg ga23 fun _ Y=>?_;simp[ga5,ga11,ga18,ga23,hbig,hg1,hqq,hol,hdec];refine zdr (hb0) ?_;apply Y;refine kF 1 fun _ Y=>?_;simp[ga5,ga11,ga18,ga23,hbig,hg1,hqq,hol,hdec];apply Y;refine zdg ga23 fun _ Y=>?_;simp[ga5,ga11,ga18,ga23,hbig,hg1,hqq,hol,hdec];refine zdr (hh0) ?_;apply Y;simp[ga5,ga11,ga18,ga23,hbig,hg1,hqq,hol,hdec];and_intros<;>(try omega);apply Z;apply aC;simp [aH]
end Go.Proofs.YtbgfljpnhhdkoaaGreat
namespace Go.Vm
open Go Go.RowKit
variable {n:Nat}{w:World}{α:Type}
def An(w:World):Mem:=fun b o=>w.cell? ⟨b,o,none⟩
def CellsAt(w:World)(ds:List D)(cs:List Value):Prop:=
 ds.length=cs.length/\∀(i:Nat) (c:D) (y:Value),ds[i]?=some c->cs[i]?=some y->R (An w) [] c y/\y.oneCell'=true/\c.flat=true
def OpenAt(w:World)(d:D)(cs:List Value):Prop:=CellsAt w d.cells cs/\d≠ .any
def Opens(P:Program)(t:TypeId) {α:Type} (f:α->D)(p:α->Prop):Prop:=
 ∀(H:Type) (enc:TypeId×Value->H) (w:World) (spare:Nat->Bool) (held:Bool) (fuel:Nat) (cs:List Value) (x:DataW H×List MemPlace),DataW.trod enc P w 0 spare held fuel t cs=some x->∃a,p a/\OpenAt w (f a) cs
theorem OpenAt.one {d:D} {y:Value} (hd:d.cells= [d])(hr:R (An w) [] d y)(h1:y.oneCell'=true)(hf:d.flat=true)(ha:d≠ .any):OpenAt w d [y]:=by
 refine⟨⟨by rw [hd];rfl,fun i c z h2 h3=>?_⟩,ha⟩;rw [hd] at h2
 match i with
 | 0=>simp at h2 h3;subst h2;subst h3;exact⟨hr,h1,hf⟩
 | i+1=>simp at h2
section
variable {P:Program} {t:TypeId}
theorem aAw(ht:P.underlying t=some .bool):Opens P t D.bool (fun _=>True):=by
 intro H enc w spare held fuel cs x h;obtain⟨b,rfl,_⟩:=DataW.trod_bool ht h;exact⟨b,trivial,.one rfl (.v _ rfl) rfl rfl (by simp)⟩
theorem aFz(ht:P.underlying t=some (.int .i64)):Opens P t D.int (fun n=> -9223372036854775808<=n/\n<=9223372036854775807):=by
 intro H enc w spare held fuel cs x h;obtain⟨n,rfl,_,hw⟩:=DataW.trod_int ht h;refine⟨n,?_,.one rfl (.v _ rfl) rfl rfl (by simp)⟩;have h1:IntKind.i64.min= -9223372036854775808:=rfl;have h2:IntKind.i64.max=9223372036854775807:=rfl;simp only [Lit.wf,gP,fN] at hw;omega
theorem aHc(ht:P.underlying t=some .string):Opens P t D.str (fun s=>s.size<=maxLen):=by
 intro H enc w spare held fuel cs x h;obtain⟨s,rfl,_,hw⟩:=DataW.trod_string ht h;exact⟨s,hw,.one rfl (.v _ rfl) rfl rfl (by simp)⟩
theorem OpenAt.value {d:D} {cs:List Value} (h:OpenAt w d cs):∃x:Value,x.cells.toList=cs/\R (An w) [] d x:=by
 have gen:d.cells= [d]->∃x:Value,x.cells.toList=cs/\R (An w) [] d x:=by
  intro hd;have hl:=h.1.1;rw [hd] at hl;obtain⟨y,rfl⟩:=List.length_eq_one_iff.1 hl.symm;have:=h.1.2 0 d y (by rw [hd];rfl) rfl;exact⟨y,by rw [Value.cells_one this.2.1],this.1⟩
 cases d with
 | agg ds=>
  refine⟨.agg cs.toArray,by simp [Value.cells],.agg ds cs.toArray (by have:=h.1.1;simp [D.cells] at this;simp [this]) (fun i e y a1 a2=>(h.1.2 i e y a1 (by simpa using a2)).1) (fun i y a2=>?_)⟩;have a2':cs[i]?=some y:=by simpa using a2
  have hi:=(aP.1 a2').1;have hl:=h.1.1;have hi2:i<(D.cells (.agg ds)).length:=by omega
  exact(h.1.2 i _ y (aS hi2) a2').2.1
 | _=>exact gen rfl
theorem Hz {Q:Nat->α->Prop} (h:∀i,i<n->∃a,Q i a):∃l:List α,l.length=n/\∀i a,l[i]?=some a->Q i a:=by
 induction n with
 | zero=>exact⟨[],rfl,by simp⟩
 | succ n ih =>
  obtain⟨l,hl,hq⟩:=ih (fun i hi=>h i (by omega));obtain⟨a,ha⟩:=h n (by omega);refine⟨l++ [a],by simp [hl],fun i b hb=>?_⟩;by_cases hi:i<l.length
  .rw [bC hi] at hb;exact hq i b hb
  rw [bX (by omega)] at hb;have h0:i - l.length=0:=by
   have:=(aP.1 hb).1;simp at this;omega
  rw [h0] at hb;simp at hb;subst hb;rw [show i=n by omega];exact ha
theorem Zb {d:D} :d.ncells=d.cells.length:=by cases d <;> rfl
theorem tU {e:TypeId} {f:α->D} {p:α->Prop} (ht:P.underlying t=some (.slice e))(h:Opens P e f p)(hk:0<P.cellsOf e):Opens P t (fun l:List α=> .sl false (l.map f)) (fun l=>l.length<=maxLen/\∀a∈l,p a):=by
 intro H enc w spare held fuel cs x hx;rcases DataW.trod_slice ht hx with ⟨rfl,_⟩ | ⟨a,len,cap,elems,rest,n,_,rfl,_,_,hlc,hcm,hlen,hel,_,_⟩
 .exact⟨[],⟨by simp,by simp⟩,.one rfl (.nil false) rfl rfl (by simp)⟩
 by_cases h0:len=0
 .subst h0;exact⟨[],⟨by simp,by simp⟩,.one rfl (.emp false a cap hcm) rfl rfl (by simp)⟩
 have each:∀i,i<len->∃b:α×List Value,p b.1/\OpenAt w (f b.1) b.2/\w.cells? 0 (a.add (i * P.cellsOf e)) (P.cellsOf e)=some b.2:=by
  intro i hi;have hi':i<elems.length:=by omega
  have:=hel i hi;rw [aS hi',mC] at this;obtain⟨ds,h1,h2⟩:=this;obtain⟨b,hb,ho⟩:=h H enc w spare held n ds _ h2;exact⟨(b,ds),hb,ho,h1⟩
 obtain⟨L,hL,hq⟩:=Hz each;have each2:∀i,i<len->∃v:Value,∃b,L[i]?=some b/\v.cells.toList=b.2/\R (An w) [] (f b.1) v:=by
  intro i hi;have hi':i<L.length:=by omega
  have hb:L[i]?=some L[i]:=aS hi';obtain⟨v,h1,h2⟩:=(hq i _ hb).2.1.value;exact⟨v,_,hb,h1,h2⟩
 obtain⟨V,hV,hv⟩:=Hz each2;have hspot:a.spot=none:=by
  have hi':0<L.length:=by omega
  have h1:=(hq 0 _ (aS hi')).2.2;obtain⟨_,hl,hc⟩:=World.cells?_some h1;have h2:=hc 0 hk;rw [aS (by omega)] at h2;simpa [Addr.add] using World.cell?_spot h2
 obtain⟨b,off,spot⟩:=a;simp only at hspot;subst hspot;refine⟨L.map (·.1),⟨by rw [bQ,hL];exact lM hlc hcm,fun y hy=>?_⟩,.one rfl ?_ rfl rfl (by simp)⟩
 .obtain⟨z,hz,rfl⟩:=aV.1 hy;obtain⟨i,hi⟩:=eW hz;exact(hq i z hi).1
 refine .sl false _ b off len cap (P.cellsOf e) V (by simp [hV,hL]) (by simp [hL]) hk hlc hcm (fun i d x h1 h2=>?_) (fun i d h1=>?_) (fun i x h1=>?_)
 .obtain⟨z,hz,h3,h4⟩:=hv i x h2;simp only [cF,hz,gJ,bF] at h1;subst h1;exact h4
 .simp only [cF,Option.map_map,dG] at h1;obtain⟨z,hz,rfl⟩:=h1;obtain⟨_,h5,h6⟩:=hq i z hz;show(f z.1).ncells=_
  rw [Zb,h5.1.1];exact(World.cells?_some h6).2.1
 obtain⟨z,hz,h3,h4⟩:=hv i x h1;obtain⟨_,h5,h6⟩:=hq i z hz;obtain⟨_,h7,h8⟩:=World.cells?_some h6;have hsz:x.cells.size=P.cellsOf e:=by rw [<- h7,<- h3,cG]
 refine⟨hsz,fun j c hj=>?_⟩;have hjl:j<P.cellsOf e:=by rw [<- hsz];exact(dL.1 hj).1
 have hj2:z.2[j]?=some c:=by rw [<- h3];simpa using hj
 have hj3:j<(f z.1).cells.length:=by rw [h5.1.1];omega
 refine⟨(h5.1.2 j _ c (aS hj3) hj2).2.1,?_⟩;have:=h8 j hjl;rw [Addr.add_none,Addr.add_none,hj2] at this;show w.cell? _=_
 rw [show off+(i * P.cellsOf e+j)=off+i * P.cellsOf e+j by omega];exact this
theorem CellsAt.append {a b:List D} {x y:List Value} (h1:CellsAt w a x)(h2:CellsAt w b y):CellsAt w (a++b) (x++y):=by
 refine⟨by simp [h1.1,h2.1],fun i c v e1 e2=>?_⟩;by_cases hi:i<a.length
 .rw [bC hi] at e1;rw [bC (by have:=h1.1;omega)] at e2;exact h1.2 i c v e1 e2
 rw [bX (by omega)] at e1;rw [bX (by have:=h1.1;omega)] at e2;rw [<- h1.1] at e2;exact h2.2 _ c v e1 e2
def Qn(P:Program)(fs:List Field)(k n:Nat) {α:Type} (f:α->List D)(p:α->Prop):Prop:=
 ∀(H:Type) (enc:TypeId×Value->H) (w:World) (spare:Nat->Bool) (held:Bool) (fuel:Nat) (cs:List Value),cs.length=n->
  (∀fl∈fs,∃x:DataW H×List MemPlace,DataW.trod enc P w 0 spare held fuel fl.type ((cs.drop fl.offset).take (P.cellsOf fl.type))=some x)->∃a,p a/\CellsAt w (f a) (cs.drop k)
theorem vW :Qn P [] n n (fun _:Unit=> []) (fun _=>True):=by
 intro H enc w spare held fuel cs hn _;refine⟨(),trivial,?_,fun i c y h=>by simp at h⟩;rw [vF (by omega)];rfl
theorem eI {fl:Field} {fs:List Field} {k m:Nat} {β:Type} {f:α->D} {p:α->Prop} {g:β->List D} {q:β->Prop} (ho:fl.offset=k)(hc:P.cellsOf fl.type=m)(h1:Opens P fl.type f p)(h2:Qn P fs (k+m) n g q):
  Qn P (fl::fs) k n (fun ab:α×β=>(f ab.1).cells++g ab.2) (fun ab=>p ab.1/\q ab.2):=by
 intro H enc w spare held fuel cs hn hall;obtain⟨x,hx⟩:=hall fl (by simp);obtain⟨a,ha,hoa⟩:=h1 H enc w spare held fuel _ x hx;obtain⟨b,hb,hob⟩:=h2 H enc w spare held fuel cs hn (fun fl' h'=>hall fl' (by simp [h']));refine⟨(a,b),⟨ha,hb⟩,?_⟩;have e:cs.drop k=(cs.drop k).take m++cs.drop (k+m):=by
  rw [<- List.drop_drop];exact(eZ m _).symm
 rw [e];rw [ho,hc] at hoa;exact hoa.1.append hob
theorem rX {fs:Array Field} {f:α->List D} {p:α->Prop} (ht:P.underlying t=some (.struct fs))(h:Qn P fs.toList 0 (P.cellsOf t) f p):Opens P t (fun a=> .agg (f a)) p:=by
 intro H enc w spare held fuel cs x hx;obtain⟨xs,n,_,_,hl,hxl,hall⟩:=DataW.trod_struct ht hx;obtain⟨a,ha,hc⟩:=h H enc w spare held n cs hl (fun fl hfl=>by
  obtain⟨i,hi⟩:=eW hfl;rw [dM] at hi;have h1:=hall i fl hi;have hi2:i<xs.length:=by rw [hxl];exact(dL.1 hi).1
  rw [aS hi2] at h1;exact⟨_,h1⟩)
 rw [zZ] at hc;exact⟨a,ha,hc,by simp⟩
theorem Opens.map {β:Type} {f:α->D} {p:α->Prop} {g:β->D} {q:β->Prop} (h:Opens P t f p)(φ:α->β)(hφ:∀a,f a=g (φ a))(hq:∀a,p a->q (φ a)):Opens P t g q:=by
 intro H enc w spare held fuel cs x hx;obtain⟨a,ha,ho⟩:=h H enc w spare held fuel cs x hx;exact⟨φ a,hq a ha,by rw [<- hφ];exact ho⟩
theorem Va {H:Type} {enc:TypeId×Value->H} {f:α->D} {p:α->Prop} {spare:Nat->Bool} {held:Bool} {v:Value} {d:DataW H} {ps:List MemPlace} (h:Opens P t f p)(hf:∀a,(f a).cells= [f a])(hv:v.oneCell'=true)(ht:DataW.Trod enc P w 0 spare held t v d ps):
  ∃a,p a/\R (An w) [] (f a) v/\∀X h q,Own w (An w) [] X h q (f a) v:=by
 obtain⟨fuel,hx⟩:=ht;obtain⟨a,ha,ho⟩:=h H enc w spare held fuel _ _ hx;rw [Value.cells_one hv] at ho;have:=ho.1.2 0 (f a) v (by rw [hf];rfl) rfl;exact⟨a,ha,this.1,fun X h q=> .flat q _ _ this.2.2⟩
theorem aTc {N:FuncId} {ds:List D} {vs:Array Value} {W:World} (hct:Ct P N ds [] (fun r _=>r= .bool true))(hl:vs.size=ds.length)
  (ha:∀(i:Nat) (d:D) (v:Value),ds[i]?=some d->vs[i]?=some v->R (An W) [] d v/\∀X h q,Own W (An W) [] X h q d v):
  Calls P N vs W fun e W'=>e= .returned (.bool true)/\Below W.heap.size W W':=by
 refine(hct.2 W ⟨An W,fun _=>none, [], []⟩ vs hl rfl ⟨fun b o c h=>h,fun b t h=>by simp at h,fun t=>?_,rfl,fun n b cs h=>by simp at h,rfl,fun n b cs h=>by simp at h⟩).mono ?_
 .show SlotOk W _ t (fT ds t) (cJ vs t)
  cases hd:ds[t]? with
  | none=>
   simp only [fT,hd];exact⟨.any _,.flat _ _ _ rfl⟩
  | some d=>
   have hlt:t<vs.size:=by rw [hl];exact(aP.1 hd).1
   have hv:vs[t]?=some vs[t]:=bR hlt;have hvv:cJ vs t=vs[t]:=by simp [cJ,hlt]
   rw [wM hd,hvv];obtain⟨h1,h2⟩:=ha t d _ hd hv;exact⟨h1,h2 _ _ _⟩
 rintro e W' ⟨r,σ',x,g',rfl,rfl,_,hf,hok⟩;have hs:=hok.slot 0;have hs':R g'.M g'.bs (.bool true) x:=hs.1;exact⟨by rw [hs'.vEq],hf.os,hf.tape,hf.output,hf.size,fun k hk=>(hf.keep k hk rfl).1⟩
end
end Go.Vm
