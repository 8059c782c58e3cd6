import Derived.Test.YtbdjepeabjangaaGreatWkAu19
import Derived.RangeFuncNested
import Derived.RangeFuncBound
import Derived.RangeFuncCalls
import Derived.RangeFuncLeaves
import Derived.Shelf.Abstract
import Derived.Shelf.RegionOpen
import Derived.WalkKit
import Derived.OwnWalkIn
import Derived.TacticsInMore
import Derived.LoopNIn
import Derived.LoopIn
import Derived.Maps.AppendAt
import Derived.Test.YtbdjepeabjangaaGreatVm3
import Derived.Laws.AppendOwn
set_option linter.all false
set_option maxRecDepth 100000
set_option maxHeartbeats 8000000
open Go.Proofs.Tryz
namespace Go.Proofs.YtbdjepeabjangaaGreat
open Go Go.Vm
structure Tm where
 token:Int
 deadline:Int
 job:JB
 deriving DecidableEq
@[simp] abbrev aPw(s:Tm):D:= .agg [.v (.int .i64 s.token),.v (.int .i64 s.deadline),.v (.int .i64 s.job.kind),.v (.int .i64 s.job.node)]
def uS(t:TN):List Int:=t.ID::(t.kids.attach.map fun k=>uS k.1).flatten
termination_by SizeOf.sizeOf t
decreasing_by
 have h:=iC k.2;cases t;simp at h |-;omega
theorem Am(t:TN):uS t=t.ID::(t.kids.map uS).flatten:=by rw [uS];simp
def Ac(t:TN)(j:Nat):List Int:=t.ID::((t.kids.take j).map uS).flatten
theorem aJg(t:TN):Ac t 0= [t.ID]:=rfl
theorem Ew(t:TN)(j:Nat)(h:j<t.kids.length):Ac t (j+1)=Ac t j++uS t.kids[j]:=by
 unfold Ac;rw [bM t.kids j h,dC,List.flatten_append];simp
theorem aBa(t:TN):Ac t t.kids.length=uS t:=by unfold Ac;rw [gC,Am]
theorem Bj:∀(t:TN),(uS t).length=jJ t
 | t=>by
  rw [Am,tQ,bU,List.length_flatten,pX,tJ];congr 2;exact fC fun k hk=>Bj k
termination_by t=>jJ t
decreasing_by
 have:=jR hk;omega
theorem aEl(t:TN)(j:Nat):(Ac t j).length<=jJ t:=by
 rw [<- Bj t,Am];unfold Ac;rw [bU,bU];have:((t.kids.take j).map uS).flatten.length<=((t.kids.map uS).flatten).length:=by
  conv=>rhs;rw [<- gL j t.kids]
  rw [dC,List.flatten_append,aX];omega
 omega
theorem aF2(t:TN)(j:Nat)(h:j<t.kids.length):(Ac t j).length+jJ t.kids[j]<=jJ t:=by
 have h1:=aEl t (j+1);rw [Ew t j h,aX,Bj] at h1;exact h1
abbrev aLu(O:Nat)(t:TN):Prop:=∀(l:List Int) (σ:List (List D)),σ[O]?=some [.sl true (l.map D.int)]->l.length+jJ t<=9999->Ct prog 84 [iQ t,.clo (.func 85) [] [.ref O 0]] σ (fun r σ'=>r=D.bool true/\σ'=σ.set O [.sl true ((l++uS t).map D.int)])
theorem Xt(t:TN)(O:Nat)(l:List Int)(σ:List (List D))(hO:σ[O]?=some [.sl true (l.map D.int)])(hl:l.length<=9999):Ct prog 85 [iQ t,.ref O 0] σ (fun r σ'=>r= .bool true/\σ'=σ.set O [.sl true ((l++ [t.ID]).map D.int)]):=by
 refine zf func85 ?_;refine zr ⟨[4],[],[],[],[]⟩ fun _ _ Z=>?_;simp(disch:=omega)[hO,eI hO];apply Z;refine zr ⟨[4],[],[],[],[]⟩ fun _ _ Z=>?_;simp(disch:=omega)[hO,eI hO];and_intros<;>(try omega);apply Z;refine zr ⟨[4],[],[],[],[]⟩ fun _ _ Z=>?_;simp(disch:=omega)[hO,eI hO];apply Z;apply aC;simp [aT]
theorem Ys(t:TN)(O:Nat)(l:List Int)(σ:List (List D))(hO:σ[O]?=some [.sl true (l.map D.int)])(hl:l.length+jJ t<=9999)(ih:∀k∈t.kids,aLu O k):Ct prog 84 [iQ t,.clo (.func 85) [] [.ref O 0]] σ (fun r σ'=>r= .bool true/\σ'=σ.set O [.sl true ((l++uS t).map D.int)]):=by
 refine zf func84 ?_;have hcl:=Kg t;refine cL fun _ _ Z=>?_;simp(disch:=omega);apply Z;apply aE;refine cL fun _ _ Z=>?_;refine zs 2 fun _ Y=>?_;simp(disch:=omega);apply Y;refine aD fun _ Y=>?_;simp(disch:=omega);refine eH (Xt t O l _ hO (by omega)) ?_;apply Y;simp(disch:=omega);apply Z;refine zI ?_ ?_<;>intro c1<;>try simp at c1
 apply zA;apply aE;refine cL fun _ _ Z=>?_;simp(disch:=omega);and_intros<;>(try omega);apply Z;apply aQ;refine zk [1,4,12,13,14] ?_;refine qD (fun(j:Nat)=> [(14,.d (.v (.int .i64 (j:Int)))),(6,.d (.any))]) (fun(j:Nat)=> [[D.int t.ID,D.int t.kind,D.str t.tag,D.str t.text,.sl false (t.classes.map D.str),.sl false (t.attrs.map cD),.sl false (t.styles.map bV),.sl false (t.kids.map mQ)]]) (fun(j:Nat)=>σ.set O [.sl true ((l++Ac t j).map D.int)]) [4,6,14,15,16,17,18,19,20,21,22] (fun(j:Nat)=>j<=t.kids.length) (fun(j:Nat)=>t.kids.length - j) (0) (by simp <;> rfl) ?_ (by simp) (by simp [aJg]) ?_ ?_
 .simp
 .simp
 rintro j hj;simp only [aO,aK];refine cL fun _ _ Z=>?_;simp(disch:=omega);apply Z;apply aE;refine zI ?_ ?_<;>intro c2<;>try simp at c2
 .have hrg:t.kids[j]?=some t.kids[j]:=aN c2;apply mT;refine cL fun _ _ Z=>?_;simp(disch:=omega)[hrg];and_intros<;>(try omega);apply Z;refine cL fun _ _ Z=>?_;refine zs 2 fun _ Y=>?_;simp(disch:=omega)[hrg];apply Y;refine aD fun _ Y=>?_;simp(disch:=omega)[hrg];have hO2:=eI hO [.sl true ((l++Ac t j).map D.int)];rw [dC] at hO2;have hlt:=aF2 t j (by omega);refine eH (ih t.kids[j] (cR _) (l++Ac t j) _ (by rw [dC];exact hO2) (by rw [aX];omega)) ?_;apply Y;simp(disch:=omega)[hrg];apply Z;refine zI ?_ ?_<;>intro c3<;>try simp at c3
  apply rK;refine zk [1,6,12,13,14] ?_;refine Dd fun _ _ Z=>?_;simp(disch:=omega)[hrg];and_intros<;>(try omega);apply Z;refine eL (j+1) ?_ ?_ (bT rfl ?_ (by simp) (by rw [Ew t j (by omega)];simp))
  .omega
  .try dsimp only
   omega
  simp(disch:=omega)[hrg]
 obtain rfl:j=t.kids.length:=by omega
 rw [aBa];apply zE;refine cL fun _ _ Z=>?_;simp(disch:=omega);apply Z;apply aC;simp [aT]
theorem Rn(O:Nat)(t:TN):aLu O t:=fun l σ hO hl=>Ys t O l σ hO hl fun k hk=>Rn O k
termination_by jJ t
decreasing_by
 have:=jR hk;omega
theorem aC3(t:TN)(σ:List (List D))(hc:jJ t<=9999):Ct prog 48 [iQ t] σ (fun r σ'=>r= .sl false ((uS t).map D.int)/\∃J,σ'=σ++J):=by
 refine zf func48 ?_;refine zr ⟨[],[],[3],[],[]⟩ fun _ _ Z=>?_;simp(disch:=omega)[aB,aA];apply Z;refine zr ⟨[],[],[3],[],[]⟩ fun _ _ Z=>?_;simp(disch:=omega)[aB,aA];and_intros<;>(try omega);apply Z;refine zr ⟨[],[],[3],[],[]⟩ fun _ _ Z=>?_;refine zs 2 fun _ Y=>?_;simp(disch:=omega)[aB,aA];and_intros<;>(try omega);apply Y;refine aD fun _ Y=>?_;simp(disch:=omega)[aB,aA];refine eH (Rn σ.length t [] _ (by simp) (by simpa using hc)) ?_;apply Y;simp only [fJ];apply Z;refine zr ⟨[],[],[3],[],[]⟩ fun _ _ Z=>?_;simp(disch:=omega)[aB,aA];apply Z;apply aC;simp [aT]
theorem aE3(t:TN)(σ:List (List D))(hc:jJ t<=9999):Ct prog 48 [iQ t] σ (fun r σ'=>r= .sl false ((uS t).map D.int)/\σ'=σ):=
 (aC3 t σ hc).trim fun r σ' ⟨hr,J,hs⟩=>⟨σ,J,hs,rfl,by rw [hr];exact Sc.sl (Sc.map fun a=>Sc.v _),fun n cs h=> .inl h,hr,rfl⟩
theorem dP:uS fI= [0]:=by rw [Am];rfl
theorem aAj:jJ fI<=9999:=by rw [tQ];decide
theorem aHo {n:Int} {k:Nat} (h:k<2):sH false 1 (List.drop (2+k) (Aa n))=some (.sl false []):=by
 match k,h with
 | 0,_ | 1,_=>rfl
@[simp] abbrev q2_1:Cfg:=⟨[0,4,25,26],[],[],[],[10,12,19,20,22,24,25]⟩
theorem Nx  (σ:List (List D))  :Ct prog 156 [.v (.slice none 0 0),D.int 0] σ (fun r σ'=>rJ 4 [] r/\σ'=σ):=by
 refine zf func156 ?_;refine zr q2_1 fun _ _ Z=>?_;simp(disch:=omega);apply Z;apply aE;refine zr q2_1 fun _ _ Z=>?_;simp(disch:=omega);apply Z;refine zI ?_ ?_<;>intro c1<;>try simp at c1
 apply zA;apply aE;refine zr q2_1 fun _ _ Z=>?_;simp(disch:=omega);and_intros<;>(try omega);apply Z;refine zr q2_1 fun _ _ Z=>?_;simp(disch:=omega);apply Z;refine zI ?_ ?_<;>intro c2<;>try simp at c2
 apply zA;refine zk [0,4] ?_;refine zr q2_1 fun _ _ Z=>?_;simp(disch:=omega);apply Z;apply aC;simp [aT,rJ]
theorem aJy(σ:List (List D)):Ct prog 156 [.v (.slice none 0 0),D.int 0] σ (fun r σ'=>r= .xs 4 []/\σ'=σ):=(Nx σ).toX fun _ _ h=>h
@[simp] abbrev q2_2:Cfg:=⟨[2,6,24,31,33,35],[],[],[10,13,26,29,33],[]⟩
theorem aEc(Q:Nat)(n:Int)(σ:List (List D))(hQ:σ[Q]?=some (Aa n)):Ct prog 138 [.slo Q 2 2 2] σ (fun r σ'=>r= .xs 4 []/\σ'=σ):=by
 refine zf func138 ?_;refine zr q2_2 fun _ _ Z=>?_;simp(disch:=first|omega|assumption)[hQ];apply Z;refine zr q2_2 fun _ _ Z=>?_;simp(disch:=first|omega|assumption)[hQ];apply Z;apply aE;refine zr q2_2 fun _ _ Z=>?_;simp(disch:=first|omega|assumption)[hQ];and_intros<;>try first|omega|exact rfl
 apply Z;apply aQ;refine zk [0,2,3,9,10,11] ?_;refine bK (fun(k:Nat)=> [(11,.d (.v (.int .i64 (k:Int)))),(3,.d (D.int 0)),(5,.d (.any))]) [3,5,11,12,13,14,15,16,17,18,19,20,21,22] (fun(k:Nat)=>k<=2) (fun(k:Nat)=>2 - k) (0) (by simp <;> rfl) ?_ ?_ ?_
 .simp
 .simp
 rintro k hk;simp only [aO,aK];refine zr q2_2 fun _ _ Z=>?_;simp(disch:=first|omega|assumption)[hQ];apply Z;apply aE;refine zI ?_ ?_<;>intro c1<;>try simp at c1
 .have hld:=aHo (n:=n) (k:=k) (by omega);apply mT;refine zr q2_2 fun _ _ Z=>?_;simp(disch:=first|omega|assumption)[hQ,hld];and_intros<;>try first|omega|exact rfl
  apply Z;refine zr q2_2 fun _ _ Z=>?_;simp(disch:=first|omega|assumption)[hQ,hld];and_intros<;>try first|omega|exact rfl
  apply Z;refine zk [0,2,3,5,9,10,11] ?_;refine zr q2_2 fun _ _ Z=>?_;simp(disch:=first|omega|assumption)[hQ,hld];apply Z;refine zI ?_ ?_<;>intro c2<;>try simp at c2
  apply rK;refine zt q2_2 fun _ _ Z=>?_;simp(disch:=first|omega|assumption)[hQ,hld];and_intros<;>try first|omega|exact rfl
  apply Z;refine zq (k+1) ?_ ?_ ?_
  .omega
  .try dsimp only
   omega
  simp(disch:=first|omega|assumption)[hQ,hld]
 apply zE;refine zr q2_2 fun _ _ Z=>?_;refine zs 1 fun _ Y=>?_;simp(disch:=first|omega|assumption)[hQ];apply Y;refine aD fun _ Y=>?_;simp(disch:=first|omega|assumption)[hQ];refine eH (aJy _) ?_;apply Y;simp(disch:=first|omega|assumption)[hQ];apply Z;apply aE;refine zr q2_2 fun _ _ Z=>?_;simp(disch:=first|omega|assumption)[hQ];and_intros<;>try first|omega|exact rfl
 apply Z;apply aQ;refine zk [2,6,25,26,27] ?_;refine bK (fun(k:Nat)=> [(27,.d (.v (.int .i64 (k:Int)))),(6,.d (.xs 4 [])),(8,.d (.any))]) [6,8,27,28,29,30,31,32,33,34] (fun(k:Nat)=>k<=2) (fun(k:Nat)=>2 - k) (0) (by simp <;> rfl) ?_ ?_ ?_
 .simp
 .simp
 rintro k hk;simp only [aO,aK];refine zr q2_2 fun _ _ Z=>?_;simp(disch:=first|omega|assumption)[hQ];apply Z;apply aE;refine zI ?_ ?_<;>intro c3<;>try simp at c3
 .have hld:=aHo (n:=n) (k:=k) (by omega);apply mT;refine zr q2_2 fun _ _ Z=>?_;simp(disch:=first|omega|assumption)[hQ,hld];and_intros<;>try first|omega|exact rfl
  apply Z;refine zt q2_2 fun _ _ Z=>?_;simp(disch:=first|omega|assumption)[hQ,hld];and_intros<;>try first|omega|exact rfl
  apply Z;apply zB;refine zk [2,6,8,25,26,27] ?_;refine zt q2_2 fun _ _ Z=>?_;simp(disch:=first|omega|assumption)[hQ,hld];and_intros<;>try first|omega|exact rfl
  apply Z;refine zq (k+1) ?_ ?_ ?_
  .omega
  .try dsimp only
   omega
  simp(disch:=first|omega|assumption)[hQ,hld]
 apply zE;refine zr q2_2 fun _ _ Z=>?_;simp(disch:=first|omega|assumption)[hQ];apply Z;apply aC;simp [aT]
theorem Zj(Q:Nat)(n:Int)(σ:List (List D))(hQ:σ[Q]?=some (Aa n)):Ct prog 138 [.slo Q 2 2 2] σ (fun r σ'=>r= .sl false []/\σ'=σ):=(aEc Q n σ hQ).freeze fun _ _ h=>h
theorem aCp(Q:Nat)(n:Int)(σ:List (List D))(hQ:σ[Q]?=some (Aa n)):Ct prog 116 [.ref Q 0] σ (fun r σ'=>(r.plain=true/\r.strip= .sl false [])/\σ'=σ):=by
 refine zf func116 ?_;refine zr ⟨[],[],[],[],[6]⟩ fun _ _ Z=>?_;simp(disch:=omega)[hQ];apply Z;refine zr ⟨[],[],[],[],[6]⟩ fun _ _ Z=>?_;refine zs 4 fun _ Y=>?_;simp(disch:=omega)[hQ];and_intros<;>(try omega);apply Y;refine aD fun _ Y=>?_;simp(disch:=omega)[hQ];refine eH (Zj Q n _ hQ) ?_;apply Y;simp(disch:=omega)[hQ];apply Z;apply aC;simp [aT]
open Go Go.Proofs Go.RowKit Go.Shelf
attribute [local go_sem] Oper.semAt_some
def Ir(x:Tm):List Value:= [.int .i64 x.token,.int .i64 x.deadline,.int .i64 x.job.kind,.int .i64 x.job.node]
def Xm(zs:List Tm)(k:Nat):Tm:=zs[k]?.getD ⟨0,0,⟨0,0⟩⟩
theorem vT(zs:List Tm) {k:Nat} (hk:k<zs.length):zs.take (k+1)=zs.take k++ [Xm zs k]:=by
 rw [Ee hk];simp [Xm,hk]
theorem Nv(F:Fence)(n:Nat)(h7:F.fn 159)(hro:F.round=none)(hn:1<=n)(l Bs o n₀ b off cap:Nat)(zs:List Tm)(hb:b<n₀)(hBs0:Bs<n₀)(J Jx:List Tm->World->Prop)
  (W:World) (hn₀:n₀<=W.heap.size) (hJ:AbidesFrom W.heap.size J)
  (hY:∀pre x W,J pre W->pre.length<zs.length->YieldAt F (n - 1) prog l #[.agg (Ir x).toArray] W fun e W'=>
   (e= .returned (.bool true)/\J (pre++ [x]) W'/\Below n₀ W W')\/(e= .returned (.bool false)/\Jx (pre++ [x]) W'))
  (hBs:W.cell? ⟨Bs,o,none⟩=some (.slice (some ⟨b,off,none⟩) zs.length cap)) (hlen:zs.length<1000000)
  (hc0:∀j,j<zs.length->W.cell? ⟨b,off+j * 4,none⟩=some (.int .i64 (Xm zs j).token))
  (hc1:∀j,j<zs.length->W.cell? ⟨b,off+j * 4+1,none⟩=some (.int .i64 (Xm zs j).deadline))
  (hc2:∀j,j<zs.length->W.cell? ⟨b,off+j * 4+2,none⟩=some (.int .i64 (Xm zs j).job.kind))
  (hc3:∀j,j<zs.length->W.cell? ⟨b,off+j * 4+3,none⟩=some (.int .i64 (Xm zs j).job.node)) (h0:J [] W):
  CallsIn F n prog 159 #[.func (.yield l) #[] #[],.pointer (some ⟨Bs,o,none⟩)] W fun e W'=>(∃v,e= .returned v)/\
   ((∃ys,ys=zs/\J ys W')\/(∃pre,pre<+:zs/\Jx pre W')):=by
 refine callsIn_of_wp func159 rfl h7 ?_ hro;simp only [ntmps159,eK,bU,dO,Nat.reduceAdd,Nat.reduceSub,sO,tX,tG,sU,aK,aO]
 gi_wp2
 gi_loopw [7] (fun i wr=>∃k:Nat,k<=zs.length/\i= .int .i64 k/\J (zs.take k) wr/\Below n₀ W wr)
  (fun i _=>zs.length - (intOf i).toNat)
 case atStart=>exact⟨0,cH _,rfl,by simpa using h0,Below.refl _ _⟩
 case round=>
  obtain⟨k,hk,rfl,hJs,hnx⟩:=hrel;by_cases hlt:k<zs.length
  .have e0:=(hnx.cell (p:=⟨b,off+k * 4,none⟩) hb).trans (hc0 k hlt);have e1:=(hnx.cell (p:=⟨b,off+k * 4+1,none⟩) hb).trans (hc1 k hlt);have e2:=(hnx.cell (p:=⟨b,off+k * 4+2,none⟩) hb).trans (hc2 k hlt);have e3:=(hnx.cell (p:=⟨b,off+k * 4+3,none⟩) hb).trans (hc3 k hlt);have hsz:n₀<=wr.heap.size:=dJ hn₀ hnx.size;have hJ2:J (zs.take k) (wr.alloc (.cells (Ir (Xm zs k)).toArray 252)):=hJ _ wr _ none hJs (World.grownBy_alloc _ _ _) (fun r e=>by cases e);obtain⟨fn,tmps,assign,body,hy,hR⟩:=hY _ (Xm zs k) _ hJ2 (by rw [bB];omega);simp only [Ir] at hy hR
   gi_wp2
   refine hR.mono ?_;rintro e W3 (⟨rfl,hJ3,hk3⟩ | ⟨rfl,hJx3⟩)
   .gi_wp2
    go_roundw
    case rel=>exact⟨k+1,by omega,by simp,by rw [vT zs hlt];exact hJ3,(hnx.trans ((Below.refl _ _).alloc hsz _)).trans hk3⟩
    case measure=>simp [intOf];omega
   gi_wp2
   refine bodyPost_ret (results_none rfl _ _ _) rfl ?_;exact⟨⟨_,rfl⟩,.inr ⟨_,by rw [<- vT zs hlt];exact List.take_prefix _ _,hJx3⟩⟩
  obtain rfl:k=zs.length:=by omega
  gi_wp2
  go_end0
  exact⟨⟨_,rfl⟩,.inl ⟨_,by simp,hJs⟩⟩
theorem Ad(F:Fence)(n:Nat)(h7:F.fn 159)(hro:F.round=none)(l Bs o cap:Nat)(a:Option Addr)(J:List Tm->World->Prop)(W:World)(hBs:W.cell? ⟨Bs,o,none⟩=some (.slice a 0 cap))(h0:J [] W):
  CallsIn F n prog 159 #[.func (.yield l) #[] #[],.pointer (some ⟨Bs,o,none⟩)] W fun e W'=>(∃v,e= .returned v)/\J [] W':=by
 refine callsIn_of_wp func159 rfl h7 ?_ hro;simp only [ntmps159,eK,bU,dO,Nat.reduceAdd,Nat.reduceSub,sO,tX,tG,sU,aK,aO]
 gi_wp2
 gi_loopw [7] (fun i wr=>i= .int .i64 0/\J [] wr) (fun _ _=>0)
 case atStart=>exact⟨rfl,h0⟩
 case round=>
  obtain⟨rfl,hJs⟩:=hrel
  gi_wp2
  go_end0
  exact⟨⟨_,rfl⟩,hJs⟩
def TmsAt(n₀:Nat)(W:World)(sv:Value)(zs:List Tm):Prop:=
 (∃a cap,sv= .slice a 0 cap/\zs= [])\/∃b off cap,sv= .slice (some ⟨b,off,none⟩) zs.length cap/\b<n₀/\(∀j,j<zs.length->W.cell? ⟨b,off+j * 4,none⟩=some (.int .i64 (Xm zs j).token))/\
  (∀j,j<zs.length->W.cell? ⟨b,off+j * 4+1,none⟩=some (.int .i64 (Xm zs j).deadline))/\(∀j,j<zs.length->W.cell? ⟨b,off+j * 4+2,none⟩=some (.int .i64 (Xm zs j).job.kind))/\
  (∀j,j<zs.length->W.cell? ⟨b,off+j * 4+3,none⟩=some (.int .i64 (Xm zs j).job.node))
theorem TmsAt.below {n₀:Nat} {A B:World} (h:Below n₀ A B) {sv:Value} {zs:List Tm} :TmsAt n₀ A sv zs->TmsAt n₀ B sv zs
 | .inl e=> .inl e
 | .inr ⟨b,off,cap,e,hb,h0,h1,h2,h3⟩=> .inr ⟨b,off,cap,e,hb,fun j hj=>(h.cell (p:=⟨b,off+j * 4,none⟩) hb).trans (h0 j hj),fun j hj=>(h.cell (p:=⟨b,off+j * 4+1,none⟩) hb).trans (h1 j hj),
  fun j hj=>(h.cell (p:=⟨b,off+j * 4+2,none⟩) hb).trans (h2 j hj),fun j hj=>(h.cell (p:=⟨b,off+j * 4+3,none⟩) hb).trans (h3 j hj)⟩
theorem Hx(F:Fence)(n:Nat)(h7:F.fn 159)(hro:F.round=none)(hn:1<=n)(Bs o n₀:Nat)(sv:Value)(zs:List Tm)(hlen:zs.length<1000000)(w:World)(hBs:Bs<n₀)(hn₀:n₀<=w.heap.size)
  (hc:w.cell? ⟨Bs,o,none⟩=some sv) (hI:TmsAt n₀ w sv zs):
  SeqStopsK F n prog 159 #[.pointer (some ⟨Bs,o,none⟩)] (fun x:Tm=>#[Value.agg (Ir x).toArray]) (Below n₀) (fun ys=>ys=zs) (fun pre=>pre<+:zs) zs.length w:=fun l J Jx W hW hJ _ hY h0=>by
 have hc':=(hW.cell (p:=⟨Bs,o,none⟩) (lX hBs hn₀)).trans hc;rcases hI.below (hW.mono hn₀)with ⟨a,cap,rfl,rfl⟩ | ⟨b,off,cap,rfl,hb,c0,c1,c2,c3⟩
 .exact(Ad F n h7 hro l Bs o cap a J W hc' h0).mono fun e W' ⟨he,hj⟩=>⟨he,.inl ⟨_,rfl,hj⟩⟩
 exact Nv F n h7 hro hn l Bs o n₀ b off cap zs hb hBs J Jx W (dJ hn₀ hW.size) hJ hY hc' hlen c0 c1 c2 c3 h0
theorem aFb:(prog.info? 252).map (fun i=>(i.zero,i.size,i.bytes))=some (some (.agg #[.int .i64 0,.int .i64 0,.int .i64 0,.int .i64 0]),4,32):=by kernel_rfl
def Box4(W:World)(B:Nat)(x:Tm):Prop:=W.heap[B]?=some (.cells (Ir x).toArray 252 (0,0))
theorem Box4.lt {W:World} {B:Nat} {x:Tm} (h:Box4 W B x):B<W.heap.size:=(cZ.1 h).1
theorem aBl {β:Type} (B:Nat)(x:Tm):Own (fun(_:β) W=>Box4 W B x):=fun s X Y row hs hg hrow=>
 (hg.block B hs.lt (fun e'=>by obtain⟨o,ho,hc⟩:=hrow B e'.symm;rw [show X.heap[B]?=_ from hs] at ho;cases ho;cases hc)).trans hs
theorem Box4.cell {W:World} {B:Nat} {x:Tm} (h:Box4 W B x)(j:Nat):W.cell? ⟨B,j,none⟩=(Ir x)[j]?:=by simp [World.cell?,show W.heap[B]?=_ from h]
theorem Xf(w:World)(x:Tm)(t:TypeId):∀j u,(Ir x)[j]?=some u->(w.alloc (.cells #[.int .i64 x.token,.int .i64 x.deadline,.int .i64 x.job.kind,.int .i64 x.job.node] t)).cell? ((⟨w.heap.size,0,none⟩:Addr).add j)=some u:=by
 intro j u hj
 match j,hj with
 | 0,hj | 1,hj | 2,hj | 3,hj=>
  simp [Ir] at hj;subst hj;simp [Addr.add]
 | j+4,hj=>simp [Ir] at hj
theorem aAi(F:Fence)(n:Nat)(h168:F.fn 168)(h159:F.fn 159)(hro:F.round=none)(hn:3<=n)(Bs o:Nat)(sv:Value)(zs:List Tm)(hlen:zs.length<1000000)(w:World)(hBs:Bs<w.heap.size)
  (hc:w.cell? ⟨Bs,o,none⟩=some sv) (hI:TmsAt w.heap.size w sv zs):
  CallsIn F n prog 168 #[.slice none 0 0,.func (.func 159) #[] #[.pointer (some ⟨Bs,o,none⟩)]] w fun e W'=>∃v,e= .returned v/\W'.ownsRow w.heap.size 252 4 v zs.length (zs.flatMap Ir)/\(v= .slice none 0 0↔zs= [])/\Below w.heap.size w W':=by
 have h1:1<=n:=by omega
 obtain⟨i0,hi,hz0,hz1,hz2⟩:=info_parts aFb;refine callsIn_of_wp_marks func168 rfl h168 ?_ hro;simp only [ntmps168,eK,bU,dO,Nat.reduceAdd,Nat.reduceSub,sO,tX,tG,sU,aK,aO]
 gi_wp2
 have bO:=Boxed.new w 235 (.slice none 0 0);have hB0:Below w.heap.size w (w.alloc (.cells #[.slice none 0 0] 235)):=(Below.refl _ w).alloc (bD _) _;have hc2:(w.alloc (.cells #[.slice none 0 0] 235)).cell? ⟨Bs,o,none⟩=some sv:=(hB0.cell (p:=⟨Bs,o,none⟩) hBs).trans hc;refine wpIn_rangeFunc_ownH hro h1 (gf:=159) (lb:=#[.pointer (some ⟨Bs,o,none⟩)]) rfl h159 (enters_of func159 (by kernel_rfl) rfl)
  (Hx F (n - 1) h159 hro (by omega) Bs o w.heap.size sv zs hlen _ hBs (by simp) hc2 (hI.below hB0)) belowK_t (belowK_b (by simp)) (Below.refl _ _) (fun _=>rfl)
  (fun pre W=>(∃v,Boxed W w.heap.size 235 v/\W.ownsRow w.heap.size 252 4 v pre.length (pre.flatMap Ir)/\(v= .slice none 0 0↔pre= []))/\Below w.heap.size w W)
  (fun _ _ _=>False)
  (OwnFrom.and (Own.from (holdsRow_own w.heap.size w.heap.size 235 252 4 (fun pre:List Tm=>pre.length) (fun pre=>pre.flatMap Ir) (fun pre v=>v= .slice none 0 0↔pre= [])) _) (ownFrom_below (bD _) (by simp)))
  (fun _ _ _ _ _ hs _ _=>hs)
  ⟨⟨_,bO,World.ownsRow_nil _ _ _ _,by simp⟩,hB0⟩
  (fun x a' W=>∃Bx,w.heap.size<Bx/\Box4 W Bx x/\a'= { tmps:=#[.slice none 0 0,.func (.func 159) #[] #[.pointer (some ⟨Bs,o,none⟩)],.pointer (some ⟨w.heap.size,0,none⟩),undef,.slice none 0 0,.pointer (some ⟨Bx,0,none⟩),.func (.func 159) #[] #[.pointer (some ⟨Bs,o,none⟩)],.agg (Ir x).toArray,undef,undef,undef,undef,undef],defers:= [] })
  (fun x a' _ X Y row hs hg hr=>by obtain⟨Bx,h1,h2,h3⟩:=hs;exact⟨Bx,h1,aBl Bx x () X Y row h2 hg (fun r e=>(hr r e).2),h3⟩)
  ?assign ?body ?done ?stop
 case assign=>
  rintro l pre x W K ⟨⟨v,hv,hrow,hnil⟩,hB⟩ hK;simp only [Ir] at hK |-
  gi_wp2
  exact hK _ _ ((KeepsOthers.alloc _ _).from _) ((Below.refl _ W).alloc hB.size _) ⟨⟨v,hv.alloc _,hrow.alloc _,hnil⟩,hB.alloc hB.size _⟩ ⟨W.heap.size,hv.lt,World.alloc_heap_new W _,rfl⟩
 case body=>
  rintro l pre x a' W hl ⟨r,hr⟩ ⟨⟨v,hv,hrow,hnil⟩,hB⟩ ⟨Bx,hBx,bX,rfl⟩ hlt;have hcv:=hv.cell;have x0:=bX.cell 0;have x1:=bX.cell 1;have x2:=bX.cell 2;have x3:=bX.cell 3;simp only [Ir,nM,Eo] at x0 x1 x2 x3 |-
  gi_wp2_with (gi_at_builtin;refine wpListIn_append_own _ rfl _ _ 235 rfl w.heap.size 252 i0 (.agg #[.int .i64 0,.int .i64 0,.int .i64 0,.int .i64 0]) 4 32 underlying235 hi hz0 hz1 hz2 rfl (by decide) _ _ _ rfl (hrow.alloc _) ⟨W.heap.size,0,none⟩ 1 1 (Ir x) rfl rfl (Xf _ _ _) (by simp [Value.oneCell',Ir]) (by simp [maxLen];omega) (by omega) (by have:=hB.size;simp;omega) ?_;intro v' w1 hown' hgrow _;obtain⟨g',cap',rfl⟩:=ownsRow_succ hown';obtain⟨hv1,hv2,hr2,hk2,hb2⟩:=hv.appended (by decide) hrow hB.size (bD _) hown' hgrow;have hc1:=hv1.cell;have hf1:=hv1.frozen)
  exact⟨hk2.from _,hb2,⟨_,hv2,by simpa using hr2,by simp⟩,hB.trans hb2⟩
 case done=>
  rintro D ys W hD rfl ⟨⟨v,hv,hrow,hnil⟩,hB⟩ hK;have hcv:=hv.cell
  gi_wp2
  refine⟨by simp,.inl ⟨_,_,rfl,run_takeDeferred hK,?_⟩⟩;exact⟨_,results_tmp rfl _ _ _,v,rfl,ownsRow_putObj hrow _ hK rfl,hnil,hB.trans (belowK_b (w:=w) (bD _) W D _ _ (by simp at hD;omega) hK rfl rfl)⟩
 case stop=>
  rintro D c pre W _ _ h _;exact h.elim
theorem Ny(F:Fence)(n:Nat)(h157:F.fn 157)(h168:F.fn 168)(h159:F.fn 159)(hro:F.round=none)(hn:4<=n)(Bs o:Nat)(sv:Value)(zs:List Tm)(hlen:zs.length<1000000)(w:World)(hBs:Bs<w.heap.size)
  (hc:w.cell? ⟨Bs,o,none⟩=some sv) (hI:TmsAt w.heap.size w sv zs):
  CallsIn F n prog 157 #[.func (.func 159) #[] #[.pointer (some ⟨Bs,o,none⟩)]] w fun e W'=>∃v,e= .returned v/\W'.ownsRow w.heap.size 252 4 v zs.length (zs.flatMap Ir)/\(v= .slice none 0 0↔zs= [])/\Below w.heap.size w W':=by
 have h1:1<=n:=by omega
 refine callsIn_of_wp func157 rfl h157 ?_ hro;simp only [ntmps157,eK,bU,dO,Nat.reduceAdd,Nat.reduceSub,sO,tX,tG,sU,aK,aO]
 gi_wp2_with (gi_at_call 168;refine(aAi F (n - 1) h168 h159 hro (by omega) Bs o sv zs hlen w hBs hc hI).mono ?_;rintro e w' ⟨v,rfl,hrow,hnil,hb⟩)
 go_ret
 exact⟨v,rfl,hrow,hnil,hb⟩
theorem Do(Bs o:Nat)(sv:Value)(zs:List Tm)(hlen:zs.length<1000000)(w:World)(hBs:Bs<w.heap.size)(hc:w.cell? ⟨Bs,o,none⟩=some sv)(hI:TmsAt w.heap.size w sv zs):
  Calls prog 157 #[.func (.func 159) #[] #[.pointer (some ⟨Bs,o,none⟩)]] w fun e W'=>∃v,e= .returned v/\W'.ownsRow w.heap.size 252 4 v zs.length (zs.flatMap Ir)/\(v= .slice none 0 0↔zs= [])/\Below w.heap.size w W':=
 (callsIn_wide (n:=4)).1 (Ny Fence.wide 4 trivial trivial trivial rfl (by omega) Bs o sv zs hlen w hBs hc hI)
end Go.Proofs.YtbdjepeabjangaaGreat
namespace Go.Vm
open Go
variable {val:Nat->Value}{w:World}
theorem Ok.below {w':World} {g:Gh} {st:St} (h:Ok w g st val)(hb:RowKit.Below w.heap.size w w'):Ok w' g st val:=by
 have hk:∀(hd:Holder) (b:Nat) (q:List Nat),g.X b=some (hd,q)->w'.heap[b]?=w.heap[b]?/\(∀o,g.M b o=none->g.M b o=none)/\g.X b=some (hd,q):=fun hd b q hx=>⟨hb.block b (h.xlt b _ hx),fun _ h=>h,hx⟩;exact⟨fun b o c hc=>(hb.cell (p:=⟨b,o,none⟩) (h.mlt hc)).trans (h.mem b o c hc),fun b t hx=>lX (h.xlt b t hx) hb.size,
  fun t=>(h.slot t).keep (fun _ _ _ h=>h) (fun _ _ h=>h) (fun _ _ h=>h) (hk _),h.ll,fun n b cs h1 h2=>(h.loc n b cs h1 h2).keep (fun _ _ _ h=>h) (fun _ _ h=>h) (hk _),h.ol,
  fun n b cs h1 h2=>(h.obj n b cs h1 h2).keep (fun _ _ _ h=>h) (fun _ _ h=>h) (hk _)⟩
theorem Fr.below {w':World} (g:Gh)(hb:RowKit.Below w.heap.size w w'):Fr w g w' g:=
 ⟨hb.os,hb.tape,hb.output,hb.size,fun b hb' hx=>⟨hb.block b hb',hx,fun _=>rfl⟩,fun _ _ _ h=>h,fun _ _ h=>h⟩
theorem Ok.res {g:Gh} {st:St} (h:Ok w g st val)(hbl:g.bl= [])(r:D)(x:Value)(hr:R g.M g.bs r x)(ho:Own w g.M g.bs g.X (.slot 0) [] r x):Ok w g (St.ofRes r st.obj) (fun t=>if t=0 then x else undef):=by
 refine⟨h.mem,h.xlt,fun t=>?_,by simp [St.ofRes,hbl],fun n b cs hn=>by rw [hbl] at hn;simp at hn,h.ol,h.obj⟩;by_cases ht:t=0
 .subst ht;exact⟨hr,ho⟩
 simp only [ht,aZ,St.ofRes,eP];rw [gP (by simp;omega)];exact⟨.any _,.flat _ _ _ rfl⟩
end Go.Vm
namespace Go.Proofs.YtbdjepeabjangaaGreat
open Go Go.Vm Go.Proofs Go.RowKit
theorem Lz(V:World):Calls prog 184 #[.int .u64 0] V fun e w'=>e= .returned (.int .i64 0)/\w'=V:=by
 go_enter func184,ntmps184
 go_wp2
 go_ret
 refine⟨?_,rfl⟩;first | kernel_rfl | (congr 2;trace_state;first | kernel_rfl | decide+kernel)
theorem Rh {vs:Array Value} (hvs:vs.size=1):vs=#[bQ vs 0]:=by
 apply Array.ext
 .simpa using hvs
 intro i h1 h2;obtain rfl:i=0:=by simp at h2;omega
 show vs[0]=vs.getD 0 undef
 rw [gJ,aV h1];rfl
theorem aCg(σ:List (List D)):Ct prog 184 [.v (.int .u64 0)] σ (fun r σ'=>r=D.int 0/\σ'=σ):=by
 refine⟨by kernel_rfl,fun w g vs hvs hb ho=>?_⟩;have s0:=(ho.slot 0).1;change R g.M g.bs (.v (.int .u64 0)) (bQ vs 0)at s0;rw [Rh hvs];generalize bQ vs 0=x0 at s0;cases s0 with
 | v _ _=>
  refine(Lz w).mono ?_;rintro e w' ⟨rfl,rfl⟩;exact⟨_,σ,_,g,rfl,⟨rfl,rfl⟩,hb,Fr.refl _ _,(ho.below (Below.refl _ _)).res hb _ _ (.v _ rfl) (.flat _ _ _ rfl)⟩
theorem Kx(σ:List (List D)):Ct prog 157 [.clo (.func 159) [] [.adr [.sl false []]]] σ (fun r σ'=>r= .sl false []/\σ'=σ):=by
 refine⟨by kernel_rfl,fun w g vs hs hb ho=>?_⟩;have s0:=(ho.slot 0).1;change R g.M g.bs (.clo (.func 159) [] [.adr [.sl false []]]) (bQ vs 0)at s0;rw [Rh hs];generalize bQ vs 0=x0 at s0;cases s0 with
 | clo _ _ _ v1 v2 l1 l2 _ hcap=>
 obtain rfl:v1=#[]:=Eu (by simpa using l1);have l2':v2.size=1:=by simpa using l2
 obtain⟨p,rfl⟩:∃p,v2=#[p]:=⟨v2[0],by
  apply Array.ext
  .simpa using l2'
  intro i h1 h2;obtain rfl:i=0:=by simp at h2;omega
  simp⟩
 have ra:=hcap 0 _ p rfl rfl;cases ra with
 | adr _ bb off vsl hl hr hx=>
 obtain⟨sv,rfl⟩:∃sv,vsl= [sv]:=by
  match vsl,hl with
  | [sv],_=>exact⟨sv,rfl⟩
 have hM:=(hx 0 sv rfl).2;have rs:=hr 0 _ sv rfl rfl;have hc:w.cell? ⟨bb,off,none⟩=some sv:=by simpa using ho.mem bb (off+0) sv hM
 have hbb:bb<w.heap.size:=ho.mlt hM;have hI:TmsAt w.heap.size w sv []:=by
  cases rs with
  | nil=>exact .inl ⟨none,0,rfl,rfl⟩
  | emp _ a cap _=>exact .inl ⟨some a,cap,rfl,rfl⟩
  | sl _ _ b off n cap k vs hl hn hk hc hm hr hs hx=>obtain rfl:n=0:=hn;exact .inl ⟨_,cap,rfl,rfl⟩
 refine(Do bb off sv [] (by decide) w hbb hc hI).mono ?_;rintro e w' ⟨v,rfl,hrow,hnil,hbel⟩;obtain rfl:=hnil.2 rfl;exact⟨_,σ,_,g,rfl,⟨rfl,rfl⟩,hb,Fr.below g hbel,(ho.below hbel).res hb _ _ (.nil _) (.flat _ _ _ rfl)⟩
end Go.Proofs.YtbdjepeabjangaaGreat
