import Derived.Test.YtbgfljpnhhdkoaaGreatWkDr11
set_option linter.all false
set_option maxRecDepth 20000
set_option maxHeartbeats 8000000
open Go.Proofs.Tryz
namespace Go.Proofs.YtbgfljpnhhdkoaaGreat
open Go Go.Vm
theorem rW(σ:List (List D))(k:Nat)(c:List D):(σ++(List.replicate k []++ [c]))[σ.length+k]?=some c:=by
 rw [bQ (by omega),bQ (by simp)];simp
theorem dH(σ:List (List D))(k:Nat)(c x:List D):(σ++(List.replicate k []++ [c])).set (σ.length+k) x=σ++(List.replicate k []++ [x]):=by
 rw [lR _ _ (by omega),lR _ _ (by simp)];simp
theorem aOm(k:Nat):List.replicate k ([]:List D)++ [[]]=List.replicate (k+1) []:=(List.replicate_succ' ..).symm
theorem aSz {l:List PI} {k:Nat} (rest:List D)(g:¬k=0)(hk:k<=(fY nP l).length):(((fY nP l).take k).flatMap cP++rest)[(k - 1) * 2]?=some (D.str ((fY nP l)[k - 1]'(by omega)).name):=by
 have h:=Fi (f:=cP) (k:=2) (fun _=>rfl) ((fY nP l).take k) rest (k - 1) 0 (by simp;omega) (by decide);rw [jP] at h;rw [h];simp [cP]
theorem aK1(l:List PI)(k:Nat):(List.take k (List.map cM (fY nP l))).flatMap D.cells=((fY nP l).take k).flatMap cP:=by
 rw [<- vQ];exact cW (f:=cP) (fun _=>rfl) _
theorem aSy(l:List PI)(k:Nat):(∀d:D,d∈List.take k (List.map cM (fY nP l))->d.ncells=2)/\∀d:D,d∈List.take k (List.map cM (fY nP l))->d.arr=true:=by
 constructor <;> intro d hd <;> (obtain⟨a,_,rfl⟩:=aX.1 (oZ hd);rfl)
@[simp] abbrev q41_1:Cfg:=⟨[2,3,48,49],[],[],[18,25,27,52],[]⟩
theorem aQk(l:List PI)(σ:List (List D))(hl:l.length<=99999):Ct prog 73 [.sl false (l.map cM)] σ (fun r σ'=>∃(cap:Nat) (rest:List D),r= .slo (σ.length+(fY nP l).length) 0 (fY nP l).length cap/\σ'=σ++(List.replicate (fY nP l).length []++ [(fY nP l).flatMap cP++rest])/\(fY nP l).length<=cap/\rest.length=(cap - (fY nP l).length) * 2):=by
 refine zf func73 ?_;refine zr q41_1 fun _ _ Z=>?_;simp(disch:=omega)[aB,aA,cH,rW,dH];apply Z;refine zr q41_1 fun _ _ Z=>?_;simp(disch:=omega)[aB,aA,cH,rW,dH];and_intros<;>(try omega);apply Z;apply aS;refine zk [0,2,3] ?_;refine vW 3 2 (by simp <;> rfl) ?_;refine jR (fun(k:Nat)=> [(3,.d (.xs 2 (((fY nP l).take k).map cM)))]) (fun(k:Nat)=> []) (fun(k:Nat)=>σ++List.replicate k []) [2,3,4,5,7,8,10,11,12,13,14,15,16,17,18,19,20,21,22,23,24,25,26,27,28,29,30,31,32,33,34,35,36,37,38,39,40,41,42,43,44,45,46,47,48,49,50,51,52] (fun(k:Nat)=>k<=(fY nP l).length) (fun(k:Nat)=>(fY nP l).length - k) (0) (by simp <;> rfl) ?_ (by simp) (by simp) ?_ ?_
 .simp
 .simp
 rintro k hk;simp only [aP,aN];have hol:=gZ nP l;have hlk:(List.take k (List.map cM (fY nP l))).length=k:=by simp;omega
 refine gW 3 2 (by simp <;> rfl) (by decide) fun cap rest hcap hcm hrest hk0 hes=>?_;have hrl:rest.length=(cap - k) * 2:=by rw [hrest,dC,hlk]
 clear hrest;rw [hlk] at hcap;rw [hlk,aK1];have hdl:(((fY nP l).take k).flatMap cP++rest).length=cap * 2:=by rw [bB,dJ (f:=cP) (k:=2) (fun _=>rfl),hrl];simp;omega
 simp only [bB,dC,bM];apply aS;refine zr q41_1 fun _ _ Z=>?_;simp(disch:=omega)[aB,aA,cH,rW,dH];apply Z;refine zr q41_1 fun _ _ Z=>?_;simp(disch:=omega)[aB,aA,cH,rW,dH];apply Z;apply aF;refine zr q41_1 fun _ _ Z=>?_;simp(disch:=omega)[aB,aA,cH,rW,dH];and_intros<;>(try omega);apply Z;apply aS;refine zk [0,3,4,5,11,12,13] ?_;refine qB (fun(j:Nat)=> [(13,.d (.v (.int .i64 (j:Int)))),(4,.d (.bool (Ub l k j).isSome)),(8,.d (.any))]) (fun(j:Nat)=> [(0, [.v (.string ((pC l k j).name)),.v (.int .i64 ((pC l k j).value))])]) (fun(j:Nat)=> []) [4,7,8,13,14,15,16,17,18,19,20,21,22,23,24,25,26,27,28,29,30,31,32,33,34,35,36,37,38,39,40,41,42,43,44,45] (fun(j:Nat)=>j<=l.length) (fun(j:Nat)=>l.length - j) (0) (by simp <;> rfl) ?_ (by simp [pC,aC0]) (by simp) ?_ ?_
 .simp [aC0,pC]
 .simp
 rintro j hj;simp only [aP,aN,rK,oS,eQ,gR];refine zr q41_1 fun _ _ Z=>?_;simp(disch:=omega)[aB,aA,cH,rW,dH];apply Z;apply aF;refine zI ?_ ?_<;>intro c1<;>try simp at c1
 .apply kR;refine zr q41_1 fun _ _ Z=>?_;simp(disch:=omega)[aB,aA,cH,rW,dH];and_intros<;>(try omega);apply Z;refine zk [0,3,4,5,7,8,11,12,13] ?_;refine zd q41_1 [.op {},.op {},.op {},.op {},.op {},.op {rL:=true},.op {},.op {},.op {},.op {},.op {},.op {},.op {rO:=true},.op {},.op {},.op {}] fun all hall _ Z=>?_;have ga3:aT all 3=some 20:=hall 3;refine iU 4 fun _ Y=>?_;simp(disch:=omega)[aB,aA,cH,rW,dH,ga3];and_intros<;>(try omega);apply Y;refine Yg 20 ?_ ?_<;>intro g2<;>try simp at g2
  .refine iU 8 fun _ Y=>?_;simp(disch:=omega)[aB,aA,cH,rW,dH,ga3];and_intros<;>(try omega);apply Y;simp(disch:=omega)[aB,aA,cH,rW,dH,ga3];apply Z;refine zk [0,3,4,5,7,8,11,12,13] ?_;refine pB q41_1 fun all hall _ Z=>?_;have ga1:aT all 1=some 33:=hall 1;have ga4:aT all 4=some 36:=hall 4;refine zs 2 fun _ Y=>?_;simp(disch:=omega)[aB,aA,cH,rW,dH,ga1,ga4];apply Y;refine zs 3 fun _ Y=>?_;simp(disch:=omega)[aB,aA,cH,rW,dH,ga1,ga4];apply Y;refine zb 36 ?_ ?_<;>intro g3<;>try simp at g3
   .simp(disch:=omega)[aB,aA,cH,rW,dH,ga1,ga4];apply Z;refine bS (t:=true) (by simp) (fun _=>?_) (fun h=>by cases h);refine zk [0,3,4,5,7,8,11,12,13] ?_;refine zr q41_1 fun _ _ Z=>?_;simp(disch:=omega)[aB,aA,cH,rW,dH];apply Z;refine zt q41_1 fun _ _ Z=>?_;simp(disch:=omega)[aB,aA,cH,rW,dH];apply Z;apply zB;refine zt q41_1 fun _ _ Z=>?_;simp(disch:=omega)[aB,aA,cH,rW,dH];and_intros<;>(try omega);apply Z;first | have hcn:=mX (k:=k) c1 (by first | (rw [show k=0 from g2];rfl) | (rw [lB g2 hk];exact g5)) (by first | exact .inl (by rw [g3];rfl) | exact .inl (by rw [g6];rfl) | exact .inr c4 | exact .inr c7) | have hcn:=nC (k:=k) c1 (by first | exact g3 | exact g6) (by first | exact c4 | exact c7) | have hcn:=mY (k:=k) c1 (by rw [lB g2 hk];exact g5)
    refine eX (j+1) ?_ ?_ (dX rfl ?_ (by simp [pC,hcn]) (by simp))
    .omega
    .try dsimp only
     omega
    simp(disch:=omega)[aB,aA,cH,rW,dH,hcn]
   simp(disch:=omega)[aB,aA,cH,rW,dH,ga1,ga4];apply Z;refine zI ?_ ?_<;>intro c4<;>try simp at c4
   .refine zk [0,3,4,5,7,8,11,12,13] ?_;refine zr q41_1 fun _ _ Z=>?_;simp(disch:=omega)[aB,aA,cH,rW,dH];apply Z;refine zt q41_1 fun _ _ Z=>?_;simp(disch:=omega)[aB,aA,cH,rW,dH];apply Z;apply zB;refine zt q41_1 fun _ _ Z=>?_;simp(disch:=omega)[aB,aA,cH,rW,dH];and_intros<;>(try omega);apply Z;first | have hcn:=mX (k:=k) c1 (by first | (rw [show k=0 from g2];rfl) | (rw [lB g2 hk];exact g5)) (by first | exact .inl (by rw [g3];rfl) | exact .inl (by rw [g6];rfl) | exact .inr c4 | exact .inr c7) | have hcn:=nC (k:=k) c1 (by first | exact g3 | exact g6) (by first | exact c4 | exact c7) | have hcn:=mY (k:=k) c1 (by rw [lB g2 hk];exact g5)
    refine eX (j+1) ?_ ?_ (dX rfl ?_ (by simp [pC,hcn]) (by simp))
    .omega
    .try dsimp only
     omega
    simp(disch:=omega)[aB,aA,cH,rW,dH,hcn]
   apply mM;refine zk [0,3,4,5,8,11,12,13] ?_;refine zt q41_1 fun _ _ Z=>?_;simp(disch:=omega)[aB,aA,cH,rW,dH];and_intros<;>(try omega);apply Z;first | have hcn:=mX (k:=k) c1 (by first | (rw [show k=0 from g2];rfl) | (rw [lB g2 hk];exact g5)) (by first | exact .inl (by rw [g3];rfl) | exact .inl (by rw [g6];rfl) | exact .inr c4 | exact .inr c7) | have hcn:=nC (k:=k) c1 (by first | exact g3 | exact g6) (by first | exact c4 | exact c7) | have hcn:=mY (k:=k) c1 (by rw [lB g2 hk];exact g5)
   refine eX (j+1) ?_ ?_ (dX rfl ?_ (by simp [pC,hcn]) (by simp))
   .omega
   .try dsimp only
    omega
   simp(disch:=omega)[aB,aA,cH,rW,dH,hcn]
  have hld:∀h,(((fY nP l).take k).flatMap cP++rest)[(k - 1) * 2]'h=D.str ((fY nP l)[k - 1]'(by omega)).name:=fun h=>by have:=aSz rest g2 hk;rw [aQ h] at this;simpa using this
  refine iU 8 fun _ Y=>?_;simp(disch:=omega)[aB,aA,cH,rW,dH,ga3,hld];and_intros<;>(try omega);apply Y;simp(disch:=omega)[aB,aA,cH,rW,dH,ga3,hld];apply Z;refine zk [0,3,4,5,7,8,11,12,13] ?_;refine pB q41_1 fun all hall _ Z=>?_;have ga1:aT all 1=some 33:=hall 1;have ga4:aT all 4=some 36:=hall 4;refine zs 2 fun _ Y=>?_;simp(disch:=omega)[aB,aA,cH,rW,dH,ga1,ga4,hld];apply Y;refine zb 33 ?_ ?_<;>intro g5<;>try simp at g5
  .refine zs 3 fun _ Y=>?_;simp(disch:=omega)[aB,aA,cH,rW,dH,ga1,ga4,hld];apply Y;refine zb 36 ?_ ?_<;>intro g6<;>try simp at g6
   .simp(disch:=omega)[aB,aA,cH,rW,dH,ga1,ga4,hld];apply Z;refine bS (t:=true) (by simp) (fun _=>?_) (fun h=>by cases h);refine zk [0,3,4,5,7,8,11,12,13] ?_;refine zr q41_1 fun _ _ Z=>?_;simp(disch:=omega)[aB,aA,cH,rW,dH,hld];apply Z;refine zt q41_1 fun _ _ Z=>?_;simp(disch:=omega)[aB,aA,cH,rW,dH,hld];apply Z;apply zB;refine zt q41_1 fun _ _ Z=>?_;simp(disch:=omega)[aB,aA,cH,rW,dH,hld];and_intros<;>(try omega);apply Z;first | have hcn:=mX (k:=k) c1 (by first | (rw [show k=0 from g2];rfl) | (rw [lB g2 hk];exact g5)) (by first | exact .inl (by rw [g3];rfl) | exact .inl (by rw [g6];rfl) | exact .inr c4 | exact .inr c7) | have hcn:=nC (k:=k) c1 (by first | exact g3 | exact g6) (by first | exact c4 | exact c7) | have hcn:=mY (k:=k) c1 (by rw [lB g2 hk];exact g5)
    refine eX (j+1) ?_ ?_ (dX rfl ?_ (by simp [pC,hcn]) (by simp))
    .omega
    .try dsimp only
     omega
    simp(disch:=omega)[aB,aA,cH,rW,dH,hcn,hld]
   simp(disch:=omega)[aB,aA,cH,rW,dH,ga1,ga4,hld];apply Z;refine zI ?_ ?_<;>intro c7<;>try simp at c7
   .refine zk [0,3,4,5,7,8,11,12,13] ?_;refine zr q41_1 fun _ _ Z=>?_;simp(disch:=omega)[aB,aA,cH,rW,dH,hld];apply Z;refine zt q41_1 fun _ _ Z=>?_;simp(disch:=omega)[aB,aA,cH,rW,dH,hld];apply Z;apply zB;refine zt q41_1 fun _ _ Z=>?_;simp(disch:=omega)[aB,aA,cH,rW,dH,hld];and_intros<;>(try omega);apply Z;first | have hcn:=mX (k:=k) c1 (by first | (rw [show k=0 from g2];rfl) | (rw [lB g2 hk];exact g5)) (by first | exact .inl (by rw [g3];rfl) | exact .inl (by rw [g6];rfl) | exact .inr c4 | exact .inr c7) | have hcn:=nC (k:=k) c1 (by first | exact g3 | exact g6) (by first | exact c4 | exact c7) | have hcn:=mY (k:=k) c1 (by rw [lB g2 hk];exact g5)
    refine eX (j+1) ?_ ?_ (dX rfl ?_ (by simp [pC,hcn]) (by simp))
    .omega
    .try dsimp only
     omega
    simp(disch:=omega)[aB,aA,cH,rW,dH,hcn,hld]
   apply mM;refine zk [0,3,4,5,8,11,12,13] ?_;refine zt q41_1 fun _ _ Z=>?_;simp(disch:=omega)[aB,aA,cH,rW,dH,hld];and_intros<;>(try omega);apply Z;first | have hcn:=mX (k:=k) c1 (by first | (rw [show k=0 from g2];rfl) | (rw [lB g2 hk];exact g5)) (by first | exact .inl (by rw [g3];rfl) | exact .inl (by rw [g6];rfl) | exact .inr c4 | exact .inr c7) | have hcn:=nC (k:=k) c1 (by first | exact g3 | exact g6) (by first | exact c4 | exact c7) | have hcn:=mY (k:=k) c1 (by rw [lB g2 hk];exact g5)
   refine eX (j+1) ?_ ?_ (dX rfl ?_ (by simp [pC,hcn]) (by simp))
   .omega
   .try dsimp only
    omega
   simp(disch:=omega)[aB,aA,cH,rW,dH,hcn,hld]
  refine zs 8 fun _ Y=>?_;simp(disch:=omega)[aB,aA,cH,rW,dH,ga1,ga4,hld];and_intros<;>(try omega);apply Y;simp(disch:=omega)[aB,aA,cH,rW,dH,ga1,ga4,hld];apply Z;refine bS (t:=false) (by simp) (fun h=>by cases h) (fun _=>?_);apply mM;refine zk [0,3,4,5,8,11,12,13] ?_;refine zt q41_1 fun _ _ Z=>?_;simp(disch:=omega)[aB,aA,cH,rW,dH,hld];and_intros<;>(try omega);apply Z;first | have hcn:=mX (k:=k) c1 (by first | (rw [show k=0 from g2];rfl) | (rw [lB g2 hk];exact g5)) (by first | exact .inl (by rw [g3];rfl) | exact .inl (by rw [g6];rfl) | exact .inr c4 | exact .inr c7) | have hcn:=nC (k:=k) c1 (by first | exact g3 | exact g6) (by first | exact c4 | exact c7) | have hcn:=mY (k:=k) c1 (by rw [lB g2 hk];exact g5)
  refine eX (j+1) ?_ ?_ (dX rfl ?_ (by simp [pC,hcn]) (by simp))
  .omega
  .try dsimp only
   omega
  simp(disch:=omega)[aB,aA,cH,rW,dH,hcn,hld]
 obtain rfl:j=l.length:=by omega
 have hce:=aCh hk;apply zE;apply aF;refine zr q41_1 fun _ _ Z=>?_;simp(disch:=omega)[aB,aA,cH,rW,dH];apply Z;refine zI ?_ ?_<;>intro c8<;>try simp at c8
 .refine zr q41_1 fun _ _ Z=>?_;simp(disch:=omega)[aB,aA,cH,rW,dH];apply Z;apply aD;simp [aK];rw [hce] at c8;obtain rfl:k=(fY nP l).length:=by have:=List.getElem?_eq_none_iff.1 c8;omega
  refine⟨cap,⟨rfl,rfl⟩,rest,?_,hcap,hrl⟩;first | (rw [eH];done) | (rw [eH];exact⟨rfl,rfl⟩) | simp
 have hk2:k<(fY nP l).length:=by
   rcases qD k (fY nP l).length with h | h
   .exact h
   rw [hce,iZ h] at c8;exact absurd c8 (by simp)
 have hcd:pC l k l.length=(fY nP l)[k]:=by unfold pC;rw [hce,aQ hk2];rfl
 have htk:List.take (k+1) (List.map cM (fY nP l))=List.take k (List.map cM (fY nP l))++ [cM (fY nP l)[k]]:=by rw [bK _ k (by simpa using hk2),jM]
 apply zA;refine zt q41_1 fun _ _ Z=>?_;refine zs 4 fun _ Y=>?_;simp(disch:=omega)[aB,aA,cH,rW,dH];refine⟨by first | rfl | exact⟨rfl,rfl⟩ | trivial,_,List.take k (List.map cM (fY nP l)),⟨rfl,hdl,hlk,aSy l k,by rw [aK1];exact cD _ _,by rw [hlk];omega,by rw [hlk];omega⟩,?_⟩;and_intros<;>(try omega);apply Y;simp(disch:=omega)[aB,aA,cH,rW,dH];apply Z;apply gQ;refine eX (k+1) ?_ ?_ (dX rfl ?_ (by simp) (by simp [aOm]))
 .omega
 .try dsimp only
  omega
 simp(disch:=omega)[aB,aA,cH,rW,dH,hcd,htk]
@[simp] abbrev q41_2:Cfg:=⟨[3,6,37,79,84,86],[],[],[],[]⟩
theorem aF9(v:VN)(σ:List (List D))(h1:v.classes.length<=999)(h2:v.attrs.length<=999)(h3:v.styles.length<=999):Ct prog 34 [.agg [D.int v.kind,D.str v.tag,D.str v.key,D.str v.text,.sl false ((v.classes).map D.str),.sl false ((v.attrs).map dU),.sl false ((v.styles).map cM),D.int v.opts.enter,D.int v.opts.leave,D.int v.opts.move,D.int v.opts.mode,D.bool v.opts.appear,D.bool v.opts.moves,.sl false []]] σ (fun r σ'=>∃(cap:Nat) (rest:List D),r= .agg [D.int v.kind,D.str v.tag,D.str v.key,D.str v.text,.sl true ((bG v.classes).map D.str),.sl true ((fY nA v.attrs).map dU),.slo (σ.length+(fY nP v.styles).length) 0 (fY nP v.styles).length cap,D.int v.opts.enter,D.int v.opts.leave,D.int v.opts.move,D.int v.opts.mode,D.bool v.opts.appear,D.bool v.opts.moves,.sl true []]/\σ'=σ++(List.replicate (fY nP v.styles).length []++ [(fY nP v.styles).flatMap cP++rest])/\(fY nP v.styles).length<=cap/\rest.length=(cap - (fY nP v.styles).length) * 2):=by
 refine zf func34 ?_;refine zr q41_2 fun _ _ Z=>?_;simp;apply Z;refine zr q41_2 fun _ _ Z=>?_;refine zs 2 fun _ Y=>?_;simp;apply Y;refine aE fun _ Y=>?_;simp;refine cB (Ez v.classes _ (by omega)) ?_;apply Y;simp;apply Z;refine zr q41_2 fun _ _ Z=>?_;refine zs 2 fun _ Y=>?_;simp;apply Y;refine aE fun _ Y=>?_;simp;refine cB (aF2 v.attrs _ (by omega)) ?_;apply Y;simp;apply Z;refine zr q41_2 fun _ _ Z=>?_;refine zs 2 fun _ Y=>?_;simp;apply Y;refine aE fun _ Y=>?_;simp;refine zcm (aQk v.styles _ (by omega)) ?_;rintro _ τ ⟨cap,rest,hr9,hs9,hcap,hrl⟩;subst hr9;subst hs9;apply Y;simp;apply Z;refine zk [1,2] ?_;refine zr q41_2 fun _ _ Z=>?_;simp;and_intros<;>(try omega);apply Z;apply aF;refine zr q41_2 fun _ _ Z=>?_;simp;and_intros<;>(try omega);apply Z;apply aS;refine zk [1,2,3,23,24,25] ?_;refine aZ (fun(u:Unit)=> [(25,.d (.int 0)),(3,.d (.sl true [])),(5,.d (.any))]) [3,5,25,26,27,28,29,30,31,32,33,34,35,36,37,38,39,40,41,42] (fun(u:Unit)=>True) (fun(u:Unit)=>0) (()) (by simp <;> rfl) ?_ ?_ ?_
 .simp
 .trivial
 rintro u hu;simp only [aP,aN];refine zr q41_2 fun _ _ Z=>?_;simp;apply Z;apply aF;refine zI ?_ ?_<;>intro c1<;>try simp at c1
 apply zE;refine zr q41_2 fun _ _ Z=>?_;simp;and_intros<;>(try omega);apply Z;apply aF;refine zr q41_2 fun _ _ Z=>?_;simp;and_intros<;>(try omega);apply Z;apply aS;refine zk [1,2,3,6,44,45,46] ?_;refine aZ (fun(u:Unit)=> [(46,.d (.int 0)),(6,.d (.sl true [])),(7,.d (.any)),(8,.d (.any))]) [6,7,8,46,47,48,49,50,51,52,53,54,55,56,57,58,59,60,61,62,63,64,65,66,67,68,69,70,71,72,73,74,75,76,77,78,79,80,81,82,83] (fun(u:Unit)=>True) (fun(u:Unit)=>0) (()) (by simp <;> rfl) ?_ ?_ ?_
 .simp
 .trivial
 rintro u hu;simp only [aP,aN];refine zr q41_2 fun _ _ Z=>?_;simp;apply Z;apply aF;refine zI ?_ ?_<;>intro c2<;>try simp at c2
 apply zE;refine zr q41_2 fun _ _ Z=>?_;simp;apply Z;refine zk [1,2] ?_;refine zr q41_2 fun _ _ Z=>?_;simp;apply Z;apply aD;simp [aK];exact⟨hcap,hrl⟩
theorem aPt {l:List PI} (rest:List D) {k:Nat} (h:k<l.length):List.take 2 (List.drop (k * 2) (l.flatMap cP++rest))= [D.str l[k].name,D.int l[k].value]:=by
 rw [wM (f:=cP) l k h,bM,List.drop_left' (by rw [dJ (f:=cP) (k:=2) (fun _=>rfl),bF];omega),bM];rfl
@[simp] abbrev q41_3:Cfg:=⟨[2,3,12,17],[],[],[7,10,15],[]⟩
theorem aN4(N cap0:Nat)(l:List PI)(rest0:List D)(σ:List (List D))(hN:σ[N]?=some (l.flatMap cP++rest0))(hl:l.length<=9999):Ct prog 94 [.slo N 0 l.length cap0] σ (fun r σ'=>∃(cap:Nat) (rest:List D),r= .slo σ.length 0 l.length cap/\σ'=σ++ [l.flatMap cP++rest]/\l.length<=cap/\rest.length=(cap - l.length) * 2):=by
 refine zf func94 ?_;refine zr q41_3 fun _ _ Z=>?_;simp(disch:=first|omega|assumption)[hN,aB,aA];apply Z;refine zr q41_3 fun _ _ Z=>?_;simp(disch:=first|omega|assumption)[hN,aB,aA];apply Z;apply aF;refine zr q41_3 fun _ _ Z=>?_;simp(disch:=first|omega|assumption)[hN,aB,aA];and_intros<;>try first|omega|exact rfl
 apply Z;apply aS;refine zk [2,3,6,7,8] ?_;refine vW 3 2 (by simp <;> rfl) ?_;refine aZ (fun(k:Nat)=> [(8,.d (.v (.int .i64 (k:Int)))),(3,.d (.xs 2 ((l.take k).map cM))),(5,.d (.any))]) [3,5,8,9,10,11,12,13,14,15,16] (fun(k:Nat)=>k<=l.length) (fun(k:Nat)=>l.length - k) (0) (by simp <;> rfl) ?_ ?_ ?_
 .simp
 .simp
 rintro k hk;simp only [aP,aN];refine zr q41_3 fun _ _ Z=>?_;simp(disch:=first|omega|assumption)[hN,aB,aA];apply Z;apply aF;refine zI ?_ ?_<;>intro c1<;>try simp at c1
 .have hnx:(l.take (k+1)).map cM=(l.take k).map cM++ [cM l[k]]:=by rw [bK l k c1,dK];rfl
  have hc2:2<=l.length * 2+rest0.length - k * 2:=by omega
  have hld:=aPt rest0 c1;apply kR;refine zr q41_3 fun _ _ Z=>?_;simp(disch:=first|omega|assumption)[hN,aB,aA,hc2,hld];and_intros<;>try first|omega|exact rfl
  apply Z;refine zt q41_3 fun _ _ Z=>?_;simp(disch:=first|omega|assumption)[hN,aB,aA,hc2,hld];and_intros<;>try first|omega|exact rfl
  apply Z;apply zB;refine zk [2,3,5,6,7,8] ?_;refine zt q41_3 fun _ _ Z=>?_;simp(disch:=first|omega|assumption)[hN,aB,aA,hc2,hld];and_intros<;>try first|omega|exact rfl
  apply Z;refine zq (k+1) ?_ ?_ ?_
  .omega
  .try dsimp only
   omega
  simp(disch:=first|omega|assumption)[hN,aB,aA,hnx,hc2,hld]
 obtain rfl:k=l.length:=by omega
 apply zE;refine zr q41_3 fun _ _ Z=>?_;simp(disch:=first|omega|assumption)[hN,aB,aA];apply Z;have htl:List.take l.length (List.map cM l)=List.map cM l:=bL (by simp);simp only [htl];refine gW 2 2 (by simp <;> rfl) (by decide) fun cap rest hcap hcm hrest hk0 hes=>?_;have hrl:rest.length=(cap - l.length) * 2:=by rw [hrest];simp
 clear hrest;rw [bI] at hcap;simp only [bI];rw [cW (d:=cM) (f:=cP) (fun _=>rfl)];apply aD;simp [aK];exact⟨hcap,hrl⟩
def tkA(l:List AT)(k:Nat):List AT:=l.take k
@[simp] theorem aYz(l:List AT):tkA l 0= []:=rfl
theorem aL7(l:List AT)(k:Nat)(h:k<l.length):tkA l (k+1)=tkA l k++ [l[k]]:=bK l k h
theorem aCs(l:List AT):tkA l l.length=l:=eH
theorem aPm(l:List AT)(k:Nat):(tkA l k).length<=k:=by unfold tkA;rw [bF];omega
@[simp] abbrev q41_4:Cfg:=⟨[34,48,55],[1],[],[],[]⟩
theorem aJm(v:VN)(N cap0:Nat)(S:List PI)(rest0:List D)(σ:List (List D))(hN:σ[N]?=some (S.flatMap cP++rest0))(hS:S.length<=9999)(h1:v.classes.length<=999)(h2:v.attrs.length<=999):Ct prog 31 [.agg [D.int v.kind,D.str v.tag,D.str v.key,D.str v.text,.sl false ((v.classes).map D.str),.sl false ((v.attrs).map dU),.slo N 0 S.length cap0,D.int v.opts.enter,D.int v.opts.leave,D.int v.opts.move,D.int v.opts.mode,D.bool v.opts.appear,D.bool v.opts.moves,.sl false []]] σ (fun r σ'=>∃(cap:Nat) (rest:List D),r= .agg [D.int v.kind,D.str v.tag,D.str v.key,D.str v.text,.sl false ((v.classes).map D.str),.sl true ((v.attrs).map dU),.slo σ.length 0 S.length cap,D.int v.opts.enter,D.int v.opts.leave,D.int v.opts.move,D.int v.opts.mode,D.bool v.opts.appear,D.bool v.opts.moves,.sl true []]/\σ'=σ++ [S.flatMap cP++rest]/\S.length<=cap/\rest.length=(cap - S.length) * 2):=by
 refine zf func31 ?_;refine zr q41_4 fun _ _ Z=>?_;simp(disch:=first|omega|assumption);apply Z;refine zdN q41_4 [0,1,2,3,4,5,6,7,8,9,10,11,12,13,15,16,18,14,17,19] 17 [.op {},.op {},.op {},.op {},.op {},.op {},.op {},.op {},.op {},.op {},.op {},.op {},.op {},.op {},.op {},.op {},.op {rL:=true,wL:=true},.nd,.op {},.op {rL:=true,wL:=true}] (fun all hall _ Z=>?_) (by simp only [dS,sG,List.filterMap_nil,Qx,uS,lJ,nE] <;> rfl);refine iU 8 fun _ Y=>?_;simp(disch:=first|omega|assumption);apply Y;refine iU 8 fun _ Y=>?_;simp(disch:=first|omega|assumption);and_intros<;>try first|omega|exact rfl
 apply Y;refine iU 1 fun _ Y=>?_;simp(disch:=first|omega|assumption);apply Y;refine dL fun _ Y=>?_;simp(disch:=first|omega|assumption);refine zdn (aN4 N cap0 S rest0 _ hN hS) ⟨.slo σ.length 0 S.length S.length,σ++ [S.flatMap cP++ []],S.length, [],rfl,rfl,aV _,by simp⟩ ?_;rintro _ τ ⟨cap,rest,hr9,hs9,hcap,hrl⟩;subst hr9;subst hs9;apply Y;simp(disch:=first|omega|assumption);apply Z;apply aF;refine zk [1,2,3] ?_;refine zr q41_4 fun _ _ Z=>?_;simp(disch:=first|omega|assumption);and_intros<;>try first|omega|exact rfl
 apply Z;apply aS;refine zk [1,2,3,27,28,29] ?_;refine jR (fun(k:Nat)=> [(29,.d (.v (.int .i64 (k:Int)))),(5,.d (.any))]) (fun(k:Nat)=> [[D.int 0,D.str ⟨#[]⟩,D.str ⟨#[]⟩,D.str ⟨#[]⟩,.sl true [],.sl true [],.sl true [],D.int 0,D.int 0,D.int 0,D.int 0,D.bool false,D.bool false,.sl true []], [D.int v.kind,D.str v.tag,D.str v.key,D.str v.text,.sl false ((v.classes).map D.str),.sl true ((tkA v.attrs k).map dU),.slo σ.length 0 S.length cap,D.int v.opts.enter,D.int v.opts.leave,D.int v.opts.move,D.int v.opts.mode,D.bool v.opts.appear,D.bool v.opts.moves,.sl true []]]) (fun(k:Nat)=>σ++ [S.flatMap cP++rest]) [5,29,30,31,32,33,34,35,36,37,38,39] (fun(k:Nat)=>k<=v.attrs.length) (fun(k:Nat)=>v.attrs.length - k) (0) (by simp <;> rfl) ?_ (by simp) (by simp) ?_ ?_
 .simp
 .simp
 rintro k hk;simp only [aP,aN];have htl:=aPm v.attrs k;refine zr q41_4 fun _ _ Z=>?_;simp(disch:=first|omega|assumption);apply Z;apply aF;refine zI ?_ ?_<;>intro c1<;>try simp at c1
 .have hnx:=aL7 v.attrs k c1;apply kR;refine zr q41_4 fun _ _ Z=>?_;simp(disch:=first|omega|assumption);and_intros<;>try first|omega|exact rfl
  apply Z;refine zt q41_4 fun _ _ Z=>?_;simp(disch:=first|omega|assumption);and_intros<;>try first|omega|exact rfl
  apply Z;apply zB;refine zk [1,2,3,5,27,28,29] ?_;refine zt q41_4 fun _ _ Z=>?_;simp(disch:=first|omega|assumption);and_intros<;>try first|omega|exact rfl
  apply Z;refine eX (k+1) ?_ ?_ (dX rfl ?_ (by simp [hnx]) (by simp))
  .omega
  .try dsimp only
   omega
  simp(disch:=first|omega|assumption)[hnx]
 obtain rfl:k=v.attrs.length:=by omega
 apply zE;apply aF;refine zr q41_4 fun _ _ Z=>?_;simp(disch:=first|omega|assumption);and_intros<;>try first|omega|exact rfl
 apply Z;apply aS;refine zk [2,3,41,42,43] ?_;refine aZ (fun(u:Unit)=> [(43,.d (.int 0)),(7,.d (.any))]) [7,43,44,45,46,47,48,49,50,51,52,53,54] (fun(u:Unit)=>True) (fun(u:Unit)=>0) (()) (by simp <;> rfl) ?_ ?_ ?_
 .simp
 .trivial
 rintro u hu;simp only [aP,aN];refine zr q41_4 fun _ _ Z=>?_;simp(disch:=first|omega|assumption);apply Z;apply aF;refine zI ?_ ?_<;>intro c2<;>try simp at c2
 apply zE;refine zr q41_4 fun _ _ Z=>?_;simp(disch:=first|omega|assumption);apply Z;apply aD;simp [aK];first | exact⟨cap,⟨by rw [aCs],rfl⟩,hcap,hrl⟩ | (simp [aCs];exact⟨hcap,hrl⟩)
theorem aD6(v:VN)(σ:List (List D))(h1:v.classes.length<=999)(h2:v.attrs.length<=999)(h3:v.styles.length<=999):Ct prog 53 [.agg [D.int v.kind,D.str v.tag,D.str v.key,D.str v.text,.sl false ((v.classes).map D.str),.sl false ((v.attrs).map dU),.sl false ((v.styles).map cM),D.int v.opts.enter,D.int v.opts.leave,D.int v.opts.move,D.int v.opts.mode,D.bool v.opts.appear,D.bool v.opts.moves,.sl false []]] σ (fun r σ'=>∃(N N2 cap cap2:Nat) (rest rest2:List D),r= .tup [.agg [.sl false ((bG v.classes).map D.str),.sl false ((fY nA v.attrs).map dU),.slo N2 0 (fY nP v.styles).length cap2],.agg [.sl false ((bG v.classes).map D.str),.sl false ((fY nA v.attrs).map dU),.slo N 0 (fY nP v.styles).length cap]]/\(∃J,σ'=σ++J)/\σ'[N]?=some ((fY nP v.styles).flatMap cP++rest)/\σ'[N2]?=some ((fY nP v.styles).flatMap cP++rest2)/\σ.length<=N/\N<N2/\(fY nP v.styles).length<=cap/\rest.length=(cap - (fY nP v.styles).length) * 2/\(fY nP v.styles).length<=cap2/\rest2.length=(cap2 - (fY nP v.styles).length) * 2):=by
 refine zf func53 ?_;have hcl:=jQ v.classes;have hal:=gZ nA v.attrs;have hol:=gZ nP v.styles;refine zr ⟨[],[1],[4,5],[],[]⟩ fun _ _ Z=>?_;simp[aY,aR,aL,aJ];apply Z;refine zr ⟨[],[1],[4,5],[],[]⟩ fun _ _ Z=>?_;refine zs 1 fun _ Y=>?_;simp[aY,aR,aL,aJ];apply Y;refine aE fun _ Y=>?_;simp[aY,aR,aL,aJ];refine zcm (aF9 v _ h1 h2 h3) ?_;rintro _ σ1 ⟨cap,rest,hr9,hs9,hcap,hrl⟩;subst hr9;obtain⟨N,hNe⟩:∃N,σ.length+(fY nP v.styles).length=N:=⟨_,rfl⟩;have hN:σ1[N]?=some ((fY nP v.styles).flatMap cP++rest):=by rw [hs9,<- hNe];exact rW ..
 rw [hNe];apply Y;simp[aY,aR,aL,aJ];and_intros<;>(try omega);apply Z;refine zr ⟨[],[1],[4,5],[],[]⟩ fun _ _ Z=>?_;refine zs 1 fun _ Y=>?_;simp[aY,aR,aL,aJ];apply Y;refine aE fun _ Y=>?_;simp[aY,aR,aL,aJ];refine zcm (aJm { v with classes:=bG v.classes,attrs:=fY nA v.attrs } N cap (fY nP v.styles) rest _ (fB hN _) (by omega) (by show(bG v.classes).length<=999;omega) (by show(fY nA v.attrs).length<=999;omega)) ?_;rintro _ τ2 ⟨cap2,rest2,hr9,hs92,hcap2,hrl2⟩;subst hr9;subst hs92;apply Y;simp[aY,aR,aL,aJ];and_intros<;>(try omega);apply Z;refine zk [2,3,4,5] ?_;refine zd ⟨[],[1],[4,5],[],[]⟩ [.op {},.op {rO:=true},.op {},.op {rO:=true},.op {},.op {rO:=true},.op {},.op {},.op {rO:=true},.op {},.op {rO:=true},.op {},.op {rO:=true},.op {},.op {rL:=true,wL:=true},.op {rL:=true,wL:=true}] fun all hall _ Z=>?_;refine iU 8 fun _ Y=>?_;simp[aY,aR,aL,aJ];apply Y;simp[aY,aR,aL,aJ];apply Z;apply aD;simp [aK];refine⟨N,σ1.length+1,cap,cap2,⟨⟨rfl,rfl⟩,rfl,rfl⟩,⟨_,by rw [hs9,bM]⟩,rest,fB hN _,rest2,?_,by omega,?_,hcap,hrl,hcap2,hrl2⟩
 .rw [bQ (by omega)];simp
 have:=lC hN;omega
end Go.Proofs.YtbgfljpnhhdkoaaGreat
