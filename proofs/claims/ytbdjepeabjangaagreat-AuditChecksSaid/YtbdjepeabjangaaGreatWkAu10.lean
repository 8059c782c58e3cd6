import Derived.Test.YtbdjepeabjangaaGreatWkAu8
set_option linter.all false
set_option maxRecDepth 20000
set_option maxHeartbeats 8000000
open Go.Proofs.Tryz
namespace Go.Proofs.YtbdjepeabjangaaGreat
open Go Go.Vm
variable {C:Ls}{i k:Nat}{kd:Int}{l:List WAT}{t:TN}
def k1F(t:TN)(k:KD):List FND:=if Gp t k.ID=true/\xT (rB t k.ID) k.look=true then [] else [⟨2,k.ID⟩]
def k2F(t:TN)(k:KD):List FND:=if Gp t k.ID=true/\¬iN (rB t k.ID)=xI k.look then [⟨3,k.ID⟩] else []
def k3F(p:List PDG)(k:KD):List FND:=if Nm p k=true then [] else [⟨4,k.ID⟩]
def Gq(t:TN)(p:List PDG)(k:KD):List FND:=k1F t k++k2F t k++k3F p k
theorem Ww(t:TN)(k:KD):(k1F t k).length<=1:=by unfold k1F;split <;> simp
theorem Dh(t:TN)(k:KD):(k2F t k).length<=1:=by unfold k2F;split <;> simp
theorem aIg(t:List PDG)(k:KD):(k3F t k).length<=1:=by unfold k3F;split <;> simp
theorem Oy(t:TN)(p:List PDG)(k:KD):(Gq t p k).length<=3:=by
 unfold Gq;have:=Ww t k;have:=Dh t k;have:=aIg p k;simp;omega
theorem TI.find:∀ {t:TN} {id:Int} {u:TN},TI t->jC t id=some u->TI u
 | t,id,u,h,e=>by
  rw [yG] at e;split at e
  .cases e;exact h
  obtain⟨k,hk,h2⟩:=List.exists_of_findSome?_eq_some e;exact TI.find (h.k k hk) h2
termination_by t=>jF t
decreasing_by
 have:=iX hk;omega
theorem TI.fnd (h:TI t)(id:Int):TI (rB t id):=by
 unfold rB;cases e:jC t id with
 | none=>exact zTI
 | some u=>exact h.find e
theorem aD0(k:KD)(w:PDG)(σ:List (List D))  :Ct prog 63 [qX k,.adr [D.bool w.ref.frame,D.int w.ref.token,D.int w.job.kind,D.int w.job.node,D.int w.left,D.int w.deadline]] σ (fun r σ'=>r= .bool (decide (k.ID=w.job.node))/\σ'=σ):=by
 refine zf func63 ?_;refine bT fun _ _ Z=>?_;simp(disch:=omega);apply Z;refine bT fun _ _ Z=>?_;simp(disch:=omega);apply Z;apply aE;simp [aP]
theorem aBv(l:List KD)(p:KD->Bool)(f:FuncId)(caps:List D)(σ:List (List D))(hl:l.length<=1000000)(hcp:∀d∈caps,d.plain=true)(hcs:caps.map D.strip=caps)(hp:∀x τ,Ct prog f (qX x::caps) τ (fun r τ'=>r= .bool (p x)/\τ'=τ)):Ct prog 107 [.sl false (l.map qX),.clo (.func f) [] caps] σ (fun r σ'=>r= .int (wG p l)/\σ'=σ):=by
 refine zf func107 ?_;refine bT fun _ _ Z=>?_;simp(disch:=omega)[hcs];apply Z;apply aF;refine bT fun _ _ Z=>?_;simp(disch:=omega)[hcs];and_intros<;>(try omega);apply Z;apply aN;refine zk [0,1,4,7,8] ?_;refine bA (fun(k:Nat)=> [(8,.d (.v (.int .i64 (k:Int)))),(5,.d (.any))]) [4,5,8,9,10,11,12,13,14,15,16,17,18] (fun(k:Nat)=>k<=l.length/\∀x∈l.take k,p x=false) (fun(k:Nat)=>l.length - k) (0) (by simp <;> rfl) ?_ ?_ ?_
 .simp
 .simp
 rintro k ⟨hk,hh⟩;simp only [aM,aK];refine bT fun _ _ Z=>?_;simp(disch:=omega)[hcs];apply Z;apply aF;refine zI ?_ ?_<;>intro c1<;>try simp at c1
 .apply kL;refine bT fun _ _ Z=>?_;simp(disch:=omega)[hcs];apply Z;refine bT fun _ _ Z=>?_;refine zs 5 fun _ Y=>?_;simp(disch:=omega)[hcs];and_intros<;>(try omega);apply Y;refine aG fun _ Y=>?_;simp(disch:=omega)[hcs];refine⟨hcp,?_⟩;refine dX (hp l[k] _) ?_;apply Y;simp only [fS];apply Z;refine zI ?_ ?_<;>intro c2<;>try simp at c2
  .refine zk [0,1,5,7,8] ?_;refine bT fun _ _ Z=>?_;simp(disch:=omega)[hcs];apply Z;apply aE;simp [aP];exact(Dm c1 hh c2).symm
  apply lP;refine zk [0,1,5,7,8] ?_;refine tD fun _ _ Z=>?_;simp(disch:=omega)[hcs];and_intros<;>(try omega);apply Z;refine zq (k+1) ?_ ?_ ?_
  .exact⟨by omega,tH (by omega) hh c2⟩
  .try dsimp only
   omega
  simp(disch:=omega)[hcs]
 apply zE;refine bT fun _ _ Z=>?_;simp(disch:=omega)[hcs];apply Z;apply aE;simp [aP];rw [bZ (by omega)] at hh;exact(vK hh).symm
theorem Lt(l:List KD)(p:KD->Bool)(f:FuncId)(caps:List D)(σ:List (List D))(hl:l.length<=1000000)(hcp:∀d∈caps,d.plain=true)(hcs:caps.map D.strip=caps)(hp:∀x τ,Ct prog f (qX x::caps) τ (fun r τ'=>r= .bool (p x)/\τ'=τ)):Ct prog 62 [.sl false (l.map qX),.clo (.func f) [] caps] σ (fun r σ'=>r= .bool (l.any p)/\σ'=σ):=by
 refine zf func62 ?_;refine bT fun _ _ Z=>?_;simp(disch:=omega);apply Z;refine bT fun _ _ Z=>?_;refine zs 2 fun _ Y=>?_;simp(disch:=omega);apply Y;refine aG fun _ Y=>?_;simp(disch:=omega);refine dX (aBv l p f caps _ hl hcp hcs hp) ?_;apply Y;simp(disch:=omega);apply Z;apply aE;simp [aP,aHs];rw [jJ];simp
theorem aJu(p:PIC)(w:PDG)(σ:List (List D))(hk:p.kids.length<=1000):Ct prog 22 [uG p,Ie w] σ (fun r σ'=>r= .bool (wT p.now p.kids w)/\σ'=σ):=by
 refine zf func22 ?_;refine zr ⟨[],[3],[],[],[]⟩ fun _ _ Z=>?_;simp(disch:=omega);apply Z;refine zr ⟨[],[3],[],[],[]⟩ fun _ _ Z=>?_;refine zs 3 fun _ Y=>?_;simp(disch:=omega);and_intros<;>(try omega);apply Y;refine aG fun _ Y=>?_;simp(disch:=omega);refine dX (Lt p.kids (fun k=>decide (k.ID=w.job.node)) 63 [.adr [D.bool w.ref.frame,D.int w.ref.token,D.int w.job.kind,D.int w.job.node,D.int w.left,D.int w.deadline]] _ (by omega) (by simp) (by simp) (fun x τ=>aD0 x w τ)) ?_;obtain⟨K,hK⟩:∃K,(p.kids.any fun k=>decide (k.ID=w.job.node))=K:=⟨_,rfl⟩;rw [hK];apply Y;simp(disch:=omega);apply Z;refine zr ⟨[],[3],[],[],[]⟩ fun _ _ Z=>?_;simp(disch:=omega);apply Z;refine zk [3,4,5,6] ?_;apply aF;refine iA (fun(_:Unit)=> [(6,.d (.bool (Xs p.now w)))]) (fun(_:Unit)=> []) (fun(_:Unit)=> []) [6,16,17,18,19,20,21,22,23,24,25,26] (fun(_:Unit)=>True) (by simp <;> rfl) ?_ ?_
 .refine zr ⟨[],[3],[],[],[]⟩ fun _ _ Z=>?_;simp(disch:=omega);apply Z;refine zI ?_ ?_<;>intro c1<;>try simp at c1
  .refine ztg ⟨[],[3],[],[],[]⟩ fun all hall _ Z=>?_;have ga3:aQ all 3=some 22:=hall 3;refine zs 4 fun _ Y=>?_;simp(disch:=omega)[ga3];apply Y;refine zb 22 ?_ ?_<;>intro g2<;>try simp at g2
   .simp(disch:=omega)[ga3];apply Z;refine eQ (()) (trivial) (aU rfl ?_ (by simp) (by simp));simp [jG,Xs, *]
   simp(disch:=omega)[ga3];apply Z;refine eQ (()) (trivial) (aU rfl ?_ (by simp) (by simp));simp [jG,Xs, *]
  apply fM;refine eQ (()) (trivial) (aU rfl ?_ (by simp) (by simp));simp [jG,Xs, *]
 rintro - -;simp only [aM,aK,dD,cJ,bK,bN];refine zk [3,4,5,6] ?_;refine oL ⟨[],[3],[],[],[]⟩ fun all hall _ Z=>?_;have ga2:aQ all 2=some 29:=hall 2;have ga6:aQ all 6=some 33:=hall 6;have ga11:aQ all 11=some 38:=hall 11;refine zs 3 fun _ Y=>?_;simp(disch:=omega)[ga2,ga6,ga11];apply Y;refine zb 29 ?_ ?_<;>intro g3<;>try simp at g3
 .refine zs 4 fun _ Y=>?_;simp(disch:=omega)[ga2,ga6,ga11];apply Y;refine zs 8 fun _ Y=>?_;simp(disch:=omega)[ga2,ga6,ga11];and_intros<;>(try omega);apply Y;simp(disch:=omega)[ga2,ga6,ga11];apply Z;apply aE;simp [aP,wT,hK, *]
 refine zs 4 fun _ Y=>?_;simp(disch:=omega)[ga2,ga6,ga11];apply Y;refine zb 33 ?_ ?_<;>intro g4<;>try simp at g4
 .refine zs 8 fun _ Y=>?_;simp(disch:=omega)[ga2,ga6,ga11];and_intros<;>(try omega);apply Y;simp(disch:=omega)[ga2,ga6,ga11];apply Z;apply aE;simp [aP,wT,hK, *]
 refine zs 5 fun _ Y=>?_;simp(disch:=omega)[ga2,ga6,ga11];apply Y;refine zb 38 ?_ ?_<;>intro g5<;>try simp at g5
 .simp(disch:=omega)[ga2,ga6,ga11];apply Z;apply aE;simp [aP,wT,hK, *]
 simp(disch:=omega)[ga2,ga6,ga11];apply Z;apply aE;simp [aP,wT,hK, *]
@[simp] abbrev q32_1:Cfg:=⟨[4,5,27,47,57,63],[],[],[],[]⟩
theorem aOw(p:PIC)(k:KD)(σ:List (List D))(h:TI p.tree)(hp:p.pending.length<=1000):Ct prog 21 [uG p,qX k] σ (fun r σ'=>r= .sl true ((Gq p.tree p.pending k).map mC)/\σ'=σ):=by
 refine zf func21 ?_;have hTI:=h.fnd k.ID;have hTE:=hTI.e;obtain⟨⟨h1,h2,h3,h4⟩,h5,h6⟩:=hTI.e;have hl1:=Ww p.tree k;have hl2:=Dh p.tree k;refine zr q32_1 fun _ _ Z=>?_;simp(disch:=omega)[aC,aB];apply Z;refine zr q32_1 fun _ _ Z=>?_;simp(disch:=omega)[aC,aB];apply Z;refine zr q32_1 fun _ _ Z=>?_;refine zs 4 fun _ Y=>?_;simp(disch:=omega)[aC,aB];apply Y;refine aG fun _ Y=>?_;simp(disch:=omega)[aC,aB];refine dX (aEb p.tree k.ID _ h.b) ?_;apply Y;simp(disch:=omega)[aC,aB];apply Z;refine zk [2,3,4,5,6,7] ?_;apply aF;refine iA (fun(_:Unit)=> [(5,.d (.sl true ((k1F p.tree k).map mC)))]) (fun(_:Unit)=> []) (fun(_:Unit)=> []) [5,18,19,20,21,22,23,24,25,26,27,28,29,30,31,32] (fun(_:Unit)=>True) (by simp <;> rfl) ?_ ?_
 .refine oL q32_1 fun all hall _ Z=>?_;have ga2:aQ all 2=some 20:=hall 2;refine zs 3 fun _ Y=>?_;simp(disch:=omega)[aC,aB,ga2];apply Y;refine zb 20 ?_ ?_<;>intro g1<;>try simp at g1
  .simp(disch:=omega)[aC,aB,ga2];apply Z;refine aY (t:=true) (by simp) (fun _=>?_) (fun h=>by cases h);refine zk [2,3,4,5,6,7] ?_;refine zt q32_1 fun _ _ Z=>?_;simp(disch:=omega)[aC,aB];and_intros<;>(try omega);apply Z;refine eQ (()) (trivial) (aU rfl ?_ (by simp) (by simp));simp [jG,k1F, *]
  refine zs 3 fun _ Y=>?_;simp(disch:=omega)[aC,aB,ga2];apply Y;refine zg ga2 fun _ Y=>?_;simp(disch:=omega)[aC,aB,ga2];refine dX (Qw (rB p.tree k.ID) k.look _ hTE) ?_;apply Y;simp(disch:=omega)[aC,aB,ga2];apply Z;refine zI ?_ ?_<;>intro c2<;>try simp at c2
  .refine zk [2,3,4,5,6,7] ?_;refine zt q32_1 fun _ _ Z=>?_;simp(disch:=omega)[aC,aB];and_intros<;>(try omega);apply Z;refine eQ (()) (trivial) (aU rfl ?_ (by simp) (by simp));simp [jG,k1F, *]
  apply fM;refine eQ (()) (trivial) (aU rfl ?_ (by simp) (by simp));simp [jG,k1F, *]
 rintro - -;simp only [aM,aK,dD,cJ,bK,bN];refine zk [2,3,4,5,6,7] ?_;apply aF;refine iA (fun(_:Unit)=> [(5,.d (.sl true ((k1F p.tree k++k2F p.tree k).map mC)))]) (fun(_:Unit)=> []) (fun(_:Unit)=> []) [5,8,9,33,34,35,36,37,38,39,40,41,42,43,44,45,46,47,48,49,50,51,52] (fun(_:Unit)=>True) (by simp <;> rfl) ?_ ?_
 .refine zr q32_1 fun _ _ Z=>?_;refine zs 2 fun _ Y=>?_;simp(disch:=omega)[aC,aB];apply Y;refine aG fun _ Y=>?_;simp(disch:=omega)[aC,aB];refine dX (Wk (rB p.tree k.ID).attrs Lf _ (by omega) h5) ?_;apply Y;simp(disch:=omega)[aC,aB];apply Z;refine zk [2,3,4,5,6,7,9] ?_;refine oL q32_1 fun all hall _ Z=>?_;have ga1:aQ all 1=some 40:=hall 1;refine zs 2 fun _ Y=>?_;simp(disch:=omega)[aC,aB,ga1];apply Y;refine zb 40 ?_ ?_<;>intro g3<;>try simp at g3
  .refine zs 3 fun _ Y=>?_;simp(disch:=omega)[aC,aB,ga1];apply Y;refine zg ga1 fun _ Y=>?_;simp(disch:=omega)[aC,aB,ga1];refine dX (aF2 k.look _) ?_;apply Y;simp(disch:=omega)[aC,aB,ga1];apply Z;refine zI ?_ ?_<;>intro c4<;>try simp at c4
   .refine zk [2,3,4,5,6,7] ?_;refine zt q32_1 fun _ _ Z=>?_;simp(disch:=omega)[aC,aB];and_intros<;>(try omega);apply Z;refine eQ (()) (trivial) (aU rfl ?_ (by simp) (by simp));simp [jG,k2F,iN, *]
   apply fM;refine eQ (()) (trivial) (aU rfl ?_ (by simp) (by simp));simp [jG,k2F,iN, *]
  simp(disch:=omega)[aC,aB,ga1];apply Z;refine aY (t:=false) (by simp) (fun h=>by cases h) (fun _=>?_);apply fM;refine eQ (()) (trivial) (aU rfl ?_ (by simp) (by simp));simp [jG,k2F,iN, *]
 rintro - -;simp only [aM,aK,dD,cJ,bK,bN];refine zk [2,3,4,5] ?_;apply aF;refine iA (fun(_:Unit)=> [(5,.d (.sl true ((Gq p.tree p.pending k).map mC)))]) (fun(_:Unit)=> []) (fun(_:Unit)=> []) [5,53,54,55,56,57,58,59,60,61,62] (fun(_:Unit)=>True) (by simp <;> rfl) ?_ ?_
 .refine zr q32_1 fun _ _ Z=>?_;refine zs 2 fun _ Y=>?_;simp(disch:=omega)[aC,aB];apply Y;refine aG fun _ Y=>?_;simp(disch:=omega)[aC,aB];refine dX (Um p k _ hp) ?_;apply Y;simp(disch:=omega)[aC,aB];apply Z;refine zI ?_ ?_<;>intro c5<;>try simp at c5
  .refine zt q32_1 fun _ _ Z=>?_;simp(disch:=omega)[aC,aB];and_intros<;>(try omega);apply Z;refine eQ (()) (trivial) (aU rfl ?_ (by simp) (by simp));simp [jG,Gq,k3F, *]
  apply fM;refine eQ (()) (trivial) (aU rfl ?_ (by simp) (by simp));simp [jG,Gq,k3F, *]
 rintro - -;simp only [aM,aK,dD,cJ,bK,bN];refine zr q32_1 fun _ _ Z=>?_;simp(disch:=omega)[aC,aB];apply Z;apply aE;simp [aP]
def onW(l:List WAT)(id kd:Int)(i:Nat):List WAT:=(l.take i).filter fun w=>decide (w.node=id) && decide (w.kind=kd)
def tF(l:List WAT)(id kd:Int)(i:Nat):Nat:=(onW l id kd i).length
def Pg(l:List WAT)(id kd:Int)(i:Nat):Nat:=((onW l id kd i).filter WAT.frame).length
theorem Up {id:Int} (h:i<l.length)(h1:l[i].node=id)(h2:l[i].kind=kd):onW l id kd (i+1)=onW l id kd i++ [l[i]]:=by
 unfold onW;rw [bB _ _ h,cT];simp [h1,h2]
theorem aNm {id:Int} (h:i<l.length)(h1:¬(l[i].node=id/\l[i].kind=kd)):onW l id kd (i+1)=onW l id kd i:=by
 unfold onW;rw [bB _ _ h,cT];simp at h1 |-;exact h1
theorem Ws(l:List WAT)(id kd:Int)(i:Nat):(onW l id kd i).length<=i:=by
 unfold onW;have:=gE (fun w:WAT=>decide (w.node=id) && decide (w.kind=kd)) (l.take i);simp at this |-;omega
theorem aKo(l:List WAT)(id kd:Int)(i:Nat):tF l id kd i<=i:=Ws l id kd i
theorem aNv(l:List WAT)(id kd:Int)(i:Nat):Pg l id kd i<=i:=cZ (gE _ _) (Ws l id kd i)
theorem Vc {id:Int} (h:i<l.length)(h1:¬(l[i].node=id/\l[i].kind=kd)):tF l id kd (i+1)=tF l id kd i/\Pg l id kd (i+1)=Pg l id kd i:=by
 unfold tF Pg;rw [aNm h h1];exact⟨rfl,rfl⟩
theorem aNp {id:Int} (h:i<l.length)(h1:l[i].node=id)(h2:l[i].kind=kd)(h3:l[i].frame=true):tF l id kd (i+1)=tF l id kd i+1/\Pg l id kd (i+1)=Pg l id kd i+1:=by
 unfold tF Pg;rw [Up h h1 h2,cT];simp [h3]
theorem aPh {id:Int} (h:i<l.length)(h1:l[i].node=id)(h2:l[i].kind=kd)(h3:l[i].frame=false):tF l id kd (i+1)=tF l id kd i+1/\Pg l id kd (i+1)=Pg l id kd i:=by
 unfold tF Pg;rw [Up h h1 h2,cT];simp [h3]
def tA(l:List WAT)(id kd what:Int):Bool:=if what=0 then decide (tF l id kd l.length=0)else if what=1 then decide (tF l id kd l.length=1) && decide (Pg l id kd l.length=1)else decide (tF l id kd l.length=1) && decide (Pg l id kd l.length=0)
def mO(t:TN)(l:LK):Bool:=decide (mT t=cR l) && if l.move=1 then kM nP t.styles mDx && kM nP t.styles mDy && decide (Pe t.styles mDx=l.DX) && decide (Pe t.styles mDy=l.DY)else !kM nP t.styles mDx && !kM nP t.styles mDy
theorem aIp(t:TN)(k:Nat):∃r,mT t=qC t k++r:=⟨(t.classes.drop k).filter jH,by unfold mT qC;rw [<- cT,fP]⟩
theorem aIu (h:k<t.classes.length)(hp:jH t.classes[k]=true)(e:mT t=C):C[(qC t k).length]?=some t.classes[k]:=by
 obtain⟨r,hr⟩:=aIp t (k+1);rw [Dp h hp] at hr;rw [<- e,hr,bU,bR (bG _)];simp
theorem Vq (h:k<t.classes.length)(hp:jH t.classes[k]=true)(e:∀h2:(qC t k).length<C.length,¬C[(qC t k).length]=t.classes[k]):¬mT t=C:=fun q=>by
 have:=aIu h hp q;obtain⟨h2,h3⟩:=aJ.1 this;exact e h2 h3
theorem aBp (h:k<t.classes.length)(hp:jH t.classes[k]=true)(hh:qC t k=C.take (qC t k).length)(h2:(qC t k).length<C.length)(e:C[(qC t k).length]=t.classes[k]):qC t (k+1)=C.take (qC t (k+1)).length:=by
 rw [Dp h hp,bC,rZ,bB C _ h2,<- hh,e]
theorem aC9 (hh:qC t t.classes.length=C.take (qC t t.classes.length).length):decide ((qC t t.classes.length).length=C.length)=decide (mT t=C):=by
 rw [Wa] at *;by_cases h:(mT t).length=C.length
 .rw [h,dY] at hh;simp [hh]
 have:¬mT t=C:=fun e=>h (by rw [e]);simp [h,this]
theorem aCg(x:RPC)(id kd:Int)(σ:List (List D))(hl:x.pending.length<=1000):Ct prog 71 [Hh x,D.int id,D.int kd] σ (fun r σ'=>r= .tup [D.int (tF x.pending id kd x.pending.length:Nat),D.int (Pg x.pending id kd x.pending.length:Nat)]/\σ'=σ):=by
 refine zf func71 ?_;refine bT fun _ _ Z=>?_;simp(disch:=omega);apply Z;refine bT fun _ _ Z=>?_;simp(disch:=omega);apply Z;refine bT fun _ _ Z=>?_;simp(disch:=omega);apply Z;apply aF;refine bT fun _ _ Z=>?_;simp(disch:=omega);and_intros<;>(try omega);apply Z;apply aN;refine zk [1,2,6,7,8,9,13,14,15] ?_;refine bA (fun(k:Nat)=> [(15,.d (.v (.int .i64 (k:Int)))),(8,.d (D.int (tF x.pending id kd k:Nat))),(9,.d (D.int (Pg x.pending id kd k:Nat))),(11,.d (.any))]) [8,9,11,15,16,17,18,19,20,21,22,23,24,25,26,27,28,29,30,31,32,33,34,35] (fun(k:Nat)=>k<=x.pending.length) (fun(k:Nat)=>x.pending.length - k) (0) (by simp <;> rfl) ?_ ?_ ?_
 .simp [tF,Pg,onW]
 .simp
 rintro k hk;simp only [aM,aK];have ha:=aKo x.pending id kd k;have hf:=aNv x.pending id kd k;refine bT fun _ _ Z=>?_;simp(disch:=omega);apply Z;apply aF;refine zI ?_ ?_<;>intro c1<;>try simp at c1
 .apply kL;refine bT fun _ _ Z=>?_;simp(disch:=omega);and_intros<;>(try omega);apply Z;refine zk [1,2,6,7,8,9,11,13,14,15] ?_;refine oL ⟨[],[],[],[],[]⟩ fun all hall _ Z=>?_;have ga4:aQ all 4=some 23:=hall 4;refine zs 5 fun _ Y=>?_;simp(disch:=omega)[ga4];apply Y;refine zb 23 ?_ ?_<;>intro g2<;>try simp at g2
  .simp(disch:=omega)[ga4];apply Z;refine zI ?_ ?_<;>intro c3<;>try simp at c3
   .refine zk [1,2,6,7,8,9,11,13,14,15] ?_;refine bT fun _ _ Z=>?_;simp(disch:=omega);and_intros<;>(try omega);apply Z;refine zk [1,2,6,7,8,9,11,13,14,15] ?_;refine bT fun _ _ Z=>?_;simp(disch:=omega);apply Z;refine zI ?_ ?_<;>intro c4<;>try simp at c4
    .have hnx:=aNp c1 g2 c3 c4;refine zk [1,2,6,7,8,9,11,13,14,15] ?_;refine tD fun _ _ Z=>?_;simp(disch:=omega);and_intros<;>(try omega);apply Z;apply zB;refine zk [1,2,6,7,8,9,11,13,14,15] ?_;refine tD fun _ _ Z=>?_;simp(disch:=omega);and_intros<;>(try omega);apply Z;refine zq (k+1) ?_ ?_ ?_
     .omega
     .try dsimp only
      omega
     simp(disch:=omega)[hnx.1,hnx.2]
    have hnx:=aPh c1 g2 c3 c4;apply lP;refine zk [1,2,6,7,8,9,11,13,14,15] ?_;refine tD fun _ _ Z=>?_;simp(disch:=omega);and_intros<;>(try omega);apply Z;refine zq (k+1) ?_ ?_ ?_
    .omega
    .try dsimp only
     omega
    simp(disch:=omega)[hnx.1,hnx.2]
   have hnx:=Vc (id:=id) (kd:=kd) c1 (fun h=>c3 h.2);apply lP;refine zk [1,2,6,7,8,9,11,13,14,15] ?_;refine tD fun _ _ Z=>?_;simp(disch:=omega);and_intros<;>(try omega);apply Z;refine zq (k+1) ?_ ?_ ?_
   .omega
   .try dsimp only
    omega
   simp(disch:=omega)[hnx.1,hnx.2]
  have hnx:=Vc (id:=id) (kd:=kd) c1 (fun h=>g2 h.1);simp(disch:=omega)[ga4];apply Z;refine aY (t:=false) (by simp) (fun h=>by cases h) (fun _=>?_);apply lP;refine zk [1,2,6,7,8,9,11,13,14,15] ?_;refine tD fun _ _ Z=>?_;simp(disch:=omega);and_intros<;>(try omega);apply Z;refine zq (k+1) ?_ ?_ ?_
  .omega
  .try dsimp only
   omega
  simp(disch:=omega)[hnx.1,hnx.2]
 obtain rfl:k=x.pending.length:=by omega
 apply zE;refine bT fun _ _ Z=>?_;simp(disch:=omega);apply Z;apply aE;simp [aP]
theorem Uy(x:RPC)(id kd what:Int)(σ:List (List D))(hl:x.pending.length<=1000):Ct prog 31 [Hh x,D.int id,D.int kd,D.int what] σ (fun r σ'=>r= .bool (tA x.pending id kd what)/\σ'=σ):=by
 refine zf func31 ?_;refine bT fun _ _ Z=>?_;simp(disch:=omega);apply Z;refine bT fun _ _ Z=>?_;refine zs 3 fun _ Y=>?_;simp(disch:=omega);apply Y;refine aG fun _ Y=>?_;simp(disch:=omega);refine dX (aCg x id kd _ hl) ?_;apply Y;simp(disch:=omega);apply Z;apply aF;refine bT fun _ _ Z=>?_;simp(disch:=omega);apply Z;apply aN;refine zk [8,9,10,18] ?_;refine bT fun _ _ Z=>?_;simp(disch:=omega);apply Z;refine zI ?_ ?_<;>intro c1<;>try simp at c1
 .refine bT fun _ _ Z=>?_;simp(disch:=omega);apply Z;apply aE;simp [aP,tA, *];first | done | omega | (rw [jJ];simp;omega)
 refine bT fun _ _ Z=>?_;simp(disch:=omega);apply Z;refine zI ?_ ?_<;>intro c2<;>try simp at c2
 .refine oL ⟨[],[],[],[],[]⟩ fun all hall _ Z=>?_;have ga2:aQ all 2=some 27:=hall 2;refine zs 3 fun _ Y=>?_;simp(disch:=omega)[ga2];apply Y;refine zb 27 ?_ ?_<;>intro g3<;>try simp at g3
  .simp(disch:=omega)[ga2];apply Z;apply aE;simp [aP,tA, *];first | done | omega | (rw [jJ];simp;omega)
  simp(disch:=omega)[ga2];apply Z;apply aE;simp [aP,tA, *];first | done | omega | (rw [jJ];simp;omega)
 apply lP;refine oL ⟨[],[],[],[],[]⟩ fun all hall _ Z=>?_;have ga2:aQ all 2=some 33:=hall 2;refine zs 3 fun _ Y=>?_;simp(disch:=omega)[ga2];apply Y;refine zb 33 ?_ ?_<;>intro g4<;>try simp at g4
 .simp(disch:=omega)[ga2];apply Z;apply aE;simp [aP,tA, *];first | done | omega | (rw [jJ];simp;omega)
 simp(disch:=omega)[ga2];apply Z;apply aE;simp [aP,tA, *];first | done | omega | (rw [jJ];simp;omega)
theorem Pc(t:TN)(l:LK)(σ:List (List D))(h:TSz t):Ct prog 29 [fU t,Gx l] σ (fun r σ'=>r= .bool (mO t l)/\σ'=σ):=by
 refine zf func29 ?_;obtain⟨h1,h2,h3,h4⟩:=h;have hcl:=zD l;refine bT fun _ _ Z=>?_;simp(disch:=omega);apply Z;refine bT fun _ _ Z=>?_;refine zs 1 fun _ Y=>?_;simp(disch:=omega);apply Y;refine aG fun _ Y=>?_;simp(disch:=omega);refine dX (Lb l _) ?_;apply Y;simp(disch:=omega);apply Z;refine bT fun _ _ Z=>?_;simp(disch:=omega);apply Z;apply aF;refine bT fun _ _ Z=>?_;simp(disch:=omega);and_intros<;>(try omega);apply Z;apply aN;refine zk [2,3,4,5,6,16,17,18] ?_;refine bA (fun(k:Nat)=> [(18,.d (.v (.int .i64 (k:Int)))),(6,.d (D.int ((qC t k).length:Nat))),(8,.d (.any))]) [4,6,8,18,19,20,21,22,23,24,25,26,27,28,29,30,31,32,33,34,35,36,37,38,39,40,41,42,43,44] (fun(k:Nat)=>k<=t.classes.length/\qC t k=(cR l).take (qC t k).length) (fun(k:Nat)=>t.classes.length - k) (0) (by simp <;> rfl) ?_ ?_ ?_
 .simp [aGn]
 .simp [aGn]
 rintro k ⟨hk,hh⟩;simp only [aM,aK];have hml:=Vr t k;refine bT fun _ _ Z=>?_;simp(disch:=omega);apply Z;apply aF;refine zI ?_ ?_<;>intro c1<;>try simp at c1
 .apply kL;refine bT fun _ _ Z=>?_;simp(disch:=omega);and_intros<;>(try omega);apply Z;apply aF;refine zk [2,3,5,6,8,16,17,18] ?_;refine oL ⟨[],[],[],[],[]⟩ fun all hall _ Z=>?_;have ga3:aQ all 3=some 25:=hall 3;refine zs 4 fun _ Y=>?_;simp(disch:=omega)[ga3];and_intros<;>(try omega);apply Y;refine zb 25 ?_ ?_<;>intro g2<;>try simp at g2
  .have hp2:=qU t.classes[k] (.inl (by omega));have hnx:=Uf c1 hp2;simp(disch:=omega)[ga3];apply Z;refine aY (t:=true) (by simp) (fun _=>?_) (fun h=>by cases h);apply tT;apply uK;apply rF;apply iE;refine zk [2,3,5,6,8,16,17,18] ?_;refine tD fun _ _ Z=>?_;simp(disch:=omega);and_intros<;>(try omega);apply Z;refine zq (k+1) ?_ ?_ ?_
   .exact⟨by omega,by rw [hnx];exact hh⟩
   .try dsimp only
    omega
   simp(disch:=omega)[hnx]
  simp(disch:=omega)[ga3];and_intros<;>(try omega);apply Z;refine zI ?_ ?_<;>intro c3<;>try simp at c3
  .have hp2:=qU t.classes[k] (.inr c3);have hnx:=Uf c1 hp2;apply tT;apply uK;apply rF;apply iE;refine zk [2,3,5,6,8,16,17,18] ?_;refine tD fun _ _ Z=>?_;simp(disch:=omega);and_intros<;>(try omega);apply Z;refine zq (k+1) ?_ ?_ ?_
   .exact⟨by omega,by rw [hnx];exact hh⟩
   .try dsimp only
    omega
   simp(disch:=omega)[hnx]
  have hp2:=zJ t.classes[k] (by omega) c3;apply zA;apply aF;refine zk [2,3,5,6,8,16,17,18] ?_;refine oL ⟨[],[],[],[],[]⟩ fun all hall _ Z=>?_;have ga4:aQ all 4=some 34:=hall 4;refine zs 5 fun _ Y=>?_;simp(disch:=omega)[ga4];and_intros<;>(try omega);apply Y;refine zb 34 ?_ ?_<;>intro g4<;>try simp at g4
  .simp(disch:=omega)[ga4];apply Z;refine aY (t:=true) (by simp) (fun _=>?_) (fun h=>by cases h);refine zk [2,3,5,6,8,16,17,18] ?_;refine bT fun _ _ Z=>?_;simp(disch:=omega);apply Z;apply aE;have hne:=Vq (C:=cR l) c1 hp2 (fun h2=>absurd h2 (by omega));simp [aP,mO,hne]
  simp(disch:=omega)[ga4];and_intros<;>(try omega);apply Z;refine zI ?_ ?_<;>intro c5<;>try simp at c5
  .refine zk [2,3,5,6,8,16,17,18] ?_;refine bT fun _ _ Z=>?_;simp(disch:=omega);apply Z;apply aE;have hne:=Vq (C:=cR l) c1 hp2 (fun h2=>c5);simp [aP,mO,hne]
  have hnx:=Dp c1 hp2;apply zA;refine zk [2,3,5,6,8,16,17,18] ?_;refine tD fun _ _ Z=>?_;simp(disch:=omega);and_intros<;>(try omega);apply Z;apply zB;refine tD fun _ _ Z=>?_;simp(disch:=omega);and_intros<;>(try omega);apply Z;refine zq (k+1) ?_ ?_ ?_
  .exact⟨by omega,aBp c1 hp2 hh (by omega) c5⟩
  .try dsimp only
   omega
  simp(disch:=omega)[hnx]
 obtain rfl:k=t.classes.length:=by omega
 have he:=aC9 hh;have he2:(mT t=cR l)↔(qC t t.classes.length).length=(cR l).length:=by simpa using he.symm
 apply zE;refine bT fun _ _ Z=>?_;refine zs 2 fun _ Y=>?_;simp(disch:=omega);apply Y;refine aG fun _ Y=>?_;simp(disch:=omega);refine dX (Ms t.styles mDx _ (by omega)) ?_;apply Y;simp(disch:=omega);apply Z;refine zk [2,3,5,6,9,10] ?_;refine bT fun _ _ Z=>?_;refine zs 2 fun _ Y=>?_;simp(disch:=omega);apply Y;refine aG fun _ Y=>?_;simp(disch:=omega);refine dX (Ms t.styles mDy _ (by omega)) ?_;apply Y;simp(disch:=omega);apply Z;apply aF;refine zk [3,5,6,9,10,11,12] ?_;refine bT fun _ _ Z=>?_;simp(disch:=omega);apply Z;refine zI ?_ ?_<;>intro c6<;>try simp at c6
 .refine zk [3,5,6,9,10,11,12] ?_;refine oL ⟨[],[],[],[],[]⟩ fun all hall _ Z=>?_;have ga4:aQ all 4=some 64:=hall 4;have ga7:aQ all 7=some 67:=hall 7;have ga10:aQ all 10=some 70:=hall 10;have ga16:aQ all 16=some 76:=hall 16;refine zs 5 fun _ Y=>?_;simp(disch:=omega)[ga4,ga7,ga10,ga16];and_intros<;>(try omega);apply Y;refine zb 64 ?_ ?_<;>intro g7<;>try simp at g7
  .refine zs 3 fun _ Y=>?_;simp(disch:=omega)[ga4,ga7,ga10,ga16];apply Y;refine zb 67 ?_ ?_<;>intro g8<;>try simp at g8
   .refine zs 3 fun _ Y=>?_;simp(disch:=omega)[ga4,ga7,ga10,ga16];apply Y;refine zb 70 ?_ ?_<;>intro g9<;>try simp at g9
    .refine zs 6 fun _ Y=>?_;simp(disch:=omega)[ga4,ga7,ga10,ga16];apply Y;refine zb 76 ?_ ?_<;>intro g10<;>try simp at g10
     .simp(disch:=omega)[ga4,ga7,ga10,ga16];apply Z;apply aE;clear hh he hk hml c1;first | have q9:(qC t t.classes.length).length=(cR l).length:=by omega | have q9:¬(qC t t.classes.length).length=(cR l).length:=by omega
      simp [aP,mO,he2, *]
     simp(disch:=omega)[ga4,ga7,ga10,ga16];apply Z;apply aE;clear hh he hk hml c1;first | have q9:(qC t t.classes.length).length=(cR l).length:=by omega | have q9:¬(qC t t.classes.length).length=(cR l).length:=by omega
     simp [aP,mO,he2, *]
    refine zs 6 fun _ Y=>?_;simp(disch:=omega)[ga4,ga7,ga10,ga16];apply Y;simp(disch:=omega)[ga4,ga7,ga10,ga16];apply Z;apply aE;clear hh he hk hml c1;first | have q9:(qC t t.classes.length).length=(cR l).length:=by omega | have q9:¬(qC t t.classes.length).length=(cR l).length:=by omega
    simp [aP,mO,he2, *]
   refine zs 3 fun _ Y=>?_;simp(disch:=omega)[ga4,ga7,ga10,ga16];apply Y;refine zs 6 fun _ Y=>?_;simp(disch:=omega)[ga4,ga7,ga10,ga16];apply Y;simp(disch:=omega)[ga4,ga7,ga10,ga16];apply Z;apply aE;clear hh he hk hml c1;first | have q9:(qC t t.classes.length).length=(cR l).length:=by omega | have q9:¬(qC t t.classes.length).length=(cR l).length:=by omega
   simp [aP,mO,he2, *]
  refine zs 3 fun _ Y=>?_;simp(disch:=omega)[ga4,ga7,ga10,ga16];apply Y;refine zs 3 fun _ Y=>?_;simp(disch:=omega)[ga4,ga7,ga10,ga16];apply Y;refine zs 6 fun _ Y=>?_;simp(disch:=omega)[ga4,ga7,ga10,ga16];apply Y;simp(disch:=omega)[ga4,ga7,ga10,ga16];apply Z;apply aE;clear hh he hk hml c1;first | have q9:(qC t t.classes.length).length=(cR l).length:=by omega | have q9:¬(qC t t.classes.length).length=(cR l).length:=by omega
  simp [aP,mO,he2, *]
 apply zA;refine zk [5,6,10,12] ?_;refine oL ⟨[],[],[],[],[]⟩ fun all hall _ Z=>?_;have ga4:aQ all 4=some 86:=hall 4;have ga8:aQ all 8=some 90:=hall 8;refine zs 5 fun _ Y=>?_;simp(disch:=omega)[ga4,ga8];and_intros<;>(try omega);apply Y;refine zb 86 ?_ ?_<;>intro g11<;>try simp at g11
 .refine zs 4 fun _ Y=>?_;simp(disch:=omega)[ga4,ga8];apply Y;refine zb 90 ?_ ?_<;>intro g12<;>try simp at g12
  .simp(disch:=omega)[ga4,ga8];apply Z;apply aE;clear hh he hk hml c1;first | have q9:(qC t t.classes.length).length=(cR l).length:=by omega | have q9:¬(qC t t.classes.length).length=(cR l).length:=by omega
   simp [aP,mO,he2, *]
  simp(disch:=omega)[ga4,ga8];apply Z;apply aE;clear hh he hk hml c1;first | have q9:(qC t t.classes.length).length=(cR l).length:=by omega | have q9:¬(qC t t.classes.length).length=(cR l).length:=by omega
  simp [aP,mO,he2, *]
 refine zs 4 fun _ Y=>?_;simp(disch:=omega)[ga4,ga8];apply Y;simp(disch:=omega)[ga4,ga8];apply Z;apply aE;clear hh he hk hml c1;first | have q9:(qC t t.classes.length).length=(cR l).length:=by omega | have q9:¬(qC t t.classes.length).length=(cR l).length:=by omega
 simp [aP,mO,he2, *]
end Go.Proofs.YtbdjepeabjangaaGreat
