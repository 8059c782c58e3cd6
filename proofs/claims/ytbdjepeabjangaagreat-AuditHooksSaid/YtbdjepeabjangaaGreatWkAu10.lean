import Derived.Test.YtbdjepeabjangaaGreatWkAu8
set_option linter.all false
set_option maxRecDepth 20000
set_option maxHeartbeats 8000000
open Go.Proofs.Tryz
namespace Go.Proofs.YtbdjepeabjangaaGreat
open Go Go.Vm
def k1F(t:TN)(k:KD):List FND:=if Qe t k.ID=true/\Cr (Bn t k.ID) k.look=true then [] else [⟨2,k.ID⟩]
def k2F(t:TN)(k:KD):List FND:=if Qe t k.ID=true/\¬iN (Bn t k.ID)=Hn k.look then [⟨3,k.ID⟩] else []
def k3F(p:List PDG)(k:KD):List FND:=if aBt p k=true then [] else [⟨4,k.ID⟩]
def Lj(t:TN)(p:List PDG)(k:KD):List FND:=k1F t k++k2F t k++k3F p k
theorem Qp(t:TN)(k:KD):(k1F t k).length<=1:=by unfold k1F;split <;> simp
theorem Rk(t:TN)(k:KD):(k2F t k).length<=1:=by unfold k2F;split <;> simp
theorem aEw(t:List PDG)(k:KD):(k3F t k).length<=1:=by unfold k3F;split <;> simp
theorem Jr(t:TN)(p:List PDG)(k:KD):(Lj t p k).length<=3:=by
 unfold Lj;have:=Qp t k;have:=Rk t k;have:=aEw p k;simp;omega
theorem TI.find:∀ {t:TN} {id:Int} {u:TN},TI t->iS t id=some u->TI u
 | t,id,u,h,e=>by
  rw [wD] at e;split at e
  .cases e;exact h
  obtain⟨k,hk,h2⟩:=List.exists_of_findSome?_eq_some e;exact TI.find (h.k k hk) h2
termination_by t=>jJ t
decreasing_by
 have:=jR hk;omega
theorem TI.fnd {t:TN} (h:TI t)(id:Int):TI (Bn t id):=by
 unfold Bn;cases e:iS t id with
 | none=>exact zTI
 | some u=>exact h.find e
theorem aA0(k:KD)(w:PDG)(σ:List (List D))  :Ct prog 63 [pG k,.adr [D.bool w.ref.frame,D.int w.ref.token,D.int w.job.kind,D.int w.job.node,D.int w.left,D.int w.deadline]] σ (fun r σ'=>r= .bool (decide (k.ID=w.job.node))/\σ'=σ):=by
 refine zf func63 ?_;refine cL fun _ _ Z=>?_;simp(disch:=omega);apply Z;refine cL fun _ _ Z=>?_;simp(disch:=omega);apply Z;apply aC;simp [aT]
theorem Ta(l:List KD)(p:KD->Bool)(f:FuncId)(caps:List D)(σ:List (List D))(hl:l.length<=1000000)(hcp:∀d∈caps,d.plain=true)(hcs:caps.map D.strip=caps)(hp:∀x τ,Ct prog f (pG x::caps) τ (fun r τ'=>r= .bool (p x)/\τ'=τ)):Ct prog 107 [.sl false (l.map pG),.clo (.func f) [] caps] σ (fun r σ'=>r= .int (uC p l)/\σ'=σ):=by
 refine zf func107 ?_;refine cL fun _ _ Z=>?_;simp(disch:=omega)[hcs];apply Z;apply aE;refine cL fun _ _ Z=>?_;simp(disch:=omega)[hcs];and_intros<;>(try omega);apply Z;apply aQ;refine zk [0,1,4,7,8] ?_;refine bK (fun(k:Nat)=> [(8,.d (.v (.int .i64 (k:Int)))),(5,.d (.any))]) [4,5,8,9,10,11,12,13,14,15,16,17,18] (fun(k:Nat)=>k<=l.length/\∀x∈l.take k,p x=false) (fun(k:Nat)=>l.length - k) (0) (by simp <;> rfl) ?_ ?_ ?_
 .simp
 .simp
 rintro k ⟨hk,hh⟩;simp only [aO,aK];refine cL fun _ _ Z=>?_;simp(disch:=omega)[hcs];apply Z;apply aE;refine zI ?_ ?_<;>intro c1<;>try simp at c1
 .apply mT;refine cL fun _ _ Z=>?_;simp(disch:=omega)[hcs];apply Z;refine cL fun _ _ Z=>?_;refine zs 5 fun _ Y=>?_;simp(disch:=omega)[hcs];and_intros<;>(try omega);apply Y;refine aD fun _ Y=>?_;simp(disch:=omega)[hcs];refine⟨hcp,?_⟩;refine eH (hp l[k] _) ?_;apply Y;simp only [fJ];apply Z;refine zI ?_ ?_<;>intro c2<;>try simp at c2
  .refine zk [0,1,5,7,8] ?_;refine cL fun _ _ Z=>?_;simp(disch:=omega)[hcs];apply Z;apply aC;simp [aT];exact(At c1 hh c2).symm
  apply rK;refine zk [0,1,5,7,8] ?_;refine Dd fun _ _ Z=>?_;simp(disch:=omega)[hcs];and_intros<;>(try omega);apply Z;refine zq (k+1) ?_ ?_ ?_
  .exact⟨by omega,vY (by omega) hh c2⟩
  .try dsimp only
   omega
  simp(disch:=omega)[hcs]
 apply zE;refine cL fun _ _ Z=>?_;simp(disch:=omega)[hcs];apply Z;apply aC;simp [aT];rw [bW (by omega)] at hh;exact(sM hh).symm
theorem Ik(l:List KD)(p:KD->Bool)(f:FuncId)(caps:List D)(σ:List (List D))(hl:l.length<=1000000)(hcp:∀d∈caps,d.plain=true)(hcs:caps.map D.strip=caps)(hp:∀x τ,Ct prog f (pG x::caps) τ (fun r τ'=>r= .bool (p x)/\τ'=τ)):Ct prog 62 [.sl false (l.map pG),.clo (.func f) [] caps] σ (fun r σ'=>r= .bool (l.any p)/\σ'=σ):=by
 refine zf func62 ?_;refine cL fun _ _ Z=>?_;simp(disch:=omega);apply Z;refine cL fun _ _ Z=>?_;refine zs 2 fun _ Y=>?_;simp(disch:=omega);apply Y;refine aD fun _ Y=>?_;simp(disch:=omega);refine eH (Ta l p f caps _ hl hcp hcs hp) ?_;apply Y;simp(disch:=omega);apply Z;apply aC;simp [aT,Zh];rw [yL];simp
theorem aF6(p:PIC)(w:PDG)(σ:List (List D))(hk:p.kids.length<=1000):Ct prog 22 [rN p,Gg w] σ (fun r σ'=>r= .bool (zF p.now p.kids w)/\σ'=σ):=by
 refine zf func22 ?_;refine zr ⟨[],[3],[],[],[]⟩ fun _ _ Z=>?_;simp(disch:=omega);apply Z;refine zr ⟨[],[3],[],[],[]⟩ fun _ _ Z=>?_;refine zs 3 fun _ Y=>?_;simp(disch:=omega);and_intros<;>(try omega);apply Y;refine aD fun _ Y=>?_;simp(disch:=omega);refine eH (Ik p.kids (fun k=>decide (k.ID=w.job.node)) 63 [.adr [D.bool w.ref.frame,D.int w.ref.token,D.int w.job.kind,D.int w.job.node,D.int w.left,D.int w.deadline]] _ (by omega) (by simp) (by simp) (fun x τ=>aA0 x w τ)) ?_;obtain⟨K,hK⟩:∃K,(p.kids.any fun k=>decide (k.ID=w.job.node))=K:=⟨_,rfl⟩;rw [hK];apply Y;simp(disch:=omega);apply Z;refine zr ⟨[],[3],[],[],[]⟩ fun _ _ Z=>?_;simp(disch:=omega);apply Z;refine zk [3,4,5,6] ?_;apply aE;refine nX (fun(_:Unit)=> [(6,.d (.bool (aBj p.now w)))]) (fun(_:Unit)=> []) (fun(_:Unit)=> []) [6,16,17,18,19,20,21,22,23,24,25,26] (fun(_:Unit)=>True) (by simp <;> rfl) ?_ ?_
 .refine zr ⟨[],[3],[],[],[]⟩ fun _ _ Z=>?_;simp(disch:=omega);apply Z;refine zI ?_ ?_<;>intro c1<;>try simp at c1
  .refine ztg ⟨[],[3],[],[],[]⟩ fun all hall _ Z=>?_;have ga3:aY all 3=some 22:=hall 3;refine zs 4 fun _ Y=>?_;simp(disch:=omega)[ga3];apply Y;refine zb 22 ?_ ?_<;>intro g2<;>try simp at g2
   .simp(disch:=omega)[ga3];apply Z;refine kO (()) (trivial) (bT rfl ?_ (by simp) (by simp));simp [uL,aBj, *]
   simp(disch:=omega)[ga3];apply Z;refine kO (()) (trivial) (bT rfl ?_ (by simp) (by simp));simp [uL,aBj, *]
  apply jM;refine kO (()) (trivial) (bT rfl ?_ (by simp) (by simp));simp [uL,aBj, *]
 rintro - -;simp only [aO,aK,eM,dS,bZ,cN];refine zk [3,4,5,6] ?_;refine vJ ⟨[],[3],[],[],[]⟩ fun all hall _ Z=>?_;have ga2:aY all 2=some 29:=hall 2;have ga6:aY all 6=some 33:=hall 6;have ga11:aY all 11=some 38:=hall 11;refine zs 3 fun _ Y=>?_;simp(disch:=omega)[ga2,ga6,ga11];apply Y;refine zb 29 ?_ ?_<;>intro g3<;>try simp at g3
 .refine zs 4 fun _ Y=>?_;simp(disch:=omega)[ga2,ga6,ga11];apply Y;refine zs 8 fun _ Y=>?_;simp(disch:=omega)[ga2,ga6,ga11];and_intros<;>(try omega);apply Y;simp(disch:=omega)[ga2,ga6,ga11];apply Z;apply aC;simp [aT,zF,hK, *]
 refine zs 4 fun _ Y=>?_;simp(disch:=omega)[ga2,ga6,ga11];apply Y;refine zb 33 ?_ ?_<;>intro g4<;>try simp at g4
 .refine zs 8 fun _ Y=>?_;simp(disch:=omega)[ga2,ga6,ga11];and_intros<;>(try omega);apply Y;simp(disch:=omega)[ga2,ga6,ga11];apply Z;apply aC;simp [aT,zF,hK, *]
 refine zs 5 fun _ Y=>?_;simp(disch:=omega)[ga2,ga6,ga11];apply Y;refine zb 38 ?_ ?_<;>intro g5<;>try simp at g5
 .simp(disch:=omega)[ga2,ga6,ga11];apply Z;apply aC;simp [aT,zF,hK, *]
 simp(disch:=omega)[ga2,ga6,ga11];apply Z;apply aC;simp [aT,zF,hK, *]
@[simp] abbrev q32_1:Cfg:=⟨[4,5,27,47,57,63],[],[],[],[]⟩
theorem aH9(p:PIC)(k:KD)(σ:List (List D))(h:TI p.tree)(hp:p.pending.length<=1000):Ct prog 21 [rN p,pG k] σ (fun r σ'=>r= .sl true ((Lj p.tree p.pending k).map rZ)/\σ'=σ):=by
 refine zf func21 ?_;have hTI:=h.fnd k.ID;have hTE:=hTI.e;obtain⟨⟨h1,h2,h3,h4⟩,h5,h6⟩:=hTI.e;have hl1:=Qp p.tree k;have hl2:=Rk p.tree k;refine zr q32_1 fun _ _ Z=>?_;simp(disch:=omega)[aM,aL];apply Z;refine zr q32_1 fun _ _ Z=>?_;simp(disch:=omega)[aM,aL];apply Z;refine zr q32_1 fun _ _ Z=>?_;refine zs 4 fun _ Y=>?_;simp(disch:=omega)[aM,aL];apply Y;refine aD fun _ Y=>?_;simp(disch:=omega)[aM,aL];refine eH (Ze p.tree k.ID _ h.b) ?_;apply Y;simp(disch:=omega)[aM,aL];apply Z;refine zk [2,3,4,5,6,7] ?_;apply aE;refine nX (fun(_:Unit)=> [(5,.d (.sl true ((k1F p.tree k).map rZ)))]) (fun(_:Unit)=> []) (fun(_:Unit)=> []) [5,18,19,20,21,22,23,24,25,26,27,28,29,30,31,32] (fun(_:Unit)=>True) (by simp <;> rfl) ?_ ?_
 .refine vJ q32_1 fun all hall _ Z=>?_;have ga2:aY all 2=some 20:=hall 2;refine zs 3 fun _ Y=>?_;simp(disch:=omega)[aM,aL,ga2];apply Y;refine zb 20 ?_ ?_<;>intro g1<;>try simp at g1
  .simp(disch:=omega)[aM,aL,ga2];apply Z;refine cJ (t:=true) (by simp) (fun _=>?_) (fun h=>by cases h);refine zk [2,3,4,5,6,7] ?_;refine zt q32_1 fun _ _ Z=>?_;simp(disch:=omega)[aM,aL];and_intros<;>(try omega);apply Z;refine kO (()) (trivial) (bT rfl ?_ (by simp) (by simp));simp [uL,k1F, *]
  refine zs 3 fun _ Y=>?_;simp(disch:=omega)[aM,aL,ga2];apply Y;refine zg ga2 fun _ Y=>?_;simp(disch:=omega)[aM,aL,ga2];refine eH (Pa (Bn p.tree k.ID) k.look _ hTE) ?_;apply Y;simp(disch:=omega)[aM,aL,ga2];apply Z;refine zI ?_ ?_<;>intro c2<;>try simp at c2
  .refine zk [2,3,4,5,6,7] ?_;refine zt q32_1 fun _ _ Z=>?_;simp(disch:=omega)[aM,aL];and_intros<;>(try omega);apply Z;refine kO (()) (trivial) (bT rfl ?_ (by simp) (by simp));simp [uL,k1F, *]
  apply jM;refine kO (()) (trivial) (bT rfl ?_ (by simp) (by simp));simp [uL,k1F, *]
 rintro - -;simp only [aO,aK,eM,dS,bZ,cN];refine zk [2,3,4,5,6,7] ?_;apply aE;refine nX (fun(_:Unit)=> [(5,.d (.sl true ((k1F p.tree k++k2F p.tree k).map rZ)))]) (fun(_:Unit)=> []) (fun(_:Unit)=> []) [5,8,9,33,34,35,36,37,38,39,40,41,42,43,44,45,46,47,48,49,50,51,52] (fun(_:Unit)=>True) (by simp <;> rfl) ?_ ?_
 .refine zr q32_1 fun _ _ Z=>?_;refine zs 2 fun _ Y=>?_;simp(disch:=omega)[aM,aL];apply Y;refine aD fun _ Y=>?_;simp(disch:=omega)[aM,aL];refine eH (Qr (Bn p.tree k.ID).attrs Qb _ (by omega) h5) ?_;apply Y;simp(disch:=omega)[aM,aL];apply Z;refine zk [2,3,4,5,6,7,9] ?_;refine vJ q32_1 fun all hall _ Z=>?_;have ga1:aY all 1=some 40:=hall 1;refine zs 2 fun _ Y=>?_;simp(disch:=omega)[aM,aL,ga1];apply Y;refine zb 40 ?_ ?_<;>intro g3<;>try simp at g3
  .refine zs 3 fun _ Y=>?_;simp(disch:=omega)[aM,aL,ga1];apply Y;refine zg ga1 fun _ Y=>?_;simp(disch:=omega)[aM,aL,ga1];refine eH (aBf k.look _) ?_;apply Y;simp(disch:=omega)[aM,aL,ga1];apply Z;refine zI ?_ ?_<;>intro c4<;>try simp at c4
   .refine zk [2,3,4,5,6,7] ?_;refine zt q32_1 fun _ _ Z=>?_;simp(disch:=omega)[aM,aL];and_intros<;>(try omega);apply Z;refine kO (()) (trivial) (bT rfl ?_ (by simp) (by simp));simp [uL,k2F,iN, *]
   apply jM;refine kO (()) (trivial) (bT rfl ?_ (by simp) (by simp));simp [uL,k2F,iN, *]
  simp(disch:=omega)[aM,aL,ga1];apply Z;refine cJ (t:=false) (by simp) (fun h=>by cases h) (fun _=>?_);apply jM;refine kO (()) (trivial) (bT rfl ?_ (by simp) (by simp));simp [uL,k2F,iN, *]
 rintro - -;simp only [aO,aK,eM,dS,bZ,cN];refine zk [2,3,4,5] ?_;apply aE;refine nX (fun(_:Unit)=> [(5,.d (.sl true ((Lj p.tree p.pending k).map rZ)))]) (fun(_:Unit)=> []) (fun(_:Unit)=> []) [5,53,54,55,56,57,58,59,60,61,62] (fun(_:Unit)=>True) (by simp <;> rfl) ?_ ?_
 .refine zr q32_1 fun _ _ Z=>?_;refine zs 2 fun _ Y=>?_;simp(disch:=omega)[aM,aL];apply Y;refine aD fun _ Y=>?_;simp(disch:=omega)[aM,aL];refine eH (Nu p k _ hp) ?_;apply Y;simp(disch:=omega)[aM,aL];apply Z;refine zI ?_ ?_<;>intro c5<;>try simp at c5
  .refine zt q32_1 fun _ _ Z=>?_;simp(disch:=omega)[aM,aL];and_intros<;>(try omega);apply Z;refine kO (()) (trivial) (bT rfl ?_ (by simp) (by simp));simp [uL,Lj,k3F, *]
  apply jM;refine kO (()) (trivial) (bT rfl ?_ (by simp) (by simp));simp [uL,Lj,k3F, *]
 rintro - -;simp only [aO,aK,eM,dS,bZ,cN];refine zr q32_1 fun _ _ Z=>?_;simp(disch:=omega)[aM,aL];apply Z;apply aC;simp [aT]
end Go.Proofs.YtbdjepeabjangaaGreat
