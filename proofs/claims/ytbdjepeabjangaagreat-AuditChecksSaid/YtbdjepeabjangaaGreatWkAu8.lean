import Derived.Test.YtbdjepeabjangaaGreatWkAu6
set_option linter.all false
set_option maxRecDepth 20000
set_option maxHeartbeats 8000000
open Go.Proofs.Tryz
namespace Go.Proofs.YtbdjepeabjangaaGreat
open Go Go.Vm
variable {k:Nat}{p:List PDG}{t:TN}
abbrev aHz(v:VN):Prop:=∀σ:List (List D),Ct prog 97 [jN v] σ (fun r σ'=>r=fU (yJ v)/\σ'=σ)
def jC(t:TN)(id:Int):Option TN:=if t.ID=id then some t else t.kids.attach.findSome? fun k=>jC k.1 id
termination_by SizeOf.sizeOf t
decreasing_by
 have h:=iQ k.2;cases t;simp at h |-;omega
theorem yG(t:TN)(id:Int):jC t id=if t.ID=id then some t else t.kids.findSome? fun k=>jC k id:=by
 rw [jC,aN9 t.kids fun k=>jC k id]
theorem Gz {id:Int} (h:t.ID=id):jC t id=some t:=by rw [yG,aR h]
theorem Il {id:Int} {j:Nat} (h0:¬t.ID=id)(hh:∀k∈t.kids.take j,jC k id=none)(h:j<t.kids.length) {u:TN} (h1:jC t.kids[j] id=some u):jC t id=some u:=by
 rw [yG,aH h0];have e:t.kids=t.kids.take j++t.kids[j]::t.kids.drop (j+1):=by rw [<- Ah h,fP]
 rw [e,List.findSome?_append,Jt.2 hh,List.findSome?_cons,h1];rfl
theorem Nv {id:Int} (h0:¬t.ID=id)(hh:∀k∈t.kids,jC k id=none):jC t id=none:=by
 rw [yG,aH h0,Jt.2 hh]
def rB(t:TN)(id:Int):TN:=(jC t id).getD zT
def Gp(t:TN)(id:Int):Bool:=(jC t id).isSome
theorem Tk {id:Int} (h:Gp t id=false):jC t id=none:=by unfold Gp at h;simpa using h
theorem Kj {id:Int} (h:Gp t id=true):jC t id=some (rB t id):=by unfold Gp at h;unfold rB;cases e:jC t id with
 | none=>rw [e] at h;cases h
 | some u=>rfl
abbrev aHv(t:TN)(id:Int):Prop:=∀σ:List (List D),Ct prog 28 [fU t,D.int id] σ (fun r σ'=>r= .tup [fU (rB t id),.bool (Gp t id)]/\σ'=σ)
abbrev cTN(t:TN):List D:= [D.int t.ID,D.int t.kind,D.str t.tag,D.str t.text,.sl false (t.classes.map D.str),.sl false (t.attrs.map cH),.sl false (t.styles.map bY),.sl false (t.kids.map mK)]
abbrev aP6(O:Nat)(id:Int)(t:TN):Prop:=∀(u:TN) (σ:List (List D)),σ[O]?=some (cTN u)->Ct prog 84 [fU t,.clo (.func 98) [] [.adr [D.int id],.ref O 0]] σ (fun r σ'=>r= .bool (!Gp t id)/\σ'=σ.set O (cTN ((jC t id).getD u)))
theorem Hu {l:List TN} {id:Int} (hk:k<l.length)(hh:∀x∈l.take k,jC x id=none)(h:jC l[k] id=none):∀x∈l.take (k+1),jC x id=none:=fun x hx=>by
 rw [bB l k hk] at hx;rcases dZ.1 hx with hx | hx
 .exact hh x hx
 rw [iW.1 hx];exact h
theorem Oe {l:List TN} {id:Int} (hk:l.length<=k)(hh:∀x∈l.take k,jC x id=none):∀x∈l,jC x id=none:=by rwa [bZ hk] at hh
theorem Zr(v:VN)(σ:List (List D))(h:VSz v)(ih:∀k∈v.kids,aHz k):Ct prog 97 [jN v] σ (fun r σ'=>(r.plain=true/\r.strip=fU (yJ v))/\∃J,σ'=σ++J):=by
 refine zf func97 ?_;obtain⟨h1,h2,h3,h4,h5⟩:=h;refine zr ⟨[32],[],[3],[],[]⟩ fun _ _ Z=>?_;simp(disch:=omega)[aD,aA];apply Z;apply aF;refine zr ⟨[32],[],[3],[],[]⟩ fun _ _ Z=>?_;simp(disch:=omega)[aD,aA];apply Z;refine zI ?_ ?_<;>intro c1<;>try simp at c1
 .refine zr ⟨[32],[],[3],[],[]⟩ fun _ _ Z=>?_;simp(disch:=omega)[aD,aA];apply Z;apply aE;simp [aP];rw [As,aR c1];simp
 apply zA;refine zk [1,2] ?_;refine zd ⟨[32],[],[3],[],[]⟩ [.op {},.op {rL:=true},.op {},.op {rL:=true},.pure,.op {},.op {rL:=true},.pure,.op {},.op {rL:=true},.pure,.op {},.op {rO:=true,wO:=true},.op {rO:=true,wO:=true}] fun all hall _ Z=>?_;refine iK 4 fun _ Y=>?_;simp(disch:=omega)[aD,aA];apply Y;refine bJ fun _ Y=>?_;simp(disch:=omega)[aD,aA];refine pH (fun _=>(yM v.classes _ (by omega))) ?_;apply Y;refine iK 2 fun _ Y=>?_;simp(disch:=omega)[aD,aA];apply Y;refine bJ fun _ Y=>?_;simp(disch:=omega)[aD,aA];refine pH (fun _=>(Au v.attrs _ (by omega))) ?_;apply Y;refine iK 2 fun _ Y=>?_;simp(disch:=omega)[aD,aA];apply Y;refine bJ fun _ Y=>?_;simp(disch:=omega)[aD,aA];refine pH (fun _=>(At v.styles _ (by omega))) ?_;apply Y;simp(disch:=omega)[aD,aA];and_intros<;>(try omega);apply Z;apply aF;refine zk [1,2,3] ?_;refine zr ⟨[32],[],[3],[],[]⟩ fun _ _ Z=>?_;simp(disch:=omega)[aD,aA];and_intros<;>(try omega);apply Z;apply aN;refine zk [2,3,25,26,27] ?_;refine eO (fun(j:Nat)=> [(27,.d (.v (.int .i64 (j:Int)))),(5,.d (.any))]) (fun(j:Nat)=> []) (fun(j:Nat)=> [(σ.length, [D.int 0,D.int 2,D.str v.tag,D.str ⟨#[]⟩,.sl false (v.classes.map D.str),.sl false (v.attrs.map cH),.sl false (v.styles.map bY),.sl true ((tkO v.kids j).map mK)])]) [5,27,28,29,30,31,32,33,34,35,36,37,38] (fun(j:Nat)=>j<=v.kids.length) (fun(j:Nat)=>v.kids.length - j) (0) (by simp <;> rfl) ?_ (by simp) (by simp [aD,aMm]) ?_ ?_
 .simp
 .simp
 rintro j hj;simp only [aM,aK,dD,cJ,bK,bN];have htl2:=Ur v.kids j;refine zr ⟨[32],[],[3],[],[]⟩ fun _ _ Z=>?_;simp(disch:=omega)[aD,aA];apply Z;apply aF;refine zI ?_ ?_<;>intro c2<;>try simp at c2
 .apply kL;refine zr ⟨[32],[],[3],[],[]⟩ fun _ _ Z=>?_;simp(disch:=omega)[aD,aA];and_intros<;>(try omega);apply Z;refine ze ⟨[32],[],[3],[],[]⟩ [.op {},.op {rO:=true,wO:=true},.op {rL:=true},.pure,.op {},.op {},.op {},.op {rO:=true,wO:=true}] fun all hall _ Z=>?_;refine iK 3 fun _ Y=>?_;simp(disch:=omega)[aD,aA];apply Y;refine bJ fun _ Y=>?_;simp(disch:=omega)[aD,aA];refine pH (fun _=>(ih v.kids[j] (bS _) _)) ?_;apply Y;simp(disch:=omega)[aD,aA];and_intros<;>(try omega);apply Z;apply zB;refine zk [2,3,5,25,26,27] ?_;refine zt ⟨[32],[],[3],[],[]⟩ fun _ _ Z=>?_;simp(disch:=omega)[aD,aA];and_intros<;>(try omega);apply Z;refine cQ (j+1) ?_ ?_ (aU rfl ?_ (by simp) (by simp [Nl, *]))
  .omega
  .try dsimp only
   omega
  simp(disch:=omega)[aD,aA]
 obtain rfl:j=v.kids.length:=by omega
 rw [Vb];apply zE;refine zr ⟨[32],[],[3],[],[]⟩ fun _ _ Z=>?_;simp(disch:=omega)[aD,aA];apply Z;apply aE;simp [aP];rw [As,aH c1];simp
theorem Ow(v:VN)(h:VB v):aHz v:=fun σ=>
 have h1:Ct prog 97 [jN v] σ (fun r σ'=>r=fU (yJ v)/\∃J,σ'=σ++J):=(Zr v σ h.s fun k hk=>Ow k (h.k k hk)).strip fun r σ' h=>⟨h.1.1,h.1.2,h.2⟩
 h1.trim fun r σ' ⟨hr,J,hs⟩=>⟨σ,J,hs,rfl,by rw [hr];exact Fm _ _,fun n cs h=> .inl h,hr,rfl⟩
termination_by fG v
decreasing_by
 have:=iH hk;omega
theorem aJ5(v:VN)(σ:List (List D))(h:VG v)(hc:fG v<=100):Ct prog 56 [jN v] σ (fun r σ'=>(r.plain=true/\r.strip=fU (yJ (eR v)))/\σ'=σ):=by
 refine zf func56 ?_;refine bT fun _ _ Z=>?_;simp(disch:=omega);apply Z;refine bT fun _ _ Z=>?_;refine zs 1 fun _ Y=>?_;simp(disch:=omega);apply Y;refine aG fun _ Y=>?_;simp(disch:=omega);refine dX (Lu v h (by omega) _) ?_;apply Y;refine aG fun _ Y=>?_;simp(disch:=omega);refine dX (Ow (eR v) (Fc h hc) _) ?_;apply Y;simp(disch:=omega);apply Z;apply aE;simp [aP]
theorem aAx(t:TN)(id:Int)(σ:List (List D))(h:TSz t)(ih:∀k∈t.kids,aHv k id):Ct prog 28 [fU t,D.int id] σ (fun r σ'=>(r.plain=true/\r.strip= .tup [fU (rB t id),.bool (Gp t id)])/\σ'=σ):=by
 refine zf func28 ?_;obtain⟨h1,h2,h3,h4⟩:=h;refine bT fun _ _ Z=>?_;simp(disch:=omega);apply Z;apply aF;refine bT fun _ _ Z=>?_;simp(disch:=omega);apply Z;refine zI ?_ ?_<;>intro c1<;>try simp at c1
 .refine bT fun _ _ Z=>?_;simp(disch:=omega);apply Z;apply aE;have e:=Gz c1;simp [aP,rB,Gp,e]
 apply zA;apply aF;refine bT fun _ _ Z=>?_;simp(disch:=omega);and_intros<;>(try omega);apply Z;apply aN;refine zk [1,4,5,16,17,18] ?_;refine bA (fun(j:Nat)=> [(18,.d (.v (.int .i64 (j:Int)))),(7,.d (.any)),(8,.d (.any)),(9,.d (.any))]) [5,7,8,9,18,19,20,21,22,23,24,25,26,27,28,29,30] (fun(j:Nat)=>j<=t.kids.length/\∀k∈t.kids.take j,jC k id=none) (fun(j:Nat)=>t.kids.length - j) (0) (by simp <;> rfl) ?_ ?_ ?_
 .simp
 .simp
 rintro j ⟨hj,hh⟩;simp only [aM,aK];refine bT fun _ _ Z=>?_;simp(disch:=omega);apply Z;apply aF;refine zI ?_ ?_<;>intro c2<;>try simp at c2
 .apply kL;refine bT fun _ _ Z=>?_;simp(disch:=omega);and_intros<;>(try omega);apply Z;refine zk [1,4,7,8,9,16,17,18] ?_;refine bT fun _ _ Z=>?_;refine zs 2 fun _ Y=>?_;simp(disch:=omega);apply Y;refine aG fun _ Y=>?_;simp(disch:=omega);refine dX (ih t.kids[j] (bS _) _) ?_;apply Y;simp(disch:=omega);apply Z;refine zk [1,4,7,8,9,16,17,18] ?_;refine bT fun _ _ Z=>?_;simp(disch:=omega);apply Z;refine zI ?_ ?_<;>intro c3<;>try simp at c3
  .refine bT fun _ _ Z=>?_;simp(disch:=omega);apply Z;apply aE;have e:=Il c1 hh c2 (Kj c3);have e2:rB t id=rB t.kids[j] id:=by rw [show rB t id=(jC t id).getD zT from rfl,e];rfl
   have e3:Gp t id=true:=by unfold Gp;rw [e];rfl
   simp [aP,e2,e3]
  apply lP;refine tD fun _ _ Z=>?_;simp(disch:=omega);and_intros<;>(try omega);apply Z;refine zq (j+1) ?_ ?_ ?_
  .exact⟨by omega,Hu (by omega) hh (Tk (by simpa using c3))⟩
  .try dsimp only
   omega
  simp(disch:=omega)
 apply zE;refine bT fun _ _ Z=>?_;simp(disch:=omega);apply Z;apply aE;have e:=Nv c1 (Oe (by omega) hh);simp [aP,rB,Gp,e,zT]
theorem Hp(t:TN)(id:Int)(h:TB t):aHv t id:=fun σ=>(aAx t id σ h.s fun k hk=>Hp k id (h.k k hk)).strip fun r σ' h=>⟨h.1.1,h.1.2,h.2⟩
termination_by jF t
decreasing_by
 have:=iX hk;omega
theorem aFe(t u:TN)(id:Int)(O:Nat)(σ:List (List D))(hO:σ[O]?=some (cTN u)):Ct prog 98 [fU t,.adr [D.int id],.ref O 0] σ (fun r σ'=>r= .bool (!decide (t.ID=id))/\σ'=σ.set O (cTN (if t.ID=id then t else u))):=by
 refine zf func98 ?_;simp only [cTN] at hO;refine bT fun _ _ Z=>?_;simp(disch:=omega)[hO,eP hO];apply Z;apply aF;refine bT fun _ _ Z=>?_;simp(disch:=omega)[hO,eP hO];apply Z;refine zI ?_ ?_<;>intro c1<;>try simp at c1
 .refine tD fun _ _ Z=>?_;simp(disch:=omega)[hO,eP hO];apply Z;apply iE;refine bT fun _ _ Z=>?_;simp(disch:=omega)[hO,eP hO];apply Z;apply aE;subst c1;simp [aP,cTN]
 apply zA;refine bT fun _ _ Z=>?_;simp(disch:=omega)[hO,eP hO];apply Z;apply aE;simp [aP,c1];exact(oO hO).symm
theorem aBd(t u:TN)(id:Int)(O:Nat)(σ:List (List D))(h:t.kids.length<=9999)(hO:σ[O]?=some (cTN u))(ih:∀k∈t.kids,aP6 O id k):Ct prog 84 [fU t,.clo (.func 98) [] [.adr [D.int id],.ref O 0]] σ (fun r σ'=>r= .bool (!Gp t id)/\σ'=σ.set O (cTN ((jC t id).getD u))):=by
 refine zf func84 ?_;refine bT fun _ _ Z=>?_;simp(disch:=omega);apply Z;apply aF;refine bT fun _ _ Z=>?_;refine zs 2 fun _ Y=>?_;simp(disch:=omega);apply Y;refine aG fun _ Y=>?_;simp(disch:=omega);refine dX (aFe t u id O _ hO) ?_;apply Y;simp(disch:=omega);apply Z;refine zI ?_ ?_<;>intro c1<;>try simp at c1
 .refine bT fun _ _ Z=>?_;simp(disch:=omega);apply Z;apply aE;have e:=Gz c1;simp [aP,Gp,e,c1]
 apply zA;apply aF;refine bT fun _ _ Z=>?_;simp(disch:=omega);and_intros<;>(try omega);apply Z;apply aN;refine zk [1,4,12,13,14] ?_;refine oY (fun(j:Nat)=> [(14,.d (.v (.int .i64 (j:Int)))),(6,.d (.any))]) (fun(j:Nat)=> [cTN t]) (fun(j:Nat)=>σ.set O (cTN u)) [4,6,14,15,16,17,18,19,20,21,22] (fun(j:Nat)=>j<=t.kids.length/\∀k∈t.kids.take j,jC k id=none) (fun(j:Nat)=>t.kids.length - j) (0) (by simp <;> rfl) ?_ (by simp) (by simp [c1]) ?_ ?_
 .simp
 .simp
 rintro j ⟨hj,hh⟩;simp only [aM,aK];refine bT fun _ _ Z=>?_;simp(disch:=omega);apply Z;apply aF;refine zI ?_ ?_<;>intro c2<;>try simp at c2
 .apply kL;refine bT fun _ _ Z=>?_;simp(disch:=omega);and_intros<;>(try omega);apply Z;refine bT fun _ _ Z=>?_;refine zs 2 fun _ Y=>?_;simp(disch:=omega);apply Y;refine aG fun _ Y=>?_;simp(disch:=omega);have hO2:=eP hO (cTN u);refine dX (ih t.kids[j] (bS _) u _ hO2) ?_;apply Y;simp(disch:=omega);apply Z;refine zI ?_ ?_<;>intro c3<;>try simp at c3
  .refine zk [1,6,12,13,14] ?_;refine bT fun _ _ Z=>?_;simp(disch:=omega);apply Z;apply aE;have e:=Il c1 hh c2 (Kj c3);have e4:=Kj c3;simp [aP,Gp,e,e4]
  apply lP;refine zk [1,6,12,13,14] ?_;refine tD fun _ _ Z=>?_;simp(disch:=omega);and_intros<;>(try omega);apply Z;refine cQ (j+1) ?_ ?_ (aU rfl ?_ (by simp) (by simp [Tk (t:=t.kids[j]) (id:=id) (by simpa using c3)]))
  .exact⟨by omega,Hu (by omega) hh (Tk (by simpa using c3))⟩
  .try dsimp only
   omega
  simp(disch:=omega)
 apply zE;refine bT fun _ _ Z=>?_;simp(disch:=omega);apply Z;apply aE;have e:=Nv c1 (Oe (by omega) hh);simp [aP,Gp,e]
theorem Ou(O:Nat)(id:Int)(t:TN)(h:TB t):aP6 O id t:=fun u σ hO=>aBd t u id O σ h.s.2.2.2 hO fun k hk=>Ou O id k (h.k k hk)
termination_by jF t
decreasing_by
 have:=iX hk;omega
theorem aBi(t:TN)(id:Int)(σ:List (List D))(h:TB t):Ct prog 57 [fU t,D.int id] σ (fun r σ'=>r= .tup [fU (rB t id),.bool (Gp t id)]/\∃J,σ'=σ++J):=by
 refine zf func57 ?_;refine zr ⟨[],[3],[6],[],[]⟩ fun _ _ Z=>?_;simp(disch:=omega)[aD,aA];apply Z;refine zr ⟨[],[3],[6],[],[]⟩ fun _ _ Z=>?_;simp(disch:=omega)[aD,aA];and_intros<;>(try omega);apply Z;refine lB σ.length (cTN zT) (by simp [aD];rfl) (by simp [leC,D.s1,zT]) ?_;simp only [aA,bK];refine zr ⟨[],[3],[6],[],[]⟩ fun _ _ Z=>?_;refine zs 2 fun _ Y=>?_;simp(disch:=omega)[aD,aA];and_intros<;>(try omega);apply Y;refine aG fun _ Y=>?_;simp(disch:=omega)[aD,aA];refine dX (Ou σ.length id t h zT _ (by simp [aD])) ?_;apply Y;simp(disch:=omega)[aD,aA];apply Z;refine zr ⟨[],[3],[6],[],[]⟩ fun _ _ Z=>?_;simp(disch:=omega)[aD,aA];apply Z;apply aE;simp [aP,rB,Gp]
theorem Uu {N:Nat} {a b:D} (h1:Sc N a)(h2:Sc N b):Sc N (.tup [a,b]):=Sc.tup fun d hd=>by
 simp only [gA,lF,lC] at hd;rcases hd with rfl | rfl
 .exact h1
 exact h2
theorem aEb(t:TN)(id:Int)(σ:List (List D))(h:TB t):Ct prog 57 [fU t,D.int id] σ (fun r σ'=>r= .tup [fU (rB t id),.bool (Gp t id)]/\σ'=σ):=
 (aBi t id σ h).trim fun r σ' ⟨hr,J,hs⟩=>⟨σ,J,hs,rfl,by rw [hr];exact Uu (Fm _ _) (Sc.v _),fun n cs h=> .inl h,hr,rfl⟩
def qC(t:TN)(k:Nat):Ls:=(t.classes.take k).filter jH
def mT(t:TN):Ls:=t.classes.filter jH
theorem aGn(t:TN):qC t 0= []:=rfl
theorem Vr(t:TN)(k:Nat):(qC t k).length<=k:=by unfold qC;have:=gE jH (t.classes.take k);simp at this |-;omega
theorem Dp (h:k<t.classes.length)(hg:jH t.classes[k]=true):qC t (k+1)=qC t k++ [t.classes[k]]:=by unfold qC;rw [bB _ _ h,cT];simp [hg]
theorem Uf (h:k<t.classes.length)(hg:jH t.classes[k]=false):qC t (k+1)=qC t k:=by unfold qC;rw [bB _ _ h,cT];simp [hg]
theorem Wa(t:TN):qC t t.classes.length=mT t:=by unfold qC;rw [dY];rfl
def Sn(t:TN)(c:ByteArray)(want:Int)(away:Bool):Bool:=(kM nP t.styles c==away) && (!away || decide (yL t.styles c=want))
def xT(t:TN)(l:LK):Bool:=decide (mT t=cR l) && Sn t mDx l.DX (decide (l.move=1)) && Sn t mDy l.DY (decide (l.move=1))
def wA(l:LK):List AWT:=if l.kind=2\/l.kind=5 then [⟨1,true⟩] else if l.kind=3\/l.kind=6 then [⟨1,false⟩] else []
def wM(l:LK):List AWT:=if l.move=1 then [⟨2,true⟩] else if l.move=2 then [⟨2,false⟩] else []
def jA(l:LK):List AWT:=wA l++wM l
theorem Tw(l:LK):(jA l).length<=2:=by unfold jA wA wM;(repeat' split) <;> simp
def wE(p:List PDG)(id kd:Int)(i:Nat):List AWT:=((p.take i).filter fun w=>decide (w.job.node=id) && decide (w.job.kind=kd)).map fun w=>⟨kd,w.ref.frame⟩
theorem aNf(p:List PDG)(id kd:Int):wE p id kd 0= []:=rfl
theorem Pr(p:List PDG)(id kd:Int)(i:Nat):(wE p id kd i).length<=i:=by
 unfold wE;have:=gE (fun w:PDG=>decide (w.job.node=id) && decide (w.job.kind=kd)) (p.take i);simp at this |-;omega
theorem aF5 {id kd:Int} {i:Nat} (h:i<p.length)(h1:p[i].job.node=id)(h2:p[i].job.kind=kd):wE p id kd (i+1)=wE p id kd i++ [⟨kd,p[i].ref.frame⟩]:=by
 unfold wE;rw [bB _ _ h,cT,cX];simp [h1,h2]
theorem Wl {id kd:Int} {i:Nat} (h:i<p.length)(h1:¬(p[i].job.node=id/\p[i].job.kind=kd)):wE p id kd (i+1)=wE p id kd i:=by
 unfold wE;rw [bB _ _ h,cT,cX];simp at h1 |-;exact h1
def Ff(p:List PDG)(id:Int)(k:Nat):List AWT:=(List.range k).flatMap fun(i:Nat)=>wE p id ((i:Int)+1) p.length
theorem Ub(p:List PDG)(id:Int):Ff p id 0= []:=by simp [Ff]
theorem uP(p:List PDG)(id:Int)(k:Nat):Ff p id (k+1)=Ff p id k++wE p id ((k:Int)+1) p.length:=by unfold Ff;rw [rP,gB];simp
theorem Mr(p:List PDG)(id:Int):∀k,(Ff p id k).length<=k * p.length
 | 0=>by simp [Ub]
 | k+1=>by rw [uP,bC,pQ];have:=Mr p id k;have:=Pr p id ((k:Int)+1) p.length;omega
def Nm(p:List PDG)(k:KD):Bool:=decide (Ff p k.ID 2=jA k.look)
theorem aJw(k:Nat)(h:k<2):([D.int 1,D.int 2][k]?).getD D.any=D.int ((k:Int)+1):=by
 match k,h with
 | 0,_ | 1,_=>rfl
def Xs(now:Int)(w:PDG):Bool:=if w.ref.frame=true then decide (w.left=1) || decide (w.left=2)else decide (now<=w.deadline)
def wT(now:Int)(ks:List KD)(w:PDG):Bool:= !(ks.any fun k=>decide (k.ID=w.job.node)) || !Xs now w || (!decide (w.job.kind=1) && !decide (w.job.kind=2))
theorem aHs {α:Type} (p:α->Bool)(l:List α):(0<=wG p l)↔l.any p=true:=by
 unfold wG;split
 .rename_i k h;rw [pN] at h;obtain⟨hk,he,_⟩:=h;simp only [nC];exact⟨fun _=>⟨_,bS hk,he⟩,fun _=>by omega⟩
 rename_i h;rw [pE] at h;constructor
 .intro q;omega
 intro q;obtain⟨x,h1,h2⟩:=nC.1 q;rw [h x h1] at h2;cases h2
theorem aLj(s:ByteArray)(σ:List (List D))  :Ct prog 99 [D.str s] σ (fun r σ'=>r= .bool (jH s)/\σ'=σ):=by
 refine zf func99 ?_;refine bT fun _ _ Z=>?_;simp(disch:=omega);apply Z;refine bT fun _ _ Z=>?_;refine zs 1 fun _ Y=>?_;simp(disch:=omega);apply Y;refine aG fun _ Y=>?_;simp(disch:=omega);refine dX (oS s _) ?_;apply Y;simp(disch:=omega);apply Z;apply aE;simp [aP]
theorem Hb(t:TN)(c:ByteArray)(w:Int)(a:Bool)(σ:List (List D))(h:TE t):Ct prog 102 [fU t,D.str c,D.int w,D.bool a] σ (fun r σ'=>r= .bool (Sn t c w a)/\σ'=σ):=by
 refine zf func102 ?_;obtain⟨⟨h1,h2,h3,h4⟩,h5,h6⟩:=h;refine bT fun _ _ Z=>?_;simp(disch:=omega);apply Z;refine bT fun _ _ Z=>?_;refine zs 3 fun _ Y=>?_;simp(disch:=omega);apply Y;refine aG fun _ Y=>?_;simp(disch:=omega);refine dX (aKs t.styles c _ (by omega) h6) ?_;apply Y;simp(disch:=omega);apply Z;refine zk [2,3,8,9,10] ?_;refine oL ⟨[],[],[],[],[]⟩ fun all hall _ Z=>?_;have ga3:aQ all 3=some 21:=hall 3;have ga6:aQ all 6=some 24:=hall 6;refine zs 4 fun _ Y=>?_;simp(disch:=omega)[ga3,ga6];apply Y;refine zb 21 ?_ ?_<;>intro g1<;>try simp at g1
 .refine zs 3 fun _ Y=>?_;simp(disch:=omega)[ga3,ga6];apply Y;refine zb 24 ?_ ?_<;>intro g2<;>try simp at g2
  .simp(disch:=omega)[ga3,ga6];apply Z;apply aE;simp [aP,Sn, *]
  simp(disch:=omega)[ga3,ga6];apply Z;apply aE;simp [aP,Sn, *]
 refine zs 8 fun _ Y=>?_;simp(disch:=omega)[ga3,ga6];apply Y;simp(disch:=omega)[ga3,ga6];apply Z;apply aE;simp [aP,Sn, *]
theorem Qw(t:TN)(l:LK)(σ:List (List D))(h:TE t):Ct prog 58 [fU t,Gx l] σ (fun r σ'=>r= .bool (xT t l)/\σ'=σ):=by
 refine zf func58 ?_;have hT:=h;obtain⟨⟨h1,h2,h3,h4⟩,h5,h6⟩:=h;have hcl:=zD l;refine zr ⟨[5,18],[],[],[],[]⟩ fun _ _ Z=>?_;simp(disch:=omega);apply Z;refine zr ⟨[5,18],[],[],[],[]⟩ fun _ _ Z=>?_;simp(disch:=omega);apply Z;apply aF;refine zr ⟨[5,18],[],[],[],[]⟩ fun _ _ Z=>?_;simp(disch:=omega);and_intros<;>(try omega);apply Z;apply aN;refine zk [2,3,4,5,10,11,12] ?_;refine bA (fun(k:Nat)=> [(12,.d (.v (.int .i64 (k:Int)))),(5,.d (.sl true ((qC t k).map D.str))),(7,.d (.any))]) [5,7,12,13,14,15,16,17,18,19,20,21,22] (fun(k:Nat)=>k<=t.classes.length) (fun(k:Nat)=>t.classes.length - k) (0) (by simp <;> rfl) ?_ ?_ ?_
 .simp [aGn]
 .simp
 rintro k hk;simp only [aM,aK];have hml:=Vr t k;refine zr ⟨[5,18],[],[],[],[]⟩ fun _ _ Z=>?_;simp(disch:=omega);apply Z;apply aF;refine zI ?_ ?_<;>intro c1<;>try simp at c1
 .apply kL;refine zr ⟨[5,18],[],[],[],[]⟩ fun _ _ Z=>?_;simp(disch:=omega);and_intros<;>(try omega);apply Z;refine zk [2,3,4,5,7,10,11,12] ?_;refine zr ⟨[5,18],[],[],[],[]⟩ fun _ _ Z=>?_;refine zs 1 fun _ Y=>?_;simp(disch:=omega);apply Y;refine aG fun _ Y=>?_;simp(disch:=omega);refine dX (aLj _ _) ?_;apply Y;simp only [fS];apply Z;refine zI ?_ ?_<;>intro c2<;>try simp at c2
  .have hnx:=Dp c1 c2;refine zt ⟨[5,18],[],[],[],[]⟩ fun _ _ Z=>?_;simp(disch:=omega);and_intros<;>(try omega);apply Z;apply zB;refine zk [2,3,4,5,7,10,11,12] ?_;refine zt ⟨[5,18],[],[],[],[]⟩ fun _ _ Z=>?_;simp(disch:=omega);and_intros<;>(try omega);apply Z;refine zq (k+1) ?_ ?_ ?_
   .omega
   .try dsimp only
    omega
   simp(disch:=omega)[hnx]
  have hnx:=Uf c1 (by simpa using c2);apply lP;refine zt ⟨[5,18],[],[],[],[]⟩ fun _ _ Z=>?_;simp(disch:=omega);and_intros<;>(try omega);apply Z;refine zq (k+1) ?_ ?_ ?_
  .omega
  .try dsimp only
   omega
  simp(disch:=omega)[hnx]
 obtain rfl:k=t.classes.length:=by omega
 have hma:=Wa t;apply zE;refine zr ⟨[5,18],[],[],[],[]⟩ fun _ _ Z=>?_;simp(disch:=omega);apply Z;refine zk [2,3,4,5,8] ?_;refine oL ⟨[5,18],[],[],[],[]⟩ fun all hall _ Z=>?_;have ga4:aQ all 4=some 30:=hall 4;have ga11:aQ all 11=some 37:=hall 11;refine zs 2 fun _ Y=>?_;simp(disch:=omega)[ga4,ga11];apply Y;refine aG fun _ Y=>?_;simp(disch:=omega)[ga4,ga11];refine dX (Na l _) ?_;apply Y;refine aG fun _ Y=>?_;simp(disch:=omega)[ga4,ga11];refine dX (aF4 (qC t t.classes.length) (cR l) _ (by omega) (by omega)) ?_;apply Y;refine zs 1 fun _ Y=>?_;simp(disch:=omega)[ga4,ga11];apply Y;refine zb 30 ?_ ?_<;>intro g3<;>try simp at g3
 .refine zs 4 fun _ Y=>?_;simp(disch:=omega)[ga4,ga11];apply Y;refine zg ga4 fun _ Y=>?_;simp(disch:=omega)[ga4,ga11];refine dX (Hb t mDx l.DX (decide (l.move=1)) _ hT) ?_;apply Y;refine zs 2 fun _ Y=>?_;simp(disch:=omega)[ga4,ga11];apply Y;refine zb 37 ?_ ?_<;>intro g4<;>try simp at g4
  .refine zs 4 fun _ Y=>?_;simp(disch:=omega)[ga4,ga11];apply Y;refine zg ga11 fun _ Y=>?_;simp(disch:=omega)[ga4,ga11];refine dX (Hb t mDy l.DY (decide (l.move=1)) _ hT) ?_;apply Y;simp(disch:=omega)[ga4,ga11];apply Z;apply aE;simp only [hma] at *;simp [aP,xT, *]
  simp(disch:=omega)[ga4,ga11];apply Z;apply aE;simp only [hma] at *;simp [aP,xT, *]
 refine zs 7 fun _ Y=>?_;simp(disch:=omega)[ga4,ga11];apply Y;simp(disch:=omega)[ga4,ga11];apply Z;apply aE;simp only [hma] at *;simp [aP,xT, *]
@[simp] abbrev q40_1:Cfg:=⟨[2,3,9,16,24,30,34],[],[],[],[]⟩
theorem aDr(l:LK)(σ:List (List D))  :Ct prog 106 [Gx l] σ (fun r σ'=>r= .sl true ((jA l).map Qa)/\σ'=σ):=by
 refine zf func106 ?_;refine zr q40_1 fun _ _ Z=>?_;simp(disch:=omega);apply Z;refine zr q40_1 fun _ _ Z=>?_;simp(disch:=omega);apply Z;apply aF;refine zr q40_1 fun _ _ Z=>?_;simp(disch:=omega);apply Z;apply aN;apply aF;refine zr q40_1 fun _ _ Z=>?_;simp(disch:=omega);apply Z;refine zI ?_ ?_<;>intro c1<;>try simp at c1
 .apply zA;refine aY (t:=true) (by simp) (fun _=>?_) (fun h=>by cases h);refine zt q40_1 fun _ _ Z=>?_;simp(disch:=omega);and_intros<;>(try omega);apply Z;apply zB;apply aF;refine zk [1,2,3] ?_;refine zr q40_1 fun _ _ Z=>?_;simp(disch:=omega);apply Z;apply aN;refine zr q40_1 fun _ _ Z=>?_;simp(disch:=omega);apply Z;refine zI ?_ ?_<;>intro c2<;>try simp at c2
  .refine zt q40_1 fun _ _ Z=>?_;simp(disch:=omega);and_intros<;>(try omega);apply Z;apply zB;refine zk [2,3] ?_;refine zr q40_1 fun _ _ Z=>?_;simp(disch:=omega);apply Z;apply aE;simp [aP,jA,wA,wM, *]
  refine zr q40_1 fun _ _ Z=>?_;simp(disch:=omega);apply Z;refine zI ?_ ?_<;>intro c3<;>try simp at c3
  .refine zt q40_1 fun _ _ Z=>?_;simp(disch:=omega);and_intros<;>(try omega);apply Z;apply zB;refine zk [2,3] ?_;refine zr q40_1 fun _ _ Z=>?_;simp(disch:=omega);apply Z;apply aE;simp [aP,jA,wA,wM, *]
  apply lP;refine zr q40_1 fun _ _ Z=>?_;simp(disch:=omega);apply Z;apply aE;simp [aP,jA,wA,wM, *]
 refine zt q40_1 fun _ _ Z=>?_;simp(disch:=omega);apply Z;apply iE;refine zI ?_ ?_<;>intro c4<;>try simp at c4
 .refine zt q40_1 fun _ _ Z=>?_;simp(disch:=omega);and_intros<;>(try omega);apply Z;apply zB;apply aF;refine zk [1,2,3] ?_;refine zr q40_1 fun _ _ Z=>?_;simp(disch:=omega);apply Z;apply aN;refine zr q40_1 fun _ _ Z=>?_;simp(disch:=omega);apply Z;refine zI ?_ ?_<;>intro c5<;>try simp at c5
  .refine zt q40_1 fun _ _ Z=>?_;simp(disch:=omega);and_intros<;>(try omega);apply Z;apply zB;refine zk [2,3] ?_;refine zr q40_1 fun _ _ Z=>?_;simp(disch:=omega);apply Z;apply aE;simp [aP,jA,wA,wM, *]
  refine zr q40_1 fun _ _ Z=>?_;simp(disch:=omega);apply Z;refine zI ?_ ?_<;>intro c6<;>try simp at c6
  .refine zt q40_1 fun _ _ Z=>?_;simp(disch:=omega);and_intros<;>(try omega);apply Z;apply zB;refine zk [2,3] ?_;refine zr q40_1 fun _ _ Z=>?_;simp(disch:=omega);apply Z;apply aE;simp [aP,jA,wA,wM, *]
  apply lP;refine zr q40_1 fun _ _ Z=>?_;simp(disch:=omega);apply Z;apply aE;simp [aP,jA,wA,wM, *]
 apply aF;refine zr q40_1 fun _ _ Z=>?_;simp(disch:=omega);apply Z;refine zI ?_ ?_<;>intro c7<;>try simp at c7
 .apply zA;refine aY (t:=true) (by simp) (fun _=>?_) (fun h=>by cases h);refine zt q40_1 fun _ _ Z=>?_;simp(disch:=omega);and_intros<;>(try omega);apply Z;apply zB;apply aF;refine zk [1,2,3] ?_;refine zr q40_1 fun _ _ Z=>?_;simp(disch:=omega);apply Z;apply aN;refine zr q40_1 fun _ _ Z=>?_;simp(disch:=omega);apply Z;refine zI ?_ ?_<;>intro c8<;>try simp at c8
  .refine zt q40_1 fun _ _ Z=>?_;simp(disch:=omega);and_intros<;>(try omega);apply Z;apply zB;refine zk [2,3] ?_;refine zr q40_1 fun _ _ Z=>?_;simp(disch:=omega);apply Z;apply aE;simp [aP,jA,wA,wM, *]
  refine zr q40_1 fun _ _ Z=>?_;simp(disch:=omega);apply Z;refine zI ?_ ?_<;>intro c9<;>try simp at c9
  .refine zt q40_1 fun _ _ Z=>?_;simp(disch:=omega);and_intros<;>(try omega);apply Z;apply zB;refine zk [2,3] ?_;refine zr q40_1 fun _ _ Z=>?_;simp(disch:=omega);apply Z;apply aE;simp [aP,jA,wA,wM, *]
  apply lP;refine zr q40_1 fun _ _ Z=>?_;simp(disch:=omega);apply Z;apply aE;simp [aP,jA,wA,wM, *]
 refine zt q40_1 fun _ _ Z=>?_;simp(disch:=omega);apply Z;apply iE;refine zI ?_ ?_<;>intro c10<;>try simp at c10
 .refine zk [1,2,3] ?_;refine zt q40_1 fun _ _ Z=>?_;simp(disch:=omega);and_intros<;>(try omega);apply Z;apply zB;apply aF;refine zr q40_1 fun _ _ Z=>?_;simp(disch:=omega);apply Z;apply aN;refine zr q40_1 fun _ _ Z=>?_;simp(disch:=omega);apply Z;refine zI ?_ ?_<;>intro c11<;>try simp at c11
  .refine zk [2,3] ?_;refine zt q40_1 fun _ _ Z=>?_;simp(disch:=omega);and_intros<;>(try omega);apply Z;apply zB;refine zr q40_1 fun _ _ Z=>?_;simp(disch:=omega);apply Z;apply aE;simp [aP,jA,wA,wM, *]
  refine zk [2,3,21] ?_;refine zr q40_1 fun _ _ Z=>?_;simp(disch:=omega);apply Z;refine zI ?_ ?_<;>intro c12<;>try simp at c12
  .refine zt q40_1 fun _ _ Z=>?_;simp(disch:=omega);and_intros<;>(try omega);apply Z;apply zB;refine zr q40_1 fun _ _ Z=>?_;simp(disch:=omega);apply Z;apply aE;simp [aP,jA,wA,wM, *]
  apply lP;refine zr q40_1 fun _ _ Z=>?_;simp(disch:=omega);apply Z;apply aE;simp [aP,jA,wA,wM, *]
 apply lP;apply aF;refine zk [1,2,3] ?_;refine zr q40_1 fun _ _ Z=>?_;simp(disch:=omega);apply Z;apply aN;refine zr q40_1 fun _ _ Z=>?_;simp(disch:=omega);apply Z;refine zI ?_ ?_<;>intro c13<;>try simp at c13
 .refine zt q40_1 fun _ _ Z=>?_;simp(disch:=omega);and_intros<;>(try omega);apply Z;apply zB;refine zk [2,3] ?_;refine zr q40_1 fun _ _ Z=>?_;simp(disch:=omega);apply Z;apply aE;simp [aP,jA,wA,wM, *]
 refine zr q40_1 fun _ _ Z=>?_;simp(disch:=omega);apply Z;refine zI ?_ ?_<;>intro c14<;>try simp at c14
 .refine zt q40_1 fun _ _ Z=>?_;simp(disch:=omega);and_intros<;>(try omega);apply Z;apply zB;refine zk [2,3] ?_;refine zr q40_1 fun _ _ Z=>?_;simp(disch:=omega);apply Z;apply aE;simp [aP,jA,wA,wM, *]
 apply lP;refine zr q40_1 fun _ _ Z=>?_;simp(disch:=omega);apply Z;apply aE;simp [aP,jA,wA,wM, *]
theorem Um(p:PIC)(k:KD)(σ:List (List D))(hp:p.pending.length<=1000):Ct prog 61 [uG p,qX k] σ (fun r σ'=>r= .bool (Nm p.pending k)/\σ'=σ):=by
 refine zf func61 ?_;refine zr ⟨[5,36],[],[],[],[]⟩ fun _ _ Z=>?_;simp(disch:=omega)[fX,aC,aB];apply Z;refine zr ⟨[5,36],[],[],[],[]⟩ fun _ _ Z=>?_;simp(disch:=omega)[fX,aC,aB];apply Z;apply aF;refine zr ⟨[5,36],[],[],[],[]⟩ fun _ _ Z=>?_;simp(disch:=omega)[fX,aC,aB];and_intros<;>(try omega);apply Z;apply aN;refine zk [2,3,4,5,10,11,12] ?_;refine bA (fun(q:Nat)=> [(12,.d (.v (.int .i64 (q:Int)))),(5,.d (.sl true ((Ff p.pending k.ID q).map Qa))),(7,.d (.any)),(9,.d (.any))]) [5,7,9,12,13,14,15,16,17,18,19,20,21,22,23,24,25,26,27,28,29,30,31,32,33,34,35,36,37,38,39,40,41,42,43,44,45] (fun(q:Nat)=>q<=2) (fun(q:Nat)=>2 - q) (0) (by simp <;> rfl) ?_ ?_ ?_
 .simp [Ub]
 .simp
 rintro q hq;simp only [aM,aK];have hol:=Mr p.pending k.ID q;have hol2:q * p.pending.length<=2 * 1000:=Nat.mul_le_mul hq hp;refine zr ⟨[5,36],[],[],[],[]⟩ fun _ _ Z=>?_;simp(disch:=omega)[fX,aC,aB];apply Z;apply aF;refine zI ?_ ?_<;>intro c1<;>try simp at c1
 .have hget:=aJw q (by omega);apply kL;refine zr ⟨[5,36],[],[],[],[]⟩ fun _ _ Z=>?_;simp(disch:=omega)[fX,aC,aB,hget];and_intros<;>(try omega);apply Z;refine zk [2,3,4,5,7,9,10,11,12] ?_;refine zr ⟨[5,36],[],[],[],[]⟩ fun _ _ Z=>?_;simp(disch:=omega)[fX,aC,aB,hget];and_intros<;>(try omega);apply Z;apply aN;refine zk [2,3,4,5,7,9,10,11,12,17,18,19] ?_;refine bA (fun(i:Nat)=> [(19,.d (.v (.int .i64 (i:Int)))),(5,.d (.sl true ((Ff p.pending k.ID q++wE p.pending k.ID ((q:Int)+1) i).map Qa))),(9,.d (.any))]) [5,9,19,20,21,22,23,24,25,26,27,28,29,30,31,32,33,34,35,36,37,38,39,40,41,42,43,44] (fun(i:Nat)=>i<=p.pending.length) (fun(i:Nat)=>p.pending.length - i) (0) (by simp <;> rfl) ?_ ?_ ?_
  .simp [aNf]
  .simp
  rintro i hi;simp only [aM,aK];have hkl:=Pr p.pending k.ID ((q:Int)+1) i;refine zk [2,3,4,5,7,9,10,11,12,17,18,19] ?_;refine zr ⟨[5,36],[],[],[],[]⟩ fun _ _ Z=>?_;simp(disch:=omega)[fX,aC,aB,hget];apply Z;apply aF;refine zI ?_ ?_<;>intro c2<;>try simp at c2
  .apply kL;refine zk [2,3,4,5,7,9,10,11,12,17,18,19] ?_;refine zr ⟨[5,36],[],[],[],[]⟩ fun _ _ Z=>?_;simp(disch:=omega)[fX,aC,aB,hget];and_intros<;>(try omega);apply Z;refine zk [2,3,4,5,7,9,10,11,12,17,18,19] ?_;refine oL ⟨[5,36],[],[],[],[]⟩ fun all hall _ Z=>?_;have ga6:aQ all 6=some 29:=hall 6;refine zs 7 fun _ Y=>?_;simp(disch:=omega)[fX,aC,aB,ga6,hget];apply Y;refine zb 29 ?_ ?_<;>intro g3<;>try simp at g3
   .simp(disch:=omega)[fX,aC,aB,ga6,hget];apply Z;refine zI ?_ ?_<;>intro c4<;>try simp at c4
    .have hny:=aF5 c2 g3 c4;refine zk [2,3,4,5,7,9,10,11,12,17,18,19] ?_;refine zt ⟨[5,36],[],[],[],[]⟩ fun _ _ Z=>?_;refine zs 8 fun _ Y=>?_;simp(disch:=omega)[fX,aC,aB,hget];and_intros<;>(try omega);apply Y;simp(disch:=omega)[fX,aC,aB,hget];apply Z;apply zB;refine zk [2,3,4,5,7,9,10,11,12,17,18,19] ?_;refine zt ⟨[5,36],[],[],[],[]⟩ fun _ _ Z=>?_;simp(disch:=omega)[fX,aC,aB,hget];and_intros<;>(try omega);apply Z;refine zq (i+1) ?_ ?_ ?_
     .omega
     .try dsimp only
      omega
     simp(disch:=omega)[fX,aC,aB,hny,hget]
    have hny:=Wl (p:=p.pending) (id:=k.ID) (kd:=(q:Int)+1) c2 fun h=>c4 h.2;apply lP;refine zk [2,3,4,5,7,9,10,11,12,17,18,19] ?_;refine zt ⟨[5,36],[],[],[],[]⟩ fun _ _ Z=>?_;simp(disch:=omega)[fX,aC,aB,hget];and_intros<;>(try omega);apply Z;refine zq (i+1) ?_ ?_ ?_
    .omega
    .try dsimp only
     omega
    simp(disch:=omega)[fX,aC,aB,hny,hget]
   have hny:=Wl (p:=p.pending) (id:=k.ID) (kd:=(q:Int)+1) c2 fun h=>g3 h.1;simp(disch:=omega)[fX,aC,aB,ga6,hget];apply Z;refine aY (t:=false) (by simp) (fun h=>by cases h) (fun _=>?_);apply lP;refine zk [2,3,4,5,7,9,10,11,12,17,18,19] ?_;refine zt ⟨[5,36],[],[],[],[]⟩ fun _ _ Z=>?_;simp(disch:=omega)[fX,aC,aB,hget];and_intros<;>(try omega);apply Z;refine zq (i+1) ?_ ?_ ?_
   .omega
   .try dsimp only
    omega
   simp(disch:=omega)[fX,aC,aB,hny,hget]
  obtain rfl:i=p.pending.length:=by omega
  have hnx:=uP p.pending k.ID q;apply tT;apply uK;apply Ef;apply rF;apply zB;refine zk [2,3,4,5,7,9,10,11,12] ?_;refine zt ⟨[5,36],[],[],[],[]⟩ fun _ _ Z=>?_;simp(disch:=omega)[fX,aC,aB,hget];and_intros<;>(try omega);apply Z;refine zq (q+1) ?_ ?_ ?_
  .omega
  .try dsimp only
   omega
  simp(disch:=omega)[fX,aC,aB,hnx,hget]
 obtain rfl:q=2:=by omega
 apply zE;refine zr ⟨[5,36],[],[],[],[]⟩ fun _ _ Z=>?_;refine zs 3 fun _ Y=>?_;simp(disch:=omega)[fX,aC,aB];apply Y;refine aG fun _ Y=>?_;simp(disch:=omega)[fX,aC,aB];refine dX (aDr k.look _) ?_;apply Y;refine aG fun _ Y=>?_;simp(disch:=omega)[fX,aC,aB];refine dX (aNq (Ff p.pending k.ID 2) (jA k.look) _ (by omega) (by have:=Tw k.look;omega)) ?_;apply Y;simp(disch:=omega)[fX,aC,aB];apply Z;apply aE;simp [aP,Nm]
end Go.Proofs.YtbdjepeabjangaaGreat
