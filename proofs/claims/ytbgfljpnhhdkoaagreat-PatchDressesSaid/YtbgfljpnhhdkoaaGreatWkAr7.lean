import Derived.Test.YtbgfljpnhhdkoaaGreatWkAr6
set_option maxRecDepth 20000
set_option linter.all false
set_option maxHeartbeats 8000000
open Go.Proofs.Tryz
namespace Go.Proofs.YtbgfljpnhhdkoaaGreat
open Go Go.Vm
structure ND where
 ID:Int
 kind:Int
 tag:ByteArray
 text:ByteArray
 classes:(List ByteArray)
 attrs:(List AT)
 styles:(List PI)
 parent:Int
 kids:(List Int)
 deriving DecidableEq
@[simp] abbrev xE(s:ND):D:= .agg [.v (.int .i64 s.ID),.v (.int .i64 s.kind),.v (.string s.tag),.v (.string s.text),.sl false (s.classes.map D.str),.sl false (s.attrs.map dU),.sl false (s.styles.map cM),.v (.int .i64 s.parent),.sl false (s.kids.map D.int)]
@[simp] abbrev aWo(s:ND):D:= .agg [.v (.int .i64 s.ID),.v (.int .i64 s.kind),.v (.string s.tag),.v (.string s.text),.sl true (s.classes.map D.str),.sl true (s.attrs.map dU),.sl true (s.styles.map cM),.v (.int .i64 s.parent),.sl true (s.kids.map D.int)]
structure RD where
 most:Int
 next:Int
 l:(List ND)
 deriving DecidableEq
@[simp] abbrev gB(s:RD):D:= .agg [.v (.int .i64 s.most),.v (.int .i64 s.next),.sl false (s.l.map xE)]
@[simp] abbrev bAm(s:RD):D:= .agg [.v (.int .i64 s.most),.v (.int .i64 s.next),.sl true (s.l.map xE)]
def Ud:ND:=⟨0,0,⟨#[]⟩,⟨#[]⟩, [], [], [],0, []⟩
def mF(l:List ND)(id:Int):Option ND:=l.find? fun n=>decide (n.ID=id)
def aG(l:List ND)(id:Int):ND:=(mF l id).getD Ud
def eN(l:List ND)(id:Int):Bool:=(mF l id).isSome
def fI(l:List ND)(n:ND):List ND:=l.map fun x=>if x.ID=n.ID then n else x
theorem aLm {l:List ND} {id:Int} {k:Nat} (h:k<l.length)(hh:∀n∈l.take k,decide (n.ID=id)=false)(e:l[k].ID=id):mF l id=some l[k]:=by
 unfold mF;rw [Qq];refine⟨by simpa using e,k,h,rfl,fun j hj=>?_⟩;have:=hh (l[j]'(by omega)) (by rw [Fe];exact⟨j,by omega,rfl⟩);simpa using this
theorem Zf {l:List ND} {id:Int} (hh:∀n∈l,decide (n.ID=id)=false):mF l id=none:=by
 unfold mF;rw [qC];intro n hn;simpa using hh n hn
structure NB(l:List ND):Prop where
 len:l.length<=1000
 kids:∀n∈l,n.kids.length<=1000
 cls:∀n∈l,n.classes.length<=1000
 ats:∀n∈l,n.attrs.length<=1000
 sts:∀n∈l,n.styles.length<=1000
theorem oQ {l:List ND} {id:Int} {n:ND} (h:mF l id=some n):n∈l/\n.ID=id:=by
 unfold mF at h;exact⟨Hc h,by simpa using List.find?_some h⟩
theorem NB.fk {l:List ND} (h:NB l)(id:Int):(aG l id).kids.length<=1000:=by
 unfold aG;cases e:mF l id with
 | none=>simp [Ud]
 | some n=>exact h.kids n (oQ e).1
theorem NB.fc {l:List ND} (h:NB l)(id:Int):(aG l id).classes.length<=1000:=by
 unfold aG;cases e:mF l id with
 | none=>simp [Ud]
 | some n=>exact h.cls n (oQ e).1
theorem NB.fa {l:List ND} (h:NB l)(id:Int):(aG l id).attrs.length<=1000:=by
 unfold aG;cases e:mF l id with
 | none=>simp [Ud]
 | some n=>exact h.ats n (oQ e).1
theorem NB.fs {l:List ND} (h:NB l)(id:Int):(aG l id).styles.length<=1000:=by
 unfold aG;cases e:mF l id with
 | none=>simp [Ud]
 | some n=>exact h.sts n (oQ e).1
theorem Qb(l:List ND)(n:ND)(k:Nat)(h:k<l.length):fI (l.take (k+1)) n=fI (l.take k) n++ [if l[k].ID=n.ID then n else l[k]]:=by
 unfold fI;rw [bK l k h,dK];rfl
theorem Vi(l:List ND)(n:ND):(fI l n).length=l.length:=by simp [fI]
def aA3(l:List ND)(id:Int):D:=if eN l id=true then xE (aG l id)else aWo Ud
theorem aNm(x:RD)(id:Int)(σ:List (List D))(hx:NB x.l):Ct prog 21 [gB x,D.int id] σ (fun r σ'=>r= .tup [aA3 x.l id,.bool (eN x.l id)]/\σ'=σ):=by
 refine zf func21 ?_;have hxl:=hx.len;refine bE fun _ _ Z=>?_;simp(disch:=omega);apply Z;apply aF;refine bE fun _ _ Z=>?_;simp(disch:=omega);and_intros<;>(try omega);apply Z;apply aS;refine zk [1,4,5,9,10,11] ?_;refine aZ (fun(k:Nat)=> [(11,.d (.v (.int .i64 (k:Int))))]) [5,7,11,12,13,14,15,16,17,18,19,20] (fun(k:Nat)=>k<=x.l.length/\∀n∈x.l.take k,decide (n.ID=id)=false) (fun(k:Nat)=>x.l.length - k) (0) (by simp <;> rfl) ?_ ?_ ?_
 .simp
 .simp
 rintro k ⟨hk,hh⟩;simp only [aP,aN];refine bE fun _ _ Z=>?_;simp(disch:=omega);apply Z;apply aF;refine zI ?_ ?_<;>intro c1<;>try simp at c1
 .apply kR;refine bE fun _ _ Z=>?_;simp(disch:=omega);and_intros<;>(try omega);apply Z;refine bE fun _ _ Z=>?_;simp(disch:=omega);apply Z;refine zI ?_ ?_<;>intro c2<;>try simp at c2
  .refine zk [1,4,7,9,10,11] ?_;refine bE fun _ _ Z=>?_;simp(disch:=omega);apply Z;apply aD;have hf:=aLm c1 hh c2;simp [aK,aA3,aG,eN,hf]
  apply mM;refine zk [1,4,9,10,11] ?_;refine rB fun _ _ Z=>?_;simp(disch:=omega);and_intros<;>(try omega);apply Z;refine zq (k+1) ?_ ?_ ?_
  .exact⟨by omega,oF (by omega) hh (by simpa using c2)⟩
  .try dsimp only
   omega
  simp(disch:=omega)
 apply zE;refine bE fun _ _ Z=>?_;simp(disch:=omega);apply Z;apply aD;rw [bL (by omega)] at hh;have hf:=Zf hh;simp [aK,aA3,aG,eN,hf,Ud]
theorem lD(x:RD)(id:Int)(σ:List (List D))(hx:NB x.l):Ct prog 21 [gB x,D.int id] σ (fun r σ'=>r= .tup [xE (aG x.l id),.bool (eN x.l id)]/\σ'=σ):=
 (aNm x id σ hx).strip fun r σ' ⟨hr,hs⟩=>by
  subst hr;have hd:(eN x.l id=true->aG x.l id=aG x.l id):=fun _=>rfl;by_cases e:eN x.l id=true
  .refine⟨by simp [aA3,e,D.plain],?_,hs⟩;simp [aA3,e,D.strip,D.s2,D.s1]
  have hz:aG x.l id=Ud:=by
   unfold aG;unfold eN at e;cases hq:mF x.l id with
   | none=>rfl
   | some n=>rw [hq] at e;exact absurd rfl e
  refine⟨by simp [aA3,e,D.plain],?_,hs⟩;simp [aA3,e,D.strip,D.s2,D.s1,hz,Ud]
theorem oJ(x:RD)(n:ND)(σ:List (List D))(hx:NB x.l):Ct prog 79 [gB x,xE n] σ (fun r σ'=>r=gB ⟨x.most,x.next,fI x.l n⟩/\σ'=σ):=by
 refine zf func79 ?_;have hxl:=hx.len;refine zr ⟨[5,22],[],[],[],[]⟩ fun _ _ Z=>?_;simp(disch:=omega);apply Z;refine zr ⟨[5,22],[],[],[],[]⟩ fun _ _ Z=>?_;simp(disch:=omega);and_intros<;>(try omega);apply Z;apply aF;refine zr ⟨[5,22],[],[],[],[]⟩ fun _ _ Z=>?_;simp(disch:=omega);and_intros<;>(try omega);apply Z;apply aS;refine zk [2,3,4,5,10,11,12] ?_;refine aZ (fun(k:Nat)=> [(12,.d (.v (.int .i64 (k:Int)))),(5,.d (.sl true ((fI (x.l.take k) n).map xE)))]) [5,7,12,13,14,15,16,17,18,19,20,21,22,23,24,25,26] (fun(k:Nat)=>k<=x.l.length) (fun(k:Nat)=>x.l.length - k) (0) (by simp <;> rfl) ?_ ?_ ?_
 .simp [fI]
 .simp
 rintro k hk;simp only [aP,aN];have hpl:=Vi (x.l.take k) n;simp only [bF] at hpl;refine zr ⟨[5,22],[],[],[],[]⟩ fun _ _ Z=>?_;simp(disch:=omega);apply Z;apply aF;refine zI ?_ ?_<;>intro c1<;>try simp at c1
 .apply kR;refine zr ⟨[5,22],[],[],[],[]⟩ fun _ _ Z=>?_;simp(disch:=omega);and_intros<;>(try omega);apply Z;apply aF;refine zr ⟨[5,22],[],[],[],[]⟩ fun _ _ Z=>?_;simp(disch:=omega);apply Z;refine zI ?_ ?_<;>intro c2<;>try simp at c2
  .refine zk [2,3,4,5,7,10,11,12] ?_;refine zt ⟨[5,22],[],[],[],[]⟩ fun _ _ Z=>?_;simp(disch:=omega);apply Z;apply gI;refine zt ⟨[5,22],[],[],[],[]⟩ fun _ _ Z=>?_;simp(disch:=omega);and_intros<;>(try omega);apply Z;apply zB;refine zk [2,3,4,5,10,11,12] ?_;refine zt ⟨[5,22],[],[],[],[]⟩ fun _ _ Z=>?_;simp(disch:=omega);and_intros<;>(try omega);apply Z;refine zq (k+1) ?_ ?_ ?_
   .omega
   .try dsimp only
    omega
   simp(disch:=omega)[Qb, *]
  apply zA;refine zk [2,3,4,5,7,10,11,12] ?_;refine zt ⟨[5,22],[],[],[],[]⟩ fun _ _ Z=>?_;simp(disch:=omega);and_intros<;>(try omega);apply Z;apply zB;refine zk [2,3,4,5,10,11,12] ?_;refine zt ⟨[5,22],[],[],[],[]⟩ fun _ _ Z=>?_;simp(disch:=omega);and_intros<;>(try omega);apply Z;refine zq (k+1) ?_ ?_ ?_
  .omega
  .try dsimp only
   omega
  simp(disch:=omega)[Qb, *]
 apply zE;refine zr ⟨[5,22],[],[],[],[]⟩ fun _ _ Z=>?_;simp(disch:=omega);apply Z;refine zr ⟨[5,22],[],[],[],[]⟩ fun _ _ Z=>?_;simp(disch:=omega);apply Z;apply aD;simp [aK];rw [bL (by omega)]
structure Tr(l:List ND)(bel:Int->List Int)(rk:Int->Nat):Prop where
 eq:∀id,bel id=id::(aG l id).kids.flatMap bel
 dec:∀id,∀k∈(aG l id).kids,rk k<rk id
 len:∀id,(bel id).length<=10000
theorem Rv(bel:Int->List Int)(K:List Int)(k:Nat)(h:k<K.length):(K.take (k+1)).flatMap bel=(K.take k).flatMap bel++bel K[k]:=by
 rw [bK K k h,iB];simp
theorem Ib(bel:Int->List Int)(K:List Int)(k:Nat):((K.take k).flatMap bel).length<=(K.flatMap bel).length:=by
 conv=>rhs;rw [<- fP k K,iB,bB]
 omega
theorem Tr.fl {l:List ND} {bel:Int->List Int} {rk:Int->Nat} (h:Tr l bel rk)(id:Int):((aG l id).kids.flatMap bel).length+1<=10000:=by
 have:=h.len id;rw [h.eq id] at this;simpa using this
@[simp] abbrev q37_1:Cfg:=⟨[4,7,25,31],[],[],[],[]⟩
theorem Pt(x:RD)(id:Int)(bel:Int->List Int)(rk:Int->Nat)(σ:List (List D))(hx:NB x.l)(ht:Tr x.l bel rk)(ih:∀k∈(aG x.l id).kids,∀σ,Ct prog 85 [gB x,D.int k] σ (fun r σ'=>r= .sl true ((bel k).map D.int)/\σ'=σ)):Ct prog 85 [gB x,D.int id] σ (fun r σ'=>r= .sl true ((bel id).map D.int)/\σ'=σ):=by
 refine zf func85 ?_;have hk:=hx.fk id;have hfl:=ht.fl id;refine zr q37_1 fun _ _ Z=>?_;simp(disch:=omega);and_intros<;>(try omega)
 all_goals first | (intro a x1 x2 _ _ h;subst h;rfl) | skip
 apply Z;refine zr q37_1 fun _ _ Z=>?_;refine zs 2 fun _ Y=>?_;simp(disch:=omega);and_intros<;>(try omega)
 all_goals first | (intro a x1 x2 _ _ h;subst h;rfl) | skip
 apply Y;refine aE fun _ Y=>?_;simp(disch:=omega);refine cB (lD x id _ hx) ?_;apply Y;simp(disch:=omega);and_intros<;>(try omega)
 all_goals first | (intro a x1 x2 _ _ h;subst h;rfl) | skip
 apply Z;refine zr q37_1 fun _ _ Z=>?_;simp(disch:=omega);and_intros<;>(try omega)
 all_goals first | (intro a x1 x2 _ _ h;subst h;rfl) | skip
 apply Z;apply aF;refine zk [2,4,5,7] ?_;refine zr q37_1 fun _ _ Z=>?_;simp(disch:=omega);and_intros<;>(try omega)
 all_goals first | (intro a x1 x2 _ _ h;subst h;rfl) | skip
 apply Z;apply aS;refine zk [2,4,7,19,20,21] ?_;refine aZ (fun(k:Nat)=> [(21,.d (.v (.int .i64 (k:Int)))),(7,.d (.sl true ((id::((aG x.l id).kids.take k).flatMap bel).map D.int))),(9,.d (.any))]) [7,9,21,22,23,24,25,26,27,28,29,30] (fun(k:Nat)=>k<=(aG x.l id).kids.length) (fun(k:Nat)=>(aG x.l id).kids.length - k) (0) (by simp <;> rfl) ?_ ?_ ?_
 .simp
 .simp
 rintro k hk2;simp only [aP,aN];have hfl2:=Ib bel (aG x.l id).kids k;simp only [List.length_flatMap,vQ] at hfl2 hfl;refine zr q37_1 fun _ _ Z=>?_;simp(disch:=omega);and_intros<;>(try omega)
 all_goals first | (intro a x1 x2 _ _ h;subst h;rfl) | skip
 apply Z;apply aF;refine zI ?_ ?_<;>intro c1<;>try simp at c1
 .have hkk:k<(aG x.l id).kids.length:=by omega
  have hl28:=ht.len ((aG x.l id).kids[k]);apply kR;refine zr q37_1 fun _ _ Z=>?_;simp(disch:=omega);and_intros<;>(try omega)
  all_goals first | (intro a x1 x2 _ _ h;subst h;rfl) | skip
  apply Z;refine zt q37_1 fun _ _ Z=>?_;refine zs 3 fun _ Y=>?_;simp(disch:=omega);and_intros<;>(try omega)
  all_goals first | (intro a x1 x2 _ _ h;subst h;rfl) | skip
  apply Y;refine aE fun _ Y=>?_;simp(disch:=omega);refine cB (ih _ (cN hkk) _) ?_;apply Y;simp(disch:=omega);and_intros<;>(try omega)
  all_goals first | (intro a x1 x2 _ _ h;subst h;rfl) | skip
  apply Z;apply zB;refine zk [2,4,7,9,19,20,21] ?_;refine zt q37_1 fun _ _ Z=>?_;simp(disch:=omega);and_intros<;>(try omega)
  all_goals first | (intro a x1 x2 _ _ h;subst h;rfl) | skip
  apply Z;refine zq (k+1) ?_ ?_ ?_
  .omega
  .try dsimp only
   omega
  simp(disch:=omega)[Rv]
 apply zE;refine zr q37_1 fun _ _ Z=>?_;simp(disch:=omega);and_intros<;>(try omega)
 all_goals first | (intro a x1 x2 _ _ h;subst h;rfl) | skip
 apply Z;apply aD;simp [aK];rw [ht.eq id,bL (by omega)];simp
theorem Cm(x:RD)(id:Int)(bel:Int->List Int)(rk:Int->Nat)(σ:List (List D))(hx:NB x.l)(ht:Tr x.l bel rk):Ct prog 85 [gB x,D.int id] σ (fun r σ'=>r= .sl true ((bel id).map D.int)/\σ'=σ):=by
 have key:∀(m:Nat) (id:Int) (σ:List (List D)),rk id<=m->Ct prog 85 [gB x,D.int id] σ (fun r σ'=>r= .sl true ((bel id).map D.int)/\σ'=σ):=by
  intro m;induction m with
  | zero=>exact fun id σ h=>Pt x id bel rk σ hx ht fun k hk=>absurd (ht.dec id k hk) (by omega)
  | succ m ih=>exact fun id σ h=>Pt x id bel rk σ hx ht fun k hk τ=>ih k τ (by have:=ht.dec id k hk;omega)
 exact key (rk id) id σ (aV _)
def oB(l:List ND)(bel:Int->List Int)(id of_:Int):Bool:=eN l id && eN l of_ && (bel of_).any fun k=>decide (k=id)
def Bu(l:List ND)(id:Int):Int:=if eN l id=true/\0<=(aG l id).parent then Lb id (aG l (aG l id).parent).kids else -1
theorem aA4(x:RD)(id of_:Int)(bel:Int->List Int)(rk:Int->Nat)(σ:List (List D))(hx:NB x.l)(ht:Tr x.l bel rk):Ct prog 69 [gB x,D.int id,D.int of_] σ (fun r σ'=>r= .bool (oB x.l bel id of_)/\σ'=σ):=by
 refine zf func69 ?_;have hbl:=ht.len of_;refine bE fun _ _ Z=>?_;simp(disch:=omega);apply Z;refine bE fun _ _ Z=>?_;refine zs 2 fun _ Y=>?_;simp(disch:=omega);apply Y;refine aE fun _ Y=>?_;simp(disch:=omega);refine cB (lD x id _ hx) ?_;apply Y;simp(disch:=omega);apply Z;refine bE fun _ _ Z=>?_;refine zs 2 fun _ Y=>?_;simp(disch:=omega);apply Y;refine aE fun _ Y=>?_;simp(disch:=omega);refine cB (lD x of_ _ hx) ?_;apply Y;simp(disch:=omega);apply Z;apply aF;refine zk [1,2,3,6,8,10] ?_;refine pB ⟨[],[],[],[],[]⟩ fun all hall _ Z=>?_;have ga2:aT all 2=some 27:=hall 2;refine zs 3 fun _ Y=>?_;simp(disch:=omega)[ga2];apply Y;refine zb 27 ?_ ?_<;>intro g1<;>try simp at g1
 .simp(disch:=omega)[ga2];apply Z;refine bS (t:=true) (by simp) (fun _=>?_) (fun h=>by cases h);refine zk [1,2,3,6] ?_;refine bE fun _ _ Z=>?_;simp(disch:=omega);apply Z;apply aD;simp [aK,oB, *]
 simp(disch:=omega)[ga2];apply Z;refine zI ?_ ?_<;>intro c2<;>try simp at c2
 .refine zk [1,2,3,6] ?_;refine bE fun _ _ Z=>?_;simp(disch:=omega);apply Z;apply aD;simp [aK,oB, *]
 apply zA;apply aF;refine zk [1,2,3,6] ?_;refine bE fun _ _ Z=>?_;refine zs 2 fun _ Y=>?_;simp(disch:=omega);apply Y;refine aE fun _ Y=>?_;simp(disch:=omega);refine cB (Cm x of_ bel rk _ hx ht) ?_;apply Y;simp(disch:=omega);and_intros<;>(try omega);apply Z;apply aS;refine zk [1,6,33,34,35] ?_;refine aZ (fun(k:Nat)=> [(35,.d (.v (.int .i64 (k:Int)))),(12,.d (.any))]) [6,12,35,36,37,38,39,40,41,42] (fun(k:Nat)=>k<=(bel of_).length/\∀y∈(bel of_).take k,decide (y=id)=false) (fun(k:Nat)=>(bel of_).length - k) (0) (by simp <;> rfl) ?_ ?_ ?_
 .simp
 .simp
 rintro k ⟨hk,hh⟩;simp only [aP,aN];refine bE fun _ _ Z=>?_;simp(disch:=omega);apply Z;apply aF;refine zI ?_ ?_<;>intro c3<;>try simp at c3
 .apply kR;refine bE fun _ _ Z=>?_;simp(disch:=omega);and_intros<;>(try omega);apply Z;refine bE fun _ _ Z=>?_;simp(disch:=omega);apply Z;refine zI ?_ ?_<;>intro c4<;>try simp at c4
  .refine zk [1,12,33,34,35] ?_;refine bE fun _ _ Z=>?_;simp(disch:=omega);apply Z;apply aD;simp [aK];unfold oB;rw [g1,c2,lP,lP,lU];exact⟨_,cN c3,by simpa using c4⟩
  apply mM;refine zk [1,12,33,34,35] ?_;refine rB fun _ _ Z=>?_;simp(disch:=omega);and_intros<;>(try omega);apply Z;refine zq (k+1) ?_ ?_ ?_
  .exact⟨by omega,oF (by omega) hh (by simpa using c4)⟩
  .try dsimp only
   omega
  simp(disch:=omega)
 apply zE;refine bE fun _ _ Z=>?_;simp(disch:=omega);apply Z;apply aD;simp [aK];rw [bL (by omega)] at hh;unfold oB;rw [g1,c2,lP,lP,oX];exact fun y hy=>by simpa using hh y hy
theorem Ra(x:RD)(id:Int)(σ:List (List D))(hx:NB x.l):Ct prog 88 [gB x,D.int id] σ (fun r σ'=>r= .int (Bu x.l id)/\σ'=σ):=by
 refine zf func88 ?_;have hk:=hx.fk (aG x.l id).parent;refine bE fun _ _ Z=>?_;simp(disch:=omega);apply Z;refine bE fun _ _ Z=>?_;refine zs 2 fun _ Y=>?_;simp(disch:=omega);apply Y;refine aE fun _ Y=>?_;simp(disch:=omega);refine cB (lD x id _ hx) ?_;apply Y;simp(disch:=omega);apply Z;apply aF;refine pB ⟨[],[],[],[],[]⟩ fun all hall _ Z=>?_;have ga2:aT all 2=some 19:=hall 2;refine zs 3 fun _ Y=>?_;simp(disch:=omega)[ga2];apply Y;refine zb 19 ?_ ?_<;>intro g1<;>try simp at g1
 .simp(disch:=omega)[ga2];apply Z;refine bS (t:=true) (by simp) (fun _=>?_) (fun h=>by cases h);refine zk [1,2,4,5] ?_;refine bE fun _ _ Z=>?_;simp(disch:=omega);apply Z;apply aD;simp [aK,Bu, *]
 simp(disch:=omega)[ga2];apply Z;refine zI ?_ ?_<;>intro c2<;>try simp at c2
 .refine zk [1,2,4,5] ?_;refine bE fun _ _ Z=>?_;simp(disch:=omega);apply Z;apply aD;simp [aK];unfold Bu;rw [aC (by rintro⟨_,h⟩;omega)]
 apply zA;refine zk [1,2,4,5] ?_;refine bE fun _ _ Z=>?_;refine zs 3 fun _ Y=>?_;simp(disch:=omega);apply Y;refine aE fun _ Y=>?_;simp(disch:=omega);refine cB (lD x (aG x.l id).parent _ hx) ?_;apply Y;simp(disch:=omega);apply Z;apply aF;refine zk [1,4,7] ?_;refine bE fun _ _ Z=>?_;simp(disch:=omega);and_intros<;>(try omega);apply Z;apply aS;refine zk [1,4,32,33,34] ?_;refine aZ (fun(k:Nat)=> [(34,.d (.v (.int .i64 (k:Int)))),(9,.d (.any)),(10,.d (.any))]) [4,9,10,34,35,36,37,38,39,40,41,42,43] (fun(k:Nat)=>k<=(aG x.l (aG x.l id).parent).kids.length/\∀y∈(aG x.l (aG x.l id).parent).kids.take k,decide (y=id)=false) (fun(k:Nat)=>(aG x.l (aG x.l id).parent).kids.length - k) (0) (by simp <;> rfl) ?_ ?_ ?_
 .simp
 .simp
 rintro k ⟨hk2,hh⟩;simp only [aP,aN];refine bE fun _ _ Z=>?_;simp(disch:=omega);apply Z;apply aF;refine zI ?_ ?_<;>intro c3<;>try simp at c3
 .apply kR;refine bE fun _ _ Z=>?_;simp(disch:=omega);and_intros<;>(try omega);apply Z;refine zk [1,9,10,32,33,34] ?_;refine bE fun _ _ Z=>?_;simp(disch:=omega);apply Z;refine zI ?_ ?_<;>intro c4<;>try simp at c4
  .refine bE fun _ _ Z=>?_;simp(disch:=omega);apply Z;apply aD;simp [aK];unfold Bu;rw [aI ⟨g1,by omega⟩];exact(tZ c3 hh (by simpa using c4)).symm
  apply mM;refine rB fun _ _ Z=>?_;simp(disch:=omega);and_intros<;>(try omega);apply Z;refine zq (k+1) ?_ ?_ ?_
  .exact⟨by omega,oF (by omega) hh (by simpa using c4)⟩
  .try dsimp only
   omega
  simp(disch:=omega)
 apply zE;refine bE fun _ _ Z=>?_;simp(disch:=omega);apply Z;apply aD;simp [aK];rw [bL (by omega)] at hh;unfold Bu;rw [aI ⟨g1,by omega⟩];exact(qQ hh).symm
def oE(id kind:Int)(s:ByteArray):ND:=⟨id,kind,if kind=2 then s else⟨#[]⟩,if kind=2 then⟨#[]⟩else s, [], [], [], -1, []⟩
def addX(x:RD)(kind:Int)(s:ByteArray):RD×Int×Int:=if kind=2/\fF s=false then(x,0,2)else if x.most<(x.l.length:Int)then(x,0,8)else(⟨x.most,x.next+1,x.l++ [oE x.next kind s]⟩,x.next,0)
def pF:ND:=⟨0,2,⟨#[114,111,111,116]⟩,⟨#[]⟩, [], [], [], -1, []⟩
def newX(most:Int):RD:=⟨max 1 (min most 65536),1, [pF]⟩
theorem aQj(most:Int)(σ:List (List D))  :Ct prog 59 [D.int most] σ (fun r σ'=>r=gB (newX most)/\σ'=σ):=by
 refine zf func59 ?_;refine bE fun _ _ Z=>?_;simp;apply Z;refine bE fun _ _ Z=>?_;simp;and_intros<;>(try omega);apply Z;apply aD;simp [aK,newX,pF]
theorem aSg(N:Nat)(x:AT):Sc N (dU x):=Sc.agg fun d hd=>by
 simp only [bU,fJ,fU] at hd;rcases hd with rfl | rfl <;> exact Sc.v _
theorem aSk(N:Nat)(x:PI):Sc N (cM x):=Sc.agg fun d hd=>by
 simp only [bU,fJ,fU] at hd;rcases hd with rfl | rfl <;> exact Sc.v _
theorem aL3(N:Nat)(x:ND):Sc N (xE x):=Sc.agg fun d hd=>by
 simp only [bU,fJ,fU] at hd;rcases hd with rfl | rfl | rfl | rfl | rfl | rfl | rfl | rfl | rfl
 .exact Sc.v _
 .exact Sc.v _
 .exact Sc.v _
 .exact Sc.v _
 .exact Sc.sl (Sc.map fun a=>Sc.v _)
 .exact Sc.sl (Sc.map fun a=>aSg _ a)
 .exact Sc.sl (Sc.map fun a=>aSk _ a)
 .exact Sc.v _
 exact Sc.sl (Sc.map fun a=>Sc.v _)
theorem aWb(N:Nat)(x:RD):Sc N (gB x):=Sc.agg fun d hd=>by
 simp only [bU,fJ,fU] at hd;rcases hd with rfl | rfl | rfl
 .exact Sc.v _
 .exact Sc.v _
 exact Sc.sl (Sc.map fun a=>aL3 _ a)
theorem Tq {N:Nat} {a b:D} (h1:Sc N a)(h2:Sc N b):Sc N (.tup [a,b]):=Sc.tup fun d hd=>by
 simp only [bU,fJ,fU] at hd;rcases hd with rfl | rfl <;> assumption
theorem aQq {N:Nat} {a b c:D} (h1:Sc N a)(h2:Sc N b)(h3:Sc N c):Sc N (.tup [a,b,c]):=Sc.tup fun d hd=>by
 simp only [bU,fJ,fU] at hd;rcases hd with rfl | rfl | rfl <;> assumption
theorem aIi(x:RD)(kind:Int)(s:ByteArray)(σ:List (List D))(hx:NB x.l)(hn:0<=x.next/\x.next<=1000000)(hs:s.size<=1000):Ct prog 134 [gB x,D.int kind,D.str s] σ (fun r σ'=>r= .tup [gB (addX x kind s).1,D.int (addX x kind s).2.1,D.int (addX x kind s).2.2]/\∃J,σ'=σ++J):=by
 refine zf func134 ?_;have hxl:=hx.len;refine zr ⟨[],[],[9],[],[]⟩ fun _ _ Z=>?_;simp[aB,aA,aY,aR,aL,aJ];apply Z;apply aF;refine pB ⟨[],[],[9],[],[]⟩ fun all hall _ Z=>?_;have ga2:aT all 2=some 12:=hall 2;refine zs 3 fun _ Y=>?_;simp[aB,aA,aY,aR,aL,aJ,ga2];apply Y;refine zb 12 ?_ ?_<;>intro g1<;>try simp at g1
 .refine zs 1 fun _ Y=>?_;simp[aB,aA,aY,aR,aL,aJ,ga2];apply Y;refine zg ga2 fun _ Y=>?_;simp[aB,aA,aY,aR,aL,aJ,ga2];refine cB (Ku s _ (by omega)) ?_;apply Y;simp[aB,aA,aY,aR,aL,aJ,ga2];apply Z;refine zI ?_ ?_<;>intro c2<;>try simp at c2
  .refine zr ⟨[],[],[9],[],[]⟩ fun _ _ Z=>?_;simp[aB,aA,aY,aR,aL,aJ];apply Z;apply aD;first | (simp [aK,addX,oE, *];done) | (have h3:¬x.most<(x.l.length:Int):=(by omega);simp [aK,addX,oE, *])
  apply zA;apply aF;refine zr ⟨[],[],[9],[],[]⟩ fun _ _ Z=>?_;simp[aB,aA,aY,aR,aL,aJ];and_intros<;>(try omega);apply Z;refine zI ?_ ?_<;>intro c3<;>try simp at c3
  .refine zk [1,2,3,6,7,8] ?_;refine zr ⟨[],[],[9],[],[]⟩ fun _ _ Z=>?_;simp[aB,aA,aY,aR,aL,aJ];apply Z;apply aD;first | (simp [aK,addX,oE, *];done) | (have h3:¬x.most<(x.l.length:Int):=(by omega);simp [aK,addX,oE, *])
  apply zA;refine zk [1,2,3,6,7,8] ?_;refine zr ⟨[],[],[9],[],[]⟩ fun _ _ Z=>?_;simp[aB,aA,aY,aR,aL,aJ];and_intros<;>(try omega);apply Z;apply aF;refine zr ⟨[],[],[9],[],[]⟩ fun _ _ Z=>?_;simp[aB,aA,aY,aR,aL,aJ];apply Z;refine zI ?_ ?_<;>intro c4<;>try simp at c4
  .refine zk [2,3,6,7,8,9] ?_;refine zt ⟨[],[],[9],[],[]⟩ fun _ _ Z=>?_;simp[aB,aA,aY,aR,aL,aJ];apply Z;apply gI;refine zd ⟨[],[],[9],[],[]⟩ [.op {},.op {},.op {rL:=true},.op {},.op {rO:=true},.op {},.op {},.op {},.op {rL:=true,wL:=true}] fun all hall _ Z=>?_;refine iU 8 fun _ Y=>?_;simp[aB,aA,aY,aR,aL,aJ];and_intros<;>(try omega);apply Y;simp[aB,aA,aY,aR,aL,aJ];apply Z;refine zk [3,6,7,8,9] ?_;refine zr ⟨[],[],[9],[],[]⟩ fun _ _ Z=>?_;simp[aB,aA,aY,aR,aL,aJ];and_intros<;>(try omega);apply Z;refine zd ⟨[],[],[9],[],[]⟩ [.op {rL:=true},.op {},.op {rO:=true},.op {rL:=true,wL:=true},.op {},.op {}] fun all hall _ Z=>?_;simp[aB,aA,aY,aR,aL,aJ];apply Z;apply aD;first | (simp [aK,addX,oE, *];done) | (have h3:¬x.most<(x.l.length:Int):=(by omega);simp [aK,addX,oE, *])
  exact absurd g1 c4
 simp[aB,aA,aY,aR,aL,aJ,ga2];apply Z;refine bS (t:=false) (by simp) (fun h=>by cases h) (fun _=>?_);apply zA;apply aF;refine zr ⟨[],[],[9],[],[]⟩ fun _ _ Z=>?_;simp[aB,aA,aY,aR,aL,aJ];and_intros<;>(try omega);apply Z;refine zI ?_ ?_<;>intro c5<;>try simp at c5
 .refine zk [1,2,3,6,7,8] ?_;refine zr ⟨[],[],[9],[],[]⟩ fun _ _ Z=>?_;simp[aB,aA,aY,aR,aL,aJ];apply Z;apply aD;first | (simp [aK,addX,oE, *];done) | (have h3:¬x.most<(x.l.length:Int):=(by omega);simp [aK,addX,oE, *])
 apply zA;refine zk [1,2,3,6,7,8] ?_;refine zr ⟨[],[],[9],[],[]⟩ fun _ _ Z=>?_;simp[aB,aA,aY,aR,aL,aJ];and_intros<;>(try omega);apply Z;apply aF;refine zr ⟨[],[],[9],[],[]⟩ fun _ _ Z=>?_;simp[aB,aA,aY,aR,aL,aJ];apply Z;refine zI ?_ ?_<;>intro c6<;>try simp at c6
 .exact absurd c6 g1
 refine zk [2,3,6,7,8,9] ?_;refine zt ⟨[],[],[9],[],[]⟩ fun _ _ Z=>?_;simp[aB,aA,aY,aR,aL,aJ];apply Z;apply gI;refine zd ⟨[],[],[9],[],[]⟩ [.op {},.op {},.op {rL:=true},.op {},.op {rO:=true},.op {},.op {},.op {},.op {rL:=true,wL:=true}] fun all hall _ Z=>?_;refine iU 8 fun _ Y=>?_;simp[aB,aA,aY,aR,aL,aJ];and_intros<;>(try omega);apply Y;simp[aB,aA,aY,aR,aL,aJ];apply Z;refine zk [3,6,7,8,9] ?_;refine zr ⟨[],[],[9],[],[]⟩ fun _ _ Z=>?_;simp[aB,aA,aY,aR,aL,aJ];and_intros<;>(try omega);apply Z;refine zd ⟨[],[],[9],[],[]⟩ [.op {rL:=true},.op {},.op {rO:=true},.op {rL:=true,wL:=true},.op {},.op {}] fun all hall _ Z=>?_;simp[aB,aA,aY,aR,aL,aJ];apply Z;apply aD;first | (simp [aK,addX,oE, *];done) | (have h3:¬x.most<(x.l.length:Int):=(by omega);simp [aK,addX,oE, *])
theorem Je(x:RD)(kind:Int)(s:ByteArray)(σ:List (List D))(hx:NB x.l)(hn:0<=x.next/\x.next<=1000000)(hs:s.size<=1000):Ct prog 134 [gB x,D.int kind,D.str s] σ (fun r σ'=>r= .tup [gB (addX x kind s).1,D.int (addX x kind s).2.1,D.int (addX x kind s).2.2]/\σ'=σ):=
 (aIi x kind s σ hx hn hs).trim fun r σ' ⟨hr,J,hs'⟩=>⟨σ,J,hs',rfl,by rw [hr];exact aQq (aWb _ _) (Sc.v _) (Sc.v _),fun n cs h=> .inl h,hr,rfl⟩
def insX(x:RD)(bel:Int->List Int)(p at_ id:Int):RD×Int:=
 if eN x.l p=false\/eN x.l id=false then(x,11)
 else if ¬(aG x.l p).kind=2 then(x,14)
 else if id=0\/0<=(aG x.l id).parent\/oB x.l bel p id=true\/at_<0\/((aG x.l p).kids.length:Int)<at_ then(x,1)
 else(⟨x.most,x.next,fI (fI x.l { aG x.l p with kids:=fV (aG x.l p).kids at_.toNat id }) { aG x.l id with parent:=p }⟩,0)
theorem NB.put {l:List ND} (h:NB l) {n:ND} (h1:n.kids.length<=1000)(h2:n.classes.length<=1000)(h3:n.attrs.length<=1000)(h4:n.styles.length<=1000):NB (fI l n):=by
 have key:∀m∈fI l n,m=n\/m∈l:=fun m hm=>by
  unfold fI at hm;obtain⟨x,hx,rfl⟩:=aX.1 hm;split
  .exact .inl rfl
  exact .inr hx
 refine⟨by rw [Vi];exact h.len,fun m hm=>?_,fun m hm=>?_,fun m hm=>?_,fun m hm=>?_⟩
 all_goals rcases key m hm with rfl | hm'
 .exact h1
 .exact h.kids m hm'
 .exact h2
 .exact h.cls m hm'
 .exact h3
 .exact h.ats m hm'
 .exact h4
 exact h.sts m hm'
theorem aC6(x:RD)(p at_ id:Int)(bel:Int->List Int)(rk:Int->Nat)(σ:List (List D))(hx:NB x.l)(ht:Tr x.l bel rk)(hkl:(aG x.l p).kids.length<=900):Ct prog 137 [gB x,D.int p,D.int at_,D.int id] σ (fun r σ'=>r= .tup [gB (insX x bel p at_ id).1,D.int (insX x bel p at_ id).2]/\σ'=σ):=by
 refine zf func137 ?_;refine bE fun _ _ Z=>?_;simp;apply Z;refine bE fun _ _ Z=>?_;refine zs 2 fun _ Y=>?_;simp;apply Y;refine aE fun _ Y=>?_;simp;refine cB (lD x p _ hx) ?_;apply Y;simp;apply Z;refine bE fun _ _ Z=>?_;refine zs 2 fun _ Y=>?_;simp;apply Y;refine aE fun _ Y=>?_;simp;refine cB (lD x id _ hx) ?_;apply Y;simp;apply Z;apply aF;refine zk [1,2,3,4,8,9,10,11,12,13] ?_;refine pB ⟨[],[],[],[],[]⟩ fun all hall _ Z=>?_;have ga2:aT all 2=some 28:=hall 2;refine zs 3 fun _ Y=>?_;simp[ga2];apply Y;refine zb 28 ?_ ?_<;>intro g1<;>try simp at g1
 .simp[ga2];apply Z;refine bS (t:=true) (by simp) (fun _=>?_) (fun h=>by cases h);refine zk [1,2,3,4,8,9,10,12] ?_;refine bE fun _ _ Z=>?_;simp;apply Z;apply aD;simp [aK,insX, *]
 simp[ga2];apply Z;refine zI ?_ ?_<;>intro c2<;>try simp at c2
 .refine zk [1,2,3,4,8,9,10,12] ?_;refine bE fun _ _ Z=>?_;simp;apply Z;apply aD;simp [aK,insX, *]
 apply zA;apply aF;refine zk [1,2,3,4,8,9,10,12] ?_;refine bE fun _ _ Z=>?_;simp;apply Z;refine zI ?_ ?_<;>intro c3<;>try simp at c3
 .refine bE fun _ _ Z=>?_;simp;apply Z;apply aD;simp [aK,insX, *]
 apply zA;apply aF;refine zk [1,2,3,4,8,9,10,12] ?_;refine pB ⟨[],[],[],[],[]⟩ fun all hall _ Z=>?_;have ga2:aT all 2=some 39:=hall 2;have ga7:aT all 7=some 44:=hall 7;have ga13:aT all 13=some 50:=hall 13;have ga17:aT all 17=some 54:=hall 17;refine zs 3 fun _ Y=>?_;simp[ga2,ga7,ga13,ga17];apply Y;refine zb 39 ?_ ?_<;>intro g4<;>try simp at g4
 .refine zs 5 fun _ Y=>?_;simp[ga2,ga7,ga13,ga17];apply Y;refine zs 6 fun _ Y=>?_;simp[ga2,ga7,ga13,ga17];apply Y;refine zs 4 fun _ Y=>?_;simp[ga2,ga7,ga13,ga17];apply Y;simp[ga2,ga7,ga13,ga17];apply Z;refine bS (t:=true) (by simp) (fun _=>?_) (fun h=>by cases h);refine zk [1,2,3,4,8,9,10,12] ?_;refine bE fun _ _ Z=>?_;simp;apply Z;apply aD;subst g4;simp [aK,insX, *]
 refine zs 5 fun _ Y=>?_;simp[ga2,ga7,ga13,ga17];apply Y;refine zb 44 ?_ ?_<;>intro g5<;>try simp at g5
 .refine zs 6 fun _ Y=>?_;simp[ga2,ga7,ga13,ga17];apply Y;refine zs 4 fun _ Y=>?_;simp[ga2,ga7,ga13,ga17];apply Y;simp[ga2,ga7,ga13,ga17];apply Z;refine bS (t:=true) (by simp) (fun _=>?_) (fun h=>by cases h);refine zk [1,2,3,4,8,9,10,12] ?_;refine bE fun _ _ Z=>?_;simp;apply Z;apply aD;simp [aK,insX, *]
 refine zs 3 fun _ Y=>?_;simp[ga2,ga7,ga13,ga17];apply Y;refine zg ga7 fun _ Y=>?_;simp[ga2,ga7,ga13,ga17];refine cB (aA4 x p id bel rk _ hx ht) ?_;apply Y;refine zs 2 fun _ Y=>?_;simp[ga2,ga7,ga13,ga17];apply Y;refine zb 50 ?_ ?_<;>intro g6<;>try simp at g6
 .refine zs 4 fun _ Y=>?_;simp[ga2,ga7,ga13,ga17];apply Y;simp[ga2,ga7,ga13,ga17];apply Z;refine bS (t:=true) (by simp) (fun _=>?_) (fun h=>by cases h);refine zk [1,2,3,4,8,9,10,12] ?_;refine bE fun _ _ Z=>?_;simp;apply Z;apply aD;simp [aK,insX, *]
 refine zs 4 fun _ Y=>?_;simp[ga2,ga7,ga13,ga17];apply Y;refine zb 54 ?_ ?_<;>intro g7<;>try simp at g7
 .simp[ga2,ga7,ga13,ga17];apply Z;refine bS (t:=true) (by simp) (fun _=>?_) (fun h=>by cases h);refine zk [1,2,3,4,8,9,10,12] ?_;refine bE fun _ _ Z=>?_;simp;apply Z;apply aD;simp [aK,insX, *]
 simp[ga2,ga7,ga13,ga17];and_intros<;>(try omega);apply Z;refine zI ?_ ?_<;>intro c8<;>try simp at c8
 .refine zk [1,2,3,4,8,9,10,12] ?_;refine bE fun _ _ Z=>?_;simp;apply Z;apply aD;simp [aK,insX, *]
 obtain⟨i,rfl⟩:∃i:Nat,at_=i:=⟨at_.toNat,by omega⟩;have hnb:NB (fI x.l { aG x.l p with kids:=fV (aG x.l p).kids i id }):=hx.put (by rw [jW _ _ _ (by omega)];omega) (hx.fc p) (hx.fa p) (hx.fs p);apply zA;refine zk [1,2,3,4,8,9,10,12] ?_;refine bE fun _ _ Z=>?_;refine zs 4 fun _ Y=>?_;simp;apply Y;refine aE fun _ Y=>?_;simp;refine cB (aCi (aG x.l p).kids i id _ (by omega) (by omega)) ?_;apply Y;simp;apply Z;refine zk [1,4,8,9,10,12] ?_;refine bE fun _ _ Z=>?_;simp;apply Z;refine zd ⟨[],[],[],[],[]⟩ [.op {rL:=true},.op {rL:=true},.pure,.op {rL:=true},.pure,.op {rL:=true,wL:=true},.op {}] fun all hall _ Z=>?_;refine iU 2 fun _ Y=>?_;simp;apply Y;refine dL fun _ Y=>?_;simp;refine Ia (fun _=>(oJ x { aG x.l p with kids:=fV (aG x.l p).kids i id } _ hx)) ?_;apply Y;refine iU 1 fun _ Y=>?_;simp;apply Y;refine dL fun _ Y=>?_;simp;refine Ia (fun _=>(oJ ⟨x.most,x.next,fI x.l { aG x.l p with kids:=fV (aG x.l p).kids i id }⟩ { aG x.l id with parent:=p } _ hnb)) ?_;apply Y;simp;apply Z;apply aD;have h5:¬0<=(aG x.l id).parent:=by omega
 have h7:¬(i:Int)<0:=by omega
 have h8:¬((aG x.l p).kids.length:Int)<(i:Int):=by omega
 simp [aK,insX, *]
def movX(x:RD)(id at_:Int):RD×Int:=
 if eN x.l id=false then(x,11)
 else if eN x.l (aG x.l id).parent=false\/at_<0\/((aG x.l (aG x.l id).parent).kids.length:Int)<=at_ then(x,1)
 else(⟨x.most,x.next,fI x.l { aG x.l (aG x.l id).parent with kids:=fV (iK (aG x.l (aG x.l id).parent).kids id) at_.toNat id }⟩,0)
theorem wB(l:List Int)(x:Int):(iK l x).length<=l.length:=gE _ _
theorem Sq {l:List Int} (h:l.Nodup)(x:Int):l.length<=(iK l x).length+1:=by
 induction l with
 | nil=>simp
 | cons y l ih =>
  have hn:=iR.1 h;unfold iK at *;rw [gJ];by_cases e:y=x
  .subst e;simp only [decide_true,Bool.not_true,iH,bJ];have:(l.filter fun z=> !decide (z=y))=l:=by
    rw [lT];intro a ha;have:a≠y:=fun e=>hn.1 (e ▸ ha);simp [this]
   rw [this];simp
  simp only [e,zU,Bool.not_false,aU,bT];have:=ih hn.2;omega
theorem aCd(x:RD)(id at_:Int)(σ:List (List D))(hx:NB x.l)(hnd:(aG x.l (aG x.l id).parent).kids.Nodup):Ct prog 139 [gB x,D.int id,D.int at_] σ (fun r σ'=>r= .tup [gB (movX x id at_).1,D.int (movX x id at_).2]/\σ'=σ):=by
 refine zf func139 ?_;have hfp:=hx.fk (aG x.l id).parent;have hrl:=wB (aG x.l (aG x.l id).parent).kids id;have hrg:=Sq hnd id;refine bE fun _ _ Z=>?_;simp;apply Z;refine bE fun _ _ Z=>?_;refine zs 2 fun _ Y=>?_;simp;apply Y;refine aE fun _ Y=>?_;simp;refine cB (lD x id _ hx) ?_;apply Y;simp;apply Z;apply aF;refine bE fun _ _ Z=>?_;simp;apply Z;refine zI ?_ ?_<;>intro c1<;>try simp at c1
 .refine zk [1,2,3,6,7,8] ?_;refine bE fun _ _ Z=>?_;simp;apply Z;apply aD;simp [aK,movX, *]
 apply zA;refine zk [1,2,3,6,7,8] ?_;refine bE fun _ _ Z=>?_;refine zs 3 fun _ Y=>?_;simp;apply Y;refine aE fun _ Y=>?_;simp;refine cB (lD x (aG x.l id).parent _ hx) ?_;apply Y;simp;apply Z;apply aF;refine zk [1,2,3,6,7,10,11] ?_;refine pB ⟨[],[],[],[],[]⟩ fun all hall _ Z=>?_;have ga2:aT all 2=some 30:=hall 2;have ga6:aT all 6=some 34:=hall 6;refine zs 3 fun _ Y=>?_;simp[ga2,ga6];apply Y;refine zb 30 ?_ ?_<;>intro g2<;>try simp at g2
 .refine zs 4 fun _ Y=>?_;simp[ga2,ga6];apply Y;simp[ga2,ga6];apply Z;refine bS (t:=true) (by simp) (fun _=>?_) (fun h=>by cases h);refine zk [1,2,3,6,7,10] ?_;refine bE fun _ _ Z=>?_;simp;apply Z;apply aD;simp [aK,movX, *]
 refine zs 4 fun _ Y=>?_;simp[ga2,ga6];apply Y;refine zb 34 ?_ ?_<;>intro g3<;>try simp at g3
 .simp[ga2,ga6];apply Z;refine bS (t:=true) (by simp) (fun _=>?_) (fun h=>by cases h);refine zk [1,2,3,6,7,10] ?_;refine bE fun _ _ Z=>?_;simp;apply Z;apply aD;simp [aK,movX, *]
 simp[ga2,ga6];and_intros<;>(try omega);apply Z;refine zI ?_ ?_<;>intro c4<;>try simp at c4
 .refine zk [1,2,3,6,7,10] ?_;refine bE fun _ _ Z=>?_;simp;apply Z;apply aD;simp [aK,movX, *]
 obtain⟨i,rfl⟩:∃i:Nat,at_=i:=⟨at_.toNat,by omega⟩;apply zA;refine zk [1,2,3,6,7,10] ?_;refine bE fun _ _ Z=>?_;refine zs 3 fun _ Y=>?_;simp;apply Y;refine aE fun _ Y=>?_;simp;refine cB (Ii (aG x.l (aG x.l id).parent).kids id _ (by omega)) ?_;apply Y;refine zs 2 fun _ Y=>?_;simp;apply Y;refine aE fun _ Y=>?_;simp;refine cB (aCi (iK (aG x.l (aG x.l id).parent).kids id) i id _ (by omega) (by omega)) ?_;apply Y;simp;apply Z;refine zk [3,6,7,10] ?_;refine bE fun _ _ Z=>?_;refine zs 2 fun _ Y=>?_;simp;apply Y;refine aE fun _ Y=>?_;simp;refine cB (oJ x { (aG x.l (aG x.l id).parent)with kids:=fV (iK (aG x.l (aG x.l id).parent).kids id) i id } _ hx) ?_;apply Y;simp;apply Z;apply aD;have h7:¬(i:Int)<0:=by omega
 have h8:¬(aG x.l (aG x.l id).parent).kids.length<=i:=by omega
 simp [aK,movX, *]
def jX(n:ND)(K:List Int):ND:= { n with kids:=K }
def remP(l:List ND)(id:Int):List ND:=if eN l (aG l id).parent=true then fI l (jX (aG l (aG l id).parent) (iK (aG l (aG l id).parent).kids id))else l
def wS(l:List ND)(g:List Int):List ND:=l.filter fun n=> !g.any fun k=>decide (k=n.ID)
def remX(x:RD)(bel:Int->List Int)(id:Int):RD×Int:=
 if eN x.l id=false then(x,11)else if id=0 then(x,1)else(⟨x.most,x.next,wS (remP x.l id) (bel id)⟩,0)
theorem zX(l:List ND)(g:List Int)(k:Nat)(h:k<l.length):wS (l.take (k+1)) g=wS (l.take k) g++if(g.any fun k'=>decide (k'=l[k].ID))=true then [] else [l[k]]:=by
 unfold wS;rw [bK l k h,eP,gJ];by_cases e:(g.any fun k'=>decide (k'=l[k].ID))=true <;> simp [e]
theorem Yb(l:List ND)(g:List Int):(wS l g).length<=l.length:=gE _ _
def Ci(g:List Int)(n:ND)(j:Nat):Bool:= !(g.take j).any fun k=>decide (k=n.ID)
theorem wH(g:List Int)(n:ND)(j:Nat)(h:j<g.length):Ci g n (j+1)=(Ci g n j && !decide (g[j]=n.ID)):=by
 unfold Ci;rw [bK g j h,List.any_append];simp [-List.any_eq_true, -List.any_eq_false]
theorem Ov {g:List Int} {n:ND} {j:Nat} (h:g.length<=j):Ci g n j= !g.any fun k=>decide (k=n.ID):=by
 unfold Ci;rw [bL h]
theorem NB.remP {l:List ND} (h:NB l)(id:Int):NB (remP l id):=by
 unfold Go.Proofs.YtbgfljpnhhdkoaaGreat.remP;split
 .have:=wB (aG l (aG l id).parent).kids id;have h1:=h.fk (aG l id).parent;exact h.put (by show(iK _ _).length<=1000;omega) (h.fc _) (h.fa _) (h.fs _)
 exact h
@[simp] abbrev q37_2:Cfg:=⟨[11,71],[],[],[],[]⟩
theorem aMo(x:RD)(id:Int)(bel:Int->List Int)(rk:Int->Nat)(σ:List (List D))(hx:NB x.l)(hp:eN x.l (aG x.l id).parent=true)(ht:Tr (fI x.l (jX (aG x.l (aG x.l id).parent) (iK (aG x.l (aG x.l id).parent).kids id))) bel rk):Ct prog 141 [gB x,D.int id] σ (fun r σ'=>r= .tup [gB (remX x bel id).1,D.int (remX x bel id).2]/\σ'=σ):=by
 refine zf func141 ?_;have hfp:=hx.fk (aG x.l id).parent;have hrl:=wB (aG x.l (aG x.l id).parent).kids id;have hrp:remP x.l id=(fI x.l (jX (aG x.l (aG x.l id).parent) (iK (aG x.l (aG x.l id).parent).kids id))):=by unfold remP;simp [hp]
 have hx1:NB (fI x.l (jX (aG x.l (aG x.l id).parent) (iK (aG x.l (aG x.l id).parent).kids id))):=by rw [<- hrp];exact hx.remP id
 have hxl:=hx1.len;have hbl:=ht.len id;refine zr q37_2 fun _ _ Z=>?_;simp(disch:=omega)[hp];apply Z;refine zr q37_2 fun _ _ Z=>?_;refine zs 2 fun _ Y=>?_;simp(disch:=omega)[hp];apply Y;refine aE fun _ Y=>?_;simp(disch:=omega)[hp];refine cB (lD x id _ hx) ?_;apply Y;simp(disch:=omega)[hp];apply Z;apply aF;refine zr q37_2 fun _ _ Z=>?_;simp(disch:=omega)[hp];apply Z;refine zI ?_ ?_<;>intro c1<;>try simp at c1
 .refine zk [1,2,4,5,6] ?_;refine zr q37_2 fun _ _ Z=>?_;simp(disch:=omega)[hp];apply Z;apply aD;simp [aK,remX, *]
 apply zA;apply aF;refine zk [1,2,4,5,6] ?_;refine zr q37_2 fun _ _ Z=>?_;simp(disch:=omega)[hp];apply Z;refine zI ?_ ?_<;>intro c2<;>try simp at c2
 .refine zr q37_2 fun _ _ Z=>?_;simp(disch:=omega)[hp];apply Z;apply aD;subst c2;simp [aK,remX, *]
 apply zA;apply aF;refine zr q37_2 fun _ _ Z=>?_;refine zs 3 fun _ Y=>?_;simp(disch:=omega)[hp];apply Y;refine aE fun _ Y=>?_;simp(disch:=omega)[hp];refine cB (lD x (aG x.l id).parent _ hx) ?_;apply Y;simp(disch:=omega)[hp];apply Z;refine zk [1,2,4,5,8,9] ?_;refine zr q37_2 fun _ _ Z=>?_;simp(disch:=omega)[hp];apply Z;refine zI ?_ ?_<;>intro c3<;>try simp at c3
 refine zr q37_2 fun _ _ Z=>?_;refine zs 3 fun _ Y=>?_;simp(disch:=omega)[hp];apply Y;refine aE fun _ Y=>?_;simp(disch:=omega)[hp];refine cB (Ii (aG x.l (aG x.l id).parent).kids id _ (by omega)) ?_;apply Y;simp(disch:=omega)[hp];apply Z;refine zk [1,2,4,5,8] ?_;refine zt q37_2 fun _ _ Z=>?_;refine zs 2 fun _ Y=>?_;simp(disch:=omega)[hp];apply Y;refine aE fun _ Y=>?_;simp(disch:=omega)[hp];refine cB (oJ x (jX (aG x.l (aG x.l id).parent) (iK (aG x.l (aG x.l id).parent).kids id)) _ hx) ?_;apply Y;simp(disch:=omega)[hp];apply Z;apply gI;refine zr q37_2 fun _ _ Z=>?_;refine zs 2 fun _ Y=>?_;simp(disch:=omega)[hp];apply Y;refine aE fun _ Y=>?_;simp(disch:=omega)[hp];refine cB (Cm (⟨x.most,x.next,(fI x.l (jX (aG x.l (aG x.l id).parent) (iK (aG x.l (aG x.l id).parent).kids id)))⟩:RD) id bel rk _ hx1 ht) ?_;apply Y;simp(disch:=omega)[hp];apply Z;refine zk [2,4,5,10] ?_;refine zr q37_2 fun _ _ Z=>?_;simp(disch:=omega)[hp];and_intros<;>(try omega);apply Z;apply aF;refine zr q37_2 fun _ _ Z=>?_;simp(disch:=omega)[hp];and_intros<;>(try omega);apply Z;apply aS;refine zk [2,4,5,10,11,50,51,52] ?_;refine aZ (fun(k:Nat)=> [(52,.d (.v (.int .i64 (k:Int)))),(11,.d (.sl true ((wS ((fI x.l (jX (aG x.l (aG x.l id).parent) (iK (aG x.l (aG x.l id).parent).kids id))).take k) (bel id)).map xE))),(14,.d (.any)),(16,.d (.any))]) [11,13,14,16,52,53,54,55,56,57,58,59,60,61,62,63,64,65,66,67,68,69,70,71,72,73,74,75] (fun(k:Nat)=>k<=(fI x.l (jX (aG x.l (aG x.l id).parent) (iK (aG x.l (aG x.l id).parent).kids id))).length) (fun(k:Nat)=>(fI x.l (jX (aG x.l (aG x.l id).parent) (iK (aG x.l (aG x.l id).parent).kids id))).length - k) (0) (by simp <;> rfl) ?_ ?_ ?_
 .simp [wS]
 .simp
 rintro k hk;simp only [aP,aN];have hrf:=Yb ((fI x.l (jX (aG x.l (aG x.l id).parent) (iK (aG x.l (aG x.l id).parent).kids id))).take k) (bel id);simp only [bF] at hrf;refine zr q37_2 fun _ _ Z=>?_;simp(disch:=omega)[hp];apply Z;apply aF;refine zI ?_ ?_<;>intro c4<;>try simp at c4
 .apply kR;refine zr q37_2 fun _ _ Z=>?_;simp(disch:=omega)[hp];and_intros<;>(try omega);apply Z;refine zk [2,4,5,10,11,13,14,16,50,51,52] ?_;refine zr q37_2 fun _ _ Z=>?_;simp(disch:=omega)[hp];apply Z;apply aF;refine zk [2,4,5,10,11,13,14,16,50,51,52] ?_;refine zr q37_2 fun _ _ Z=>?_;simp(disch:=omega)[hp];and_intros<;>(try omega);apply Z;apply aS;refine zk [2,4,5,10,11,13,14,16,50,51,52,56,57,58] ?_;refine aZ (fun(j:Nat)=> [(58,.d (.v (.int .i64 (j:Int)))),(14,.d (.bool (Ci (bel id) ((fI x.l (jX (aG x.l (aG x.l id).parent) (iK (aG x.l (aG x.l id).parent).kids id)))[k]) j))),(16,.d (.any))]) [14,16,58,59,60,61,62,63,64,65,66,67,68,69] (fun(j:Nat)=>j<=(bel id).length) (fun(j:Nat)=>(bel id).length - j) (0) (by simp <;> rfl) ?_ ?_ ?_
  .simp [Ci]
  .simp
  rintro j hj;simp only [aP,aN];refine zk [2,4,5,10,11,13,14,16,50,51,52,56,57,58] ?_;refine zr q37_2 fun _ _ Z=>?_;simp(disch:=omega)[hp];apply Z;apply aF;refine zI ?_ ?_<;>intro c5<;>try simp at c5
  .apply kR;refine zk [2,4,5,10,11,13,14,16,50,51,52,56,57,58] ?_;refine zr q37_2 fun _ _ Z=>?_;simp(disch:=omega)[hp];and_intros<;>(try omega);apply Z;refine zk [2,4,5,10,11,13,14,16,50,51,52,56,57,58] ?_;refine ztg q37_2 fun all hall _ Z=>?_;have ga1:aT all 1=some 63:=hall 1;refine zs 2 fun _ Y=>?_;simp(disch:=omega)[hp,ga1];apply Y;refine zb 63 ?_ ?_<;>intro g6<;>try simp at g6
   .simp(disch:=omega)[hp,ga1];apply Z;apply zB;refine zk [2,4,5,10,11,13,14,16,50,51,52,56,57,58] ?_;refine zt q37_2 fun _ _ Z=>?_;simp(disch:=omega)[hp];and_intros<;>(try omega);apply Z;refine zq (j+1) ?_ ?_ ?_
    .omega
    .try dsimp only
     omega
    simp(disch:=omega)[hp,wH, *]
   simp(disch:=omega)[hp,ga1];apply Z;apply zB;refine zk [2,4,5,10,11,13,14,16,50,51,52,56,57,58] ?_;refine zt q37_2 fun _ _ Z=>?_;simp(disch:=omega)[hp];and_intros<;>(try omega);apply Z;refine zq (j+1) ?_ ?_ ?_
   .omega
   .try dsimp only
    omega
   simp(disch:=omega)[hp,wH, *]
  obtain rfl:j=(bel id).length:=by omega
  have hst:=Ov (n:=(fI x.l (jX (aG x.l (aG x.l id).parent) (iK (aG x.l (aG x.l id).parent).kids id)))[k]) (aV (bel id).length);apply zE;refine zk [2,4,5,10,11,13,14,16,50,51,52] ?_;refine zr q37_2 fun _ _ Z=>?_;simp(disch:=omega)[hp];apply Z;refine zI ?_ ?_<;>intro c7<;>try simp at c7
  .have hst2:((bel id).any fun q=>decide (q=(fI x.l (jX (aG x.l (aG x.l id).parent) (iK (aG x.l (aG x.l id).parent).kids id)))[k].ID))=false:=by rw [hst] at c7;simpa using c7
   refine zk [2,4,5,10,11,13,14,16,50,51,52] ?_;refine zt q37_2 fun _ _ Z=>?_;simp(disch:=omega)[hp];and_intros<;>(try omega);apply Z;apply zB;refine zk [2,4,5,10,11,14,16,50,51,52] ?_;refine zt q37_2 fun _ _ Z=>?_;simp(disch:=omega)[hp];and_intros<;>(try omega);apply Z;refine zq (k+1) ?_ ?_ ?_
   .omega
   .try dsimp only
    omega
   simp(disch:=omega)[hp,zX,hst2]
  have hst2:((bel id).any fun q=>decide (q=(fI x.l (jX (aG x.l (aG x.l id).parent) (iK (aG x.l (aG x.l id).parent).kids id)))[k].ID))=true:=by rw [hst] at c7;simpa using c7
  apply mM;refine zk [2,4,5,10,11,14,16,50,51,52] ?_;refine zt q37_2 fun _ _ Z=>?_;simp(disch:=omega)[hp];and_intros<;>(try omega);apply Z;refine zq (k+1) ?_ ?_ ?_
  .omega
  .try dsimp only
   omega
  simp(disch:=omega)[hp,zX,hst2]
 apply zE;refine zr q37_2 fun _ _ Z=>?_;simp(disch:=omega)[hp];apply Z;refine zk [2,4,5] ?_;refine zr q37_2 fun _ _ Z=>?_;simp(disch:=omega)[hp];apply Z;apply aD;simp [aK,remX,hrp,c1,c2];rw [bL (by omega)]
theorem aM3(x:RD)(id:Int)(bel:Int->List Int)(rk:Int->Nat)(σ:List (List D))(hx:NB x.l)(hp:eN x.l (aG x.l id).parent=false)(ht:Tr x.l bel rk):Ct prog 141 [gB x,D.int id] σ (fun r σ'=>r= .tup [gB (remX x bel id).1,D.int (remX x bel id).2]/\σ'=σ):=by
 refine zf func141 ?_;have hfp:=hx.fk (aG x.l id).parent;have hrl:=wB (aG x.l (aG x.l id).parent).kids id;have hrp:remP x.l id=x.l:=by unfold remP;simp [hp]
 have hx1:NB x.l:=by rw [<- hrp];exact hx.remP id
 have hxl:=hx1.len;have hbl:=ht.len id;refine zr q37_2 fun _ _ Z=>?_;simp(disch:=omega)[hp];apply Z;refine zr q37_2 fun _ _ Z=>?_;refine zs 2 fun _ Y=>?_;simp(disch:=omega)[hp];apply Y;refine aE fun _ Y=>?_;simp(disch:=omega)[hp];refine cB (lD x id _ hx) ?_;apply Y;simp(disch:=omega)[hp];apply Z;apply aF;refine zr q37_2 fun _ _ Z=>?_;simp(disch:=omega)[hp];apply Z;refine zI ?_ ?_<;>intro c1<;>try simp at c1
 .refine zk [1,2,4,5,6] ?_;refine zr q37_2 fun _ _ Z=>?_;simp(disch:=omega)[hp];apply Z;apply aD;simp [aK,remX, *]
 apply zA;apply aF;refine zk [1,2,4,5,6] ?_;refine zr q37_2 fun _ _ Z=>?_;simp(disch:=omega)[hp];apply Z;refine zI ?_ ?_<;>intro c2<;>try simp at c2
 .refine zr q37_2 fun _ _ Z=>?_;simp(disch:=omega)[hp];apply Z;apply aD;subst c2;simp [aK,remX, *]
 apply zA;apply aF;refine zr q37_2 fun _ _ Z=>?_;refine zs 3 fun _ Y=>?_;simp(disch:=omega)[hp];apply Y;refine aE fun _ Y=>?_;simp(disch:=omega)[hp];refine cB (lD x (aG x.l id).parent _ hx) ?_;apply Y;simp(disch:=omega)[hp];apply Z;refine zk [1,2,4,5,8,9] ?_;refine zr q37_2 fun _ _ Z=>?_;simp(disch:=omega)[hp];apply Z;refine zI ?_ ?_<;>intro c3<;>try simp at c3
 apply zA;refine zr q37_2 fun _ _ Z=>?_;refine zs 2 fun _ Y=>?_;simp(disch:=omega)[hp];apply Y;refine aE fun _ Y=>?_;simp(disch:=omega)[hp];refine cB (Cm x id bel rk _ hx1 ht) ?_;apply Y;simp(disch:=omega)[hp];apply Z;refine zr q37_2 fun _ _ Z=>?_;simp(disch:=omega)[hp];and_intros<;>(try omega);apply Z;apply aF;refine zk [2,4,5,10,11] ?_;refine zr q37_2 fun _ _ Z=>?_;simp(disch:=omega)[hp];and_intros<;>(try omega);apply Z;apply aS;refine zk [2,4,5,10,11,50,51,52] ?_;refine aZ (fun(k:Nat)=> [(52,.d (.v (.int .i64 (k:Int)))),(11,.d (.sl true ((wS (x.l.take k) (bel id)).map xE))),(14,.d (.any)),(16,.d (.any))]) [11,13,14,16,52,53,54,55,56,57,58,59,60,61,62,63,64,65,66,67,68,69,70,71,72,73,74,75] (fun(k:Nat)=>k<=x.l.length) (fun(k:Nat)=>x.l.length - k) (0) (by simp <;> rfl) ?_ ?_ ?_
 .simp [wS]
 .simp
 rintro k hk;simp only [aP,aN];have hrf:=Yb (x.l.take k) (bel id);simp only [bF] at hrf;refine zr q37_2 fun _ _ Z=>?_;simp(disch:=omega)[hp];apply Z;apply aF;refine zI ?_ ?_<;>intro c4<;>try simp at c4
 .apply kR;refine zr q37_2 fun _ _ Z=>?_;simp(disch:=omega)[hp];and_intros<;>(try omega);apply Z;refine zk [2,4,5,10,11,13,14,16,50,51,52] ?_;refine zr q37_2 fun _ _ Z=>?_;simp(disch:=omega)[hp];apply Z;apply aF;refine zk [2,4,5,10,11,13,14,16,50,51,52] ?_;refine zr q37_2 fun _ _ Z=>?_;simp(disch:=omega)[hp];and_intros<;>(try omega);apply Z;apply aS;refine zk [2,4,5,10,11,13,14,16,50,51,52,56,57,58] ?_;refine aZ (fun(j:Nat)=> [(58,.d (.v (.int .i64 (j:Int)))),(14,.d (.bool (Ci (bel id) (x.l[k]) j))),(16,.d (.any))]) [14,16,58,59,60,61,62,63,64,65,66,67,68,69] (fun(j:Nat)=>j<=(bel id).length) (fun(j:Nat)=>(bel id).length - j) (0) (by simp <;> rfl) ?_ ?_ ?_
  .simp [Ci]
  .simp
  rintro j hj;simp only [aP,aN];refine zk [2,4,5,10,11,13,14,16,50,51,52,56,57,58] ?_;refine zr q37_2 fun _ _ Z=>?_;simp(disch:=omega)[hp];apply Z;apply aF;refine zI ?_ ?_<;>intro c5<;>try simp at c5
  .apply kR;refine zk [2,4,5,10,11,13,14,16,50,51,52,56,57,58] ?_;refine zr q37_2 fun _ _ Z=>?_;simp(disch:=omega)[hp];and_intros<;>(try omega);apply Z;refine zk [2,4,5,10,11,13,14,16,50,51,52,56,57,58] ?_;refine ztg q37_2 fun all hall _ Z=>?_;have ga1:aT all 1=some 63:=hall 1;refine zs 2 fun _ Y=>?_;simp(disch:=omega)[hp,ga1];apply Y;refine zb 63 ?_ ?_<;>intro g6<;>try simp at g6
   .simp(disch:=omega)[hp,ga1];apply Z;apply zB;refine zk [2,4,5,10,11,13,14,16,50,51,52,56,57,58] ?_;refine zt q37_2 fun _ _ Z=>?_;simp(disch:=omega)[hp];and_intros<;>(try omega);apply Z;refine zq (j+1) ?_ ?_ ?_
    .omega
    .try dsimp only
     omega
    simp(disch:=omega)[hp,wH, *]
   simp(disch:=omega)[hp,ga1];apply Z;apply zB;refine zk [2,4,5,10,11,13,14,16,50,51,52,56,57,58] ?_;refine zt q37_2 fun _ _ Z=>?_;simp(disch:=omega)[hp];and_intros<;>(try omega);apply Z;refine zq (j+1) ?_ ?_ ?_
   .omega
   .try dsimp only
    omega
   simp(disch:=omega)[hp,wH, *]
  obtain rfl:j=(bel id).length:=by omega
  have hst:=Ov (n:=x.l[k]) (aV (bel id).length);apply zE;refine zk [2,4,5,10,11,13,14,16,50,51,52] ?_;refine zr q37_2 fun _ _ Z=>?_;simp(disch:=omega)[hp];apply Z;refine zI ?_ ?_<;>intro c7<;>try simp at c7
  .have hst2:((bel id).any fun q=>decide (q=x.l[k].ID))=false:=by rw [hst] at c7;simpa using c7
   refine zk [2,4,5,10,11,13,14,16,50,51,52] ?_;refine zt q37_2 fun _ _ Z=>?_;simp(disch:=omega)[hp];and_intros<;>(try omega);apply Z;apply zB;refine zk [2,4,5,10,11,14,16,50,51,52] ?_;refine zt q37_2 fun _ _ Z=>?_;simp(disch:=omega)[hp];and_intros<;>(try omega);apply Z;refine zq (k+1) ?_ ?_ ?_
   .omega
   .try dsimp only
    omega
   simp(disch:=omega)[hp,zX,hst2]
  have hst2:((bel id).any fun q=>decide (q=x.l[k].ID))=true:=by rw [hst] at c7;simpa using c7
  apply mM;refine zk [2,4,5,10,11,14,16,50,51,52] ?_;refine zt q37_2 fun _ _ Z=>?_;simp(disch:=omega)[hp];and_intros<;>(try omega);apply Z;refine zq (k+1) ?_ ?_ ?_
  .omega
  .try dsimp only
   omega
  simp(disch:=omega)[hp,zX,hst2]
 apply zE;refine zr q37_2 fun _ _ Z=>?_;simp(disch:=omega)[hp];apply Z;refine zk [2,4,5] ?_;refine zr q37_2 fun _ _ Z=>?_;simp(disch:=omega)[hp];apply Z;apply aD;simp [aK,remX,hrp,c1,c2];rw [bL (by omega)]
theorem aB8(x:RD)(id:Int)(bel:Int->List Int)(rk:Int->Nat)(σ:List (List D))(hx:NB x.l)(ht:Tr (remP x.l id) bel rk):Ct prog 141 [gB x,D.int id] σ (fun r σ'=>r= .tup [gB (remX x bel id).1,D.int (remX x bel id).2]/\σ'=σ):=by
 cases hp:eN x.l (aG x.l id).parent with
 | true=>exact aMo x id bel rk σ hx hp (by unfold remP at ht;rwa [aI hp] at ht)
 | false=>exact aM3 x id bel rk σ hx hp (by unfold remP at ht;rwa [aC (by rw [hp];simp)] at ht)
end Go.Proofs.YtbgfljpnhhdkoaaGreat
