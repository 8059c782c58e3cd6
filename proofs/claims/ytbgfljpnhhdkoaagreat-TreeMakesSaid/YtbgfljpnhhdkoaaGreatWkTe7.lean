import Derived.Test.YtbgfljpnhhdkoaaGreatWkVi11
import Derived.Test.YtbgfljpnhhdkoaaGreatTeRd
set_option maxHeartbeats 8000000
set_option linter.all false
set_option maxRecDepth 20000
open Go.Proofs.Tryz
namespace Go.Proofs.YtbgfljpnhhdkoaaGreat
open Go Go.Vm
variable {F:Nat->Prop}{a i:Int}{par:D}{q:Nat}{qs:List Nat}
inductive GV:VN->Prop
 | mk (v:VN) (h:aNy v) (hk:∀k∈v.kids,GV k):GV v
theorem GV.m {v:VN} (h:GV v):aNy v:=by cases h;assumption
theorem GV.k {v:VN} (h:GV v):∀k∈v.kids,GV k:=by cases h;assumption
def OkC(v:VN)(a e:Int):Prop:=(e=0->GV v/\0<=a)/\ -1<=a/\a<=9999
theorem Li {v:VN} {e:Int} (h:¬e=0)(h1: -1<=a)(h2:a<=9999):OkC v a e:=⟨fun e=>absurd e h,h1,h2⟩
theorem Ju {v w:VN} {e:Int} (h:¬e=0)(ho:OkC w a e):OkC v a e:=⟨fun e=>absurd e h,ho.2⟩
theorem Kk {v:VN} {k:Nat} {b:Bool} (hb:iE v b)(h:b=true)(hk:∀x∈v.kids.take k,GV x)(e:v.kids.length<=k)(h1:0<=a)(h2:a<=9999):OkC v a 0:=by
 rw [bZ e] at hk;exact⟨fun _=>⟨.mk v (hb h) hk,h1⟩,by omega,h2⟩
abbrev aLo(v:VN):Prop:=∀(deep depth left:Int) (σ:List (List D)),0<=deep->deep+cB v<=9999->0<=left->left<=9999->Ct prog 91 [iX v,D.int deep,D.int depth,D.int left] σ (fun r σ'=>(∃a e:Int,r= .tup [D.int a,D.int e]/\OkC v a e)/\σ'=σ)
theorem aAy(v:VN)(deep depth left:Int)(σ:List (List D))(h:VF v)(hc:cB v<=9999)(hd0:0<=deep)(hd1:deep+cB v<=9999)(hl0:0<=left)(hl1:left<=9999)(ih:∀k∈v.kids,aLo k):Ct prog 91 [iX v,D.int deep,D.int depth,D.int left] σ (fun r σ'=>(∃a e:Int,r= .tup [D.int a,D.int e]/\OkC v a e)/\σ'=σ):=by
 refine zf func91 ?_;have hkl:=jV v;have hns:=aN3 h;have hnl:=aB2 h;have hV:=h;obtain⟨h1,h2,h3,h4,h5,h6,h7,h8,h9⟩:=h;refine bB fun _ _ Z=>?_;simp(disch:=omega);apply Z;refine bB fun _ _ Z=>?_;simp(disch:=omega);and_intros<;>(try omega);apply Z;apply aE;refine bB fun _ _ Z=>?_;simp(disch:=omega);apply Z;refine zI ?_ ?_<;>intro c1<;>try simp at c1
 .refine bB fun _ _ Z=>?_;simp(disch:=omega);apply Z;apply aC;simp [aH];refine⟨_,_,⟨rfl,rfl⟩,?_⟩;first | exact Li (by decide) (by omega) (by omega) | exact Ju (by assumption) hoc | exact Kk hmb (by assumption) hgv (by omega) hy0 hy1
 apply zA;apply aE;refine bB fun _ _ Z=>?_;simp(disch:=omega);apply Z;refine zI ?_ ?_<;>intro c2<;>try simp at c2
 .refine bB fun _ _ Z=>?_;simp(disch:=omega);apply Z;apply aC;simp [aH];refine⟨_,_,⟨rfl,rfl⟩,?_⟩;first | exact Li (by decide) (by omega) (by omega) | exact Ju (by assumption) hoc | exact Kk hmb (by assumption) hgv (by omega) hy0 hy1
 apply zA;apply aE;refine bB fun _ _ Z=>?_;refine zs 1 fun _ Y=>?_;simp(disch:=omega);apply Y;refine aF fun _ Y=>?_;simp(disch:=omega);refine Mo (aPv v _ hV (by omega)) ?_;rintro _ _ ⟨⟨mb,hr9,hmb⟩,hs9⟩;subst hr9;subst hs9;apply Y;simp(disch:=omega);apply Z;refine zI ?_ ?_<;>intro c3<;>try simp at c3
 .refine zk [1,2,3,4,8,9] ?_;refine bB fun _ _ Z=>?_;simp(disch:=omega);apply Z;apply aC;simp [aH];refine⟨_,_,⟨rfl,rfl⟩,?_⟩;first | exact Li (by decide) (by omega) (by omega) | exact Ju (by assumption) hoc | exact Kk hmb (by assumption) hgv (by omega) hy0 hy1
 apply zA;apply aE;refine zk [1,2,3,4,8,9] ?_;refine bB fun _ _ Z=>?_;refine zs 1 fun _ Y=>?_;simp(disch:=omega);apply Y;refine aF fun _ Y=>?_;simp(disch:=omega);refine cT (yE v _ (by omega) (by omega) (by omega)) ?_;obtain⟨N,hN⟩:∃N,fK (qX v)=N:=⟨_,rfl⟩;rw [hN] at hns hnl |-;apply Y;simp(disch:=omega);and_intros<;>(try omega);apply Z;apply aR;refine zk [1,2,3,4,8,9,34,35,36] ?_;refine aY (fun(k0:Nat)=> [(36,.d (.v (.int .i64 (k0:Int)))),(11,.d (.any))]) [8,9,11,36,37,38,39,40,41,42,43] (fun(k0:Nat)=>k0<=N.length) (fun(k0:Nat)=>N.length - k0) (0) (by simp <;> rfl) ?_ ?_ ?_
 .simp
 .simp
 rintro k0 hk0;simp only [aQ,aO];refine bB fun _ _ Z=>?_;simp(disch:=omega);apply Z;apply aE;refine zI ?_ ?_<;>intro c4<;>try simp at c4
 .apply jM;refine bB fun _ _ Z=>?_;simp(disch:=omega);and_intros<;>(try omega);apply Z;refine zk [1,2,3,4,11,34,35,36] ?_;refine bB fun _ _ Z=>?_;refine zs 1 fun _ Y=>?_;simp(disch:=omega);apply Y;refine aF fun _ Y=>?_;simp(disch:=omega);refine Mo (aO3 N[k0] _ (by have:=hns N[k0] (bS _);omega)) ?_;rintro _ _ ⟨⟨bb,hr9⟩,hs9⟩;subst hr9;subst hs9;apply Y;simp only [eJ];apply Z;refine zI ?_ ?_<;>intro c5<;>try simp at c5
  .refine bB fun _ _ Z=>?_;simp(disch:=omega);apply Z;apply aC;simp [aH];refine⟨_,_,⟨rfl,rfl⟩,?_⟩;first | exact Li (by decide) (by omega) (by omega) | exact Ju (by assumption) hoc | exact Kk hmb (by assumption) hgv (by omega) hy0 hy1
  apply mS;refine pF fun _ _ Z=>?_;simp(disch:=omega);and_intros<;>(try omega);apply Z;refine zq (k0+1) ?_ ?_ ?_
  .omega
  .try dsimp only
   omega
  simp(disch:=omega)
 apply zE;apply aE;refine bB fun _ _ Z=>?_;simp(disch:=omega);and_intros<;>(try omega);apply Z;apply aR;refine zk [1,2,3,4,45,46,47] ?_;refine aY (fun(k1:Nat)=> [(47,.d (.v (.int .i64 (k1:Int)))),(12,.d (.any))]) [8,9,12,13,15,47,48,49,50,51,52,53,54,55,56,57,58,59,60,61,62,63,64,65,66,67,68,69,70,71,72,73] (fun(k1:Nat)=>k1<=v.kids.length) (fun(k1:Nat)=>v.kids.length - k1) (0) (by simp <;> rfl) ?_ ?_ ?_
 .simp
 .simp
 rintro k1 hk1;simp only [aQ,aO];refine bB fun _ _ Z=>?_;simp(disch:=omega);apply Z;apply aE;refine zI ?_ ?_<;>intro c6<;>try simp at c6
 .apply jM;refine bB fun _ _ Z=>?_;simp(disch:=omega);and_intros<;>(try omega);apply Z;refine zk [1,2,3,4,12,13,45,46,47] ?_;refine bB fun _ _ Z=>?_;simp(disch:=omega);and_intros<;>(try omega);apply Z;apply aR;refine zk [1,2,3,4,12,13,45,46,47,55,56,57] ?_;refine aY (fun(k2:Nat)=> [(57,.d (.v (.int .i64 (k2:Int))))]) [8,9,15,57,58,59,60,61,62,63,64,65,66,67,68,69,70,71,72] (fun(k2:Nat)=>k2<=k1) (fun(k2:Nat)=>k1 - k2) (0) (by simp <;> rfl) ?_ ?_ ?_
  .simp
  .simp
  rintro k2 hk2;simp only [aQ,aO];refine zk [1,2,3,4,12,13,45,46,47,55,56,57] ?_;refine bB fun _ _ Z=>?_;simp(disch:=omega);apply Z;apply aE;refine zI ?_ ?_<;>intro c7<;>try simp at c7
  .apply jM;refine zk [1,2,3,4,12,13,45,46,47,55,56,57] ?_;refine bB fun _ _ Z=>?_;simp(disch:=omega);and_intros<;>(try omega);apply Z;refine zk [1,2,3,4,12,13,15,45,46,47,55,56,57] ?_;refine mH ⟨[],[],[],[],[]⟩ fun all hall _ Z=>?_;have ga3:aN all 3=some 64:=hall 3;refine zs 4 fun _ Y=>?_;simp(disch:=omega)[ga3];apply Y;refine zb 64 ?_ ?_<;>intro g8<;>try simp at g8
   .simp(disch:=omega)[ga3];apply Z;refine zI ?_ ?_<;>intro c9<;>try simp at c9
    .refine zk [1,2,3,4,12,13,45,46,47,55,56,57] ?_;refine bB fun _ _ Z=>?_;simp(disch:=omega);apply Z;apply aC;apply aEj;apply aMn;simp [aH];refine⟨_,_,⟨rfl,rfl⟩,?_⟩;first | exact Li (by decide) (by omega) (by omega) | exact Ju (by assumption) hoc | exact Kk hmb (by assumption) hgv (by omega) hy0 hy1
    apply mS;refine zk [1,2,3,4,12,13,45,46,47,55,56,57] ?_;refine pF fun _ _ Z=>?_;simp(disch:=omega);and_intros<;>(try omega);apply Z;refine zq (k2+1) ?_ ?_ ?_
    .omega
    .try dsimp only
     omega
    simp(disch:=omega)
   simp(disch:=omega)[ga3];apply Z;refine bA (t:=false) (by simp) (fun h=>by cases h) (fun _=>?_);apply mS;refine zk [1,2,3,4,12,13,45,46,47,55,56,57] ?_;refine pF fun _ _ Z=>?_;simp(disch:=omega);and_intros<;>(try omega);apply Z;refine zq (k2+1) ?_ ?_ ?_
   .omega
   .try dsimp only
    omega
   simp(disch:=omega)
  apply Dw;apply Ce;apply Dn;apply yI;apply zB;refine zk [1,2,3,4,12,45,46,47] ?_;refine pF fun _ _ Z=>?_;simp(disch:=omega);and_intros<;>(try omega);apply Z;refine zq (k1+1) ?_ ?_ ?_
  .omega
  .try dsimp only
   omega
  simp(disch:=omega)
 apply zE;apply aE;refine bB fun _ _ Z=>?_;simp(disch:=omega);and_intros<;>(try omega);apply Z;apply aR;refine zk [1,2,3,75,76,77] ?_;refine aY (fun(p:Nat×Int)=> [(77,.d (.v (.int .i64 (p.1:Int)))),(3,.d (.int p.2)),(18,.d (.any)),(19,.d (.any)),(81,.d (.any))]) [3,8,9,17,18,19,77,78,79,80,81,82,83,84,85,86,87,88,89,90,91,92,93,94,95] (fun(p:Nat×Int)=>p.1<=v.kids.length/\(∀x∈v.kids.take p.1,GV x)/\0<=p.2/\p.2<=9999) (fun(p:Nat×Int)=>v.kids.length - p.1) ((0,left - 1)) (by simp <;> rfl) ?_ ?_ ?_
 .simp
 .simp;omega
 rintro⟨k3,y⟩ ⟨hk3,hgv,hy0,hy1⟩;simp only [aQ,aO];dsimp only at hk3 hgv hy0 hy1;refine bB fun _ _ Z=>?_;simp(disch:=omega);apply Z;apply aE;refine zI ?_ ?_<;>intro c10<;>try simp at c10
 .apply jM;refine bB fun _ _ Z=>?_;simp(disch:=omega);and_intros<;>(try omega);apply Z;refine zk [1,2,3,17,18,19,75,76,77,81] ?_;refine bB fun _ _ Z=>?_;refine zs 5 fun _ Y=>?_;simp(disch:=omega);and_intros<;>(try omega);apply Y;refine aF fun _ Y=>?_;simp(disch:=omega);refine Mo (ih v.kids[k3] (bS _) (deep+1) depth y _ (by omega) (by have:=dQ (v:=v) (bS (l:=v.kids) (n:=k3) (by omega));omega) hy0 hy1) ?_;rintro _ _ ⟨⟨a,e,hr9,hoc⟩,hs9⟩;subst hr9;subst hs9;apply Y;simp(disch:=omega);apply Z;apply aE;refine zk [1,2,3,18,19,75,76,77,81] ?_;refine bB fun _ _ Z=>?_;simp(disch:=omega);apply Z;refine zI ?_ ?_<;>intro c11<;>try simp at c11
  .refine bB fun _ _ Z=>?_;simp(disch:=omega);apply Z;apply aC;simp [aH];refine⟨_,_,⟨rfl,rfl⟩,?_⟩;first | exact Li (by decide) (by omega) (by omega) | exact Ju (by assumption) hoc | exact Kk hmb (by assumption) hgv (by omega) hy0 hy1
  apply zA;refine pF fun _ _ Z=>?_;simp(disch:=omega);apply Z;apply zB;refine zk [1,2,3,18,19,75,76,77,81] ?_;refine pF fun _ _ Z=>?_;simp(disch:=omega);and_intros<;>(try omega);apply Z;refine zq ((k3+1,a)) ?_ ?_ ?_
  .refine⟨by omega,Db (by omega) hgv ((hoc.1 (by assumption)).1),(hoc.1 (by assumption)).2,hoc.2.2⟩
  .try dsimp only
   omega
  simp(disch:=omega)
 apply zE;refine bB fun _ _ Z=>?_;simp(disch:=omega);apply Z;apply aC;simp [aH];refine⟨_,_,⟨rfl,rfl⟩,?_⟩;first | exact Li (by decide) (by omega) (by omega) | exact Ju (by assumption) hoc | exact Kk hmb (by assumption) hgv (by omega) hy0 hy1
theorem Nz(v:VN)(h:VG v)(hc:cB v<=100):aLo v:=fun deep depth left σ h1 h2 h3 h4=>aAy v deep depth left σ h.f (by omega) h1 h2 h3 h4 fun k hk=>Nz k (h.k k hk) (by have:=dQ hk;omega)
termination_by cB v
decreasing_by
 have:=dQ hk;omega
def OkE(v:VN)(e:Int):Prop:=e=0->GV v
theorem aFc(v:VN)(depth nodes:Int)(σ:List (List D))(h:VG v)(hc:cB v<=100):Ct prog 29 [iX v,D.int depth,D.int nodes] σ (fun r σ'=>(∃e:Int,r=D.int e/\OkE v e)/\σ'=σ):=by
 refine zf func29 ?_;refine bB fun _ _ Z=>?_;simp(disch:=omega);apply Z;refine bB fun _ _ Z=>?_;refine zs 7 fun _ Y=>?_;simp(disch:=omega);and_intros<;>(try omega);apply Y;refine aF fun _ Y=>?_;simp(disch:=omega);refine Mo (Nz v h hc 1 (max 1 (min depth 20)) (max 1 (min nodes 4096)) _ (by omega) (by omega) (by omega) (by omega)) ?_;rintro _ _ ⟨⟨a,e,hr9,hoc⟩,hs9⟩;subst hr9;subst hs9;apply Y;simp(disch:=omega);apply Z;refine zk [6,8] ?_;refine bB fun _ _ Z=>?_;simp(disch:=omega);apply Z;apply aC;simp [aH];exact fun e=>(hoc.1 e).1
structure NV(v:VN):Prop where
 c4:v.classes.length<=4
 a4:v.attrs.length<=4
 s4:v.styles.length<=4
 cl:bU v.classes=v.classes
 sa:Sorted nA v.attrs
 ss:Sorted nP v.styles
 av:∀p∈v.attrs,p.value.size<=40
 t1:v.kind=1->v.kids= []/\fK (qX v)= []
 e2:¬v.kind=1->dT v.tag=true/\(∀s∈fK (qX v),dT s=true)/\∀p∈v.styles,Av p.value=p.value
inductive NN:VN->Prop
 | mk (v:VN) (h:NV v) (hk:∀k∈v.kids,NN k):NN v
theorem NN.v {v:VN} (h:NN v):NV v:=by cases h;assumption
theorem NN.k {v:VN} (h:NN v):∀k∈v.kids,NN k:=by cases h;assumption
theorem NN.tk:∀ {v:VN},NN v->TK v
 | v,h=> .mk v (fun e=>(h.v.t1 e).1) fun k hk=>NN.tk (h.k k hk)
termination_by v=>cB v
decreasing_by
 have:=dQ hk;omega
theorem NV.txt {v:VN} (h:NV v)(s:ByteArray):NV (txt v s):=⟨h.c4,h.a4,h.s4,h.cl,h.sa,h.ss,h.av,h.t1,h.e2⟩
theorem NN.txt {v:VN} (h:NN v)(s:ByteArray):NN (txt v s):= .mk _ (h.v.txt s) h.k
theorem aBv {v:VN} {s:ByteArray} (h:s∈fK (qX (cZ v))):s∈fK (qX v):=by
 rw [lC] at h;unfold fK qX at h |-;simp only [bT,aV] at h |-;rcases h with (h | ⟨p,hp,e⟩) | ⟨p,hp,e⟩
 .exact .inl (.inl (Eh.1 h))
 .exact .inl (.inr ⟨p,Co hp,e⟩)
 exact .inr ⟨p,Co hp,e⟩
theorem Xt(l:Ls):bU (bU l)=bU l:=by
 have h:∀r:Ls,r.Nodup->bU r=r:=by
  intro r;obtain⟨q,rfl⟩:∃q,r=List.reverse q:=⟨r.reverse,by simp⟩;induction q with
  | nil=>intro _;rfl
  | cons a q ih=>
   intro hn;rw [Ho] at hn |-;have hn2:q.reverse.Nodup:=(mJ.1 hn).1;rw [nF,ih hn2];unfold rN;rw [aD];rw [jL];intro hm;exact(mJ.1 hn).2.2 a hm a (by simp) rfl
 exact h _ (oX l)
theorem Tm:∀ {v:VN},VG v->GV v->NN (cZ v)
 | v, h, hg => by
  have hm:=hg.m;obtain⟨a,b,c, -, -, -, -,d, -⟩:=h.f;have he:=lC v;refine .mk _ ⟨?_,?_,?_,?_,?_,?_,?_,?_,?_⟩ fun k hk=>?_
  .rw [he];have:=nL v.classes;show(bU v.classes).length<=4;omega
  .rw [he];have:=iI nA v.attrs;show(iC nA v.attrs).length<=4;omega
  .rw [he];have:=iI nP v.styles;show(iC nP v.styles).length<=4;omega
  .rw [he];exact Xt _
  .rw [he];exact gL nA _
  .rw [he];exact gL nP _
  .rw [he];intro p hp;exact(d p (Co hp)).2
  .intro e;rw [Bq] at e;rcases hm with ⟨-,h1,h2⟩ | ⟨h1, -⟩
   .refine⟨by rw [he];show gW ((v.kids.map cZ).filter jH)= [];rw [h2];rfl,?_⟩;refine Ev.2 fun s hs=>?_;have:=aBv hs;rw [h1] at this;cases this
   omega
  .intro e;rw [Bq] at e;rcases hm with ⟨h1, -⟩ | ⟨-, -,h2,h3,h4⟩
   .exact absurd h1 e
   refine⟨by rw [he];exact h2,fun s hs=>h3 s (aBv hs),fun p hp=>?_⟩;rw [he] at hp;have:=h4 p (Co hp);exact Th ⟨by omega,by omega⟩
  rw [he] at hk;obtain⟨y,hy,s,rfl⟩:=Qj hk;obtain⟨z,hz,rfl⟩:=aV.1 (cS.1 hy).1;exact(Tm (h.k z hz) (hg.k z hz)).txt s
termination_by v=>cB v
decreasing_by
 have:=dQ hz;omega
theorem NV.ow {v:VN} (h:NV v)(he:¬v.kind=1):OwOk (qX v):=⟨h.sa,h.ss,(h.e2 he).2.2⟩
theorem NV.put {v:VN} (h:NV v):Nh ⟨0,0,0,0⟩ (qX v)=qX v:=by
 unfold Nh aFu aDq;have hc:pL ⟨0,0,0,0⟩= []:=by decide+kernel
 have hg:Kh ⟨0,0,0,0⟩=false:=by decide+kernel
 rw [hc,hg,aD (by simp),aD (by simp)];show OW.mk (bU (v.classes++ [])) (iC nA v.attrs) (iC nP v.styles)=qX v
 rw [gH,h.cl,rP nA h.sa,rP nP h.ss];rfl
section
variable {k m M l:Nat} {d d' d2:DS} {rk rk':Int->Nat} {σ σ2 σ3:List (List D)} {x y:RD} {ops:List TOp}
theorem LX.put_(h:LX k m M l d rk x ops σ) (hq:Off m d q)(hl:q≠l)(c:List D):LX k m M l d rk x ops (σ.set q c):=
 ⟨h.ix.put hq c,h.off,by rw [eR hl];exact h.at_,h.len⟩
theorem LX.app_(h:LX k m M l d rk x ops σ)(J:List (List D)):LX k m M l d rk x ops (σ++J):=
 ⟨h.ix.app J,h.off,by rw [bC (pY h.at_)];exact h.at_,h.len⟩
theorem LX.up_(h:LX k m M l d rk x ops σ):∀j,LX (k+j) m M l d rk x ops σ
 | 0=>h
 | j+1=>(h.up_ j).keep
def jG(i:Int)(v:VN)(par:D)(qs:List Nat):List D:= [D.int i,D.int v.kind,D.str v.tag,D.str v.key,D.str v.text,.sl false (v.classes.map D.str),.sl false (v.attrs.map dA),.sl false (v.styles.map cQ),D.int v.opts.enter,D.int v.opts.leave,D.int v.opts.move,D.int v.opts.mode,D.bool v.opts.appear,D.bool v.opts.moves,.sl false [],
 D.int 0,D.int 0,D.int 0,D.int 0,D.int 0,D.int 0,D.bool false,D.int 0,D.bool false,D.int 0,par,.sl true (qs.map fun q=>D.ref q 0)]
inductive ItOk(σ:List (List D)):(Nat->Prop)->Int->VN->D->Nat->Prop
 | mk (F : Nat -> Prop) (i : Int) (v : VN) (par : D) (q : Nat) (qs : List Nat) (hF : F q) (hq : σ[q]? = some (jG i v par qs)) (hl : qs.length = v.kids.length)
   (hk:∀(j:Nat) (h1:j<v.kids.length) (h2:j<qs.length) (h3:j<(iD (i+1) v.kids).length),ItOk σ (fun p=>F p/\q<p) ((iD (i+1) v.kids)[j]) (v.kids[j]) (.ref q 0) (qs[j])):ItOk σ F i v par q
theorem ItOk.frame {v:VN} (h:ItOk σ F i v par q):∀ {G:Nat->Prop},(∀q,F q->G q/\σ2[q]?=σ[q]?)->ItOk σ2 G i v par q:=by
 induction h with
 | mk F i v par q qs hF hq hl hk ih=>
  intro G hs;exact .mk G i v par q qs (hs q hF).1 (by rw [(hs q hF).2];exact hq) hl fun j h1 h2 h3=>ih j h1 h2 h3 fun p hp=>⟨⟨(hs p hp.1).1,hp.2⟩,(hs p hp.1).2⟩
def KidsOk(σ:List (List D))(F:Nat->Prop)(i:Int)(v:VN)(q:Nat)(qs:List Nat)(j:Nat):Prop:=
 qs.length=j/\∀(a:Nat) (h1:a<v.kids.length) (h2:a<qs.length) (h3:a<(iD (i+1) v.kids).length),ItOk σ F ((iD (i+1) v.kids)[a]) (v.kids[a]) (.ref q 0) (qs[a])
theorem KidsOk.frame {G:Nat->Prop} (hs:∀q,F q->G q/\σ2[q]?=σ[q]?) {v:VN} {j:Nat} (h:KidsOk σ F i v q qs j):KidsOk σ2 G i v q qs j:=
 ⟨h.1,fun a h1 h2 h3=>(h.2 a h1 h2 h3).frame hs⟩
theorem KidsOk.zero(σ:List (List D))(F:Nat->Prop)(i:Int)(v:VN)(q:Nat):KidsOk σ F i v q [] 0:=⟨rfl,fun a _ h _=>absurd h (by simp)⟩
theorem KidsOk.snoc {v:VN} {j p:Nat} (h:KidsOk σ F i v q qs j)(hj:j<v.kids.length)(hp:ItOk σ F (pB i v j) v.kids[j] (.ref q 0) p):KidsOk σ F i v q (qs++ [p]) (j+1):=by
 refine⟨by simp [h.1],fun a h1 h2 h3=>?_⟩;have hl:=h.1;by_cases ha:a<j
 .have e:(qs++ [p])[a]=qs[a]'(by omega):=uR (by omega);rw [e];exact h.2 a h1 (by omega) h3
 have ea:a=j:=by simp at h2;omega
 subst ea;have e:(qs++ [p])[a]=p:=by rw [uZ (by omega)];simp [hl]
 rw [e];have ei : (iD (i + 1) v.kids)[a] = pB i v a := by
  have h4:iD (i+1) v.kids=iD (i+1) (v.kids.take a)++iD (i+1+((((v.kids.take a).map cB).sum:Nat):Int)) (v.kids.drop a):=by
   have:∀(A B:List VN) (s:Int),iD s (A++B)=iD s A++iD (s+(((A.map cB).sum:Nat):Int)) B:=by
    intro A;induction A with
    | nil=>intro B s;simp [iD]
    | cons c A ih=>
     intro B s;simp only [aQ,iD,ih,cC,iA];congr 3;omega
   rw [<- this,eZ]
  have h5:(iD (i+1) (v.kids.take a)).length=a:=by rw [pQ,bG];omega
  have h6:(iD (i+1) v.kids)[a]?=some (pB i v a):=by
   rw [h4,bX (by omega),h5,mB,yB hj];simp [iD,pB,vY]
  rw [aS h3] at h6;exact oQ h6
 rw [ei];exact hp
theorem KidsOk.done {v:VN} (h:KidsOk σ (fun p=>F p/\q<p) i v q qs v.kids.length)(hF:F q)(hq:σ[q]?=some (jG i v par qs)):ItOk σ F i v par q:= .mk F i v par q qs hF hq h.1 h.2
theorem ItOk.par_ {v:VN} (h:ItOk σ F i v par q)(par2:D):∃qs,σ[q]?=some (jG i v par qs)/\ItOk (σ.set q (jG i v par2 qs)) F i v par2 q:=by
 cases h with
 | mk _ _ _ _ _ qs hF hq hl hk=>
  exact⟨qs,hq,.mk F i v par2 q qs hF (aM hq _) hl fun j h1 h2 h3=>(hk j h1 h2 h3).frame fun p hp=>⟨hp,by rw [eR (by omega)]⟩⟩
theorem ItOk.F_ {v:VN} (h:ItOk σ F i v par q):F q:=by cases h;assumption
theorem ItOk.at_ {v:VN} (h:ItOk σ F i v par q):∃qs,σ[q]?=some (jG i v par qs)/\qs.length=v.kids.length:=by
 cases h with
 | mk _ _ _ _ _ qs hF hq hl hk=>exact⟨qs,hq,hl⟩
end
def pV:List D:= [D.int 0,D.int 0,D.str ⟨#[]⟩,D.str ⟨#[]⟩,D.str ⟨#[]⟩,.sl true [],.sl true [],.sl true [],D.int 0,D.int 0,D.int 0,D.int 0,D.bool false,D.bool false,.sl true [],D.int 0,D.int 0,D.int 0,D.int 0,D.int 0,D.int 0,D.bool false,D.int 0,D.bool false,D.int 0,.v (.pointer none),.sl true []]
def qsl(qs:Nat->Nat)(j:Nat):List Nat:=(List.range j).map qs
theorem Kp(qs:Nat->Nat)(j:Nat):qsl qs (j+1)=qsl qs j++ [qs j]:=by unfold qsl;rw [sJ,cE];rfl
theorem aC8(qs:Nat->Nat)(j:Nat):(qsl qs j).length=j:=by simp [qsl]
theorem aI3(l q:Nat)(v:VN)(i:Int)(s1:List (List D))(st a:Nat->List (List D))(qs:Nat->Nat)(nx:Nat->Int)(ks:Nat->List Nat)(σ:List (List D))(hq:q=σ.length)(hT:v.kind=1->Ct prog 177 [.ref l 0,D.str v.text] (σ++ [pV]) (fun r τ=>r= .tup [D.int i,D.int 0]/\τ=s1))(hE:¬v.kind=1->Ct prog 178 [.ref l 0,D.str v.tag] (σ++ [pV]) (fun r τ=>r= .tup [D.int i,D.int 0]/\τ=s1))(h1:s1[q]?=some pV)(hP:Ct prog 32 [.ref q 0,.ref l 0] (s1.set q (jG i v (.v (.pointer none)) [])) (fun r τ=>r= .tup []/\τ=st 0))(hn:v.kids.length<=9999)(hs:∀j,j<=v.kids.length->(st j)[q]?=some (jG i v (.v (.pointer none)) (qsl qs j)))(hG:∀j (h:j<v.kids.length),Ct prog 93 [.ref l 0,iX v.kids[j]] (st j) (fun r τ=>r= .ref (qs j) 0/\τ=a j))(ha:∀j (h:j<v.kids.length),(a j)[q]?=some (jG i v (.v (.pointer none)) (qsl qs j))/\qs j≠q/\(a j)[qs j]?=some (jG (nx j) v.kids[j] (.v (.pointer none)) (ks j)))(hI:∀j (h:j<v.kids.length),Ct prog 64 [.ref l 0,D.int i,D.int j,D.int (nx j)] (((a j).set (qs j) (jG (nx j) v.kids[j] (.ref q 0) (ks j))).set q (jG i v (.v (.pointer none)) (qsl qs (j+1)))) (fun r τ=>r=D.int 0/\τ=st (j+1))):Ct prog 93 [.ref l 0,iX v] σ (fun r σ'=>r= .ref q 0/\σ'=st v.kids.length):=by
 refine zf func93 ?_;subst hq;refine zr ⟨[59],[],[10],[],[]⟩ fun _ _ Z=>?_;simp(disch:=omega)[pV,jG,h1,aM h1];apply Z;refine zr ⟨[59],[],[10],[],[]⟩ fun _ _ Z=>?_;simp(disch:=omega)[pV,jG,h1,aM h1];and_intros<;>(try omega);apply Z;apply aE;refine zr ⟨[59],[],[10],[],[]⟩ fun _ _ Z=>?_;simp(disch:=omega)[pV,jG,h1,aM h1];apply Z;refine zI ?_ ?_<;>intro c1<;>try simp at c1
 .refine zt ⟨[59],[],[10],[],[]⟩ fun _ _ Z=>?_;refine zs 4 fun _ Y=>?_;simp(disch:=omega)[pV,jG,h1,aM h1];apply Y;refine aF fun _ Y=>?_;simp(disch:=omega)[pV,jG,h1,aM h1];refine cT (hT c1) ?_;apply Y;simp(disch:=omega)[pV,jG,h1,aM h1];apply Z;apply fW;refine zk [0,3,4,5] ?_;refine zr ⟨[59],[],[10],[],[]⟩ fun _ _ Z=>?_;refine zs 2 fun _ Y=>?_;simp(disch:=omega)[pV,jG,h1,aM h1];apply Y;refine aF fun _ Y=>?_;simp(disch:=omega)[pV,jG,h1,aM h1];refine cT (aCl σ.length v i (D.int 0) (D.str ⟨#[]⟩) (D.str ⟨#[]⟩) (D.str ⟨#[]⟩) (.sl true []) (.sl true []) (.sl true []) (D.int 0) (D.int 0) (D.int 0) (D.int 0) (D.bool false) (D.bool false) (.sl true []) (D.int 0) (D.int 0) (D.int 0) (D.int 0) (D.int 0) (D.int 0) (D.bool false) (D.int 0) (D.bool false) (D.int 0) (.v (.pointer none)) (.sl true []) _ (aM h1 _)) ?_;apply Y;simp only [eJ];apply Z;refine zr ⟨[59],[],[10],[],[]⟩ fun _ _ Z=>?_;refine zs 2 fun _ Y=>?_;simp(disch:=omega)[pV,jG,h1,aM h1];apply Y;refine aF fun _ Y=>?_;simp(disch:=omega)[pV,jG,h1,aM h1];refine cT (hP) ?_;apply Y;simp only [eJ];apply Z;apply aE;refine zr ⟨[59],[],[10],[],[]⟩ fun _ _ Z=>?_;simp(disch:=omega)[pV,jG,h1,aM h1];and_intros<;>(try omega);apply Z;apply aR;refine zk [0,4,5,41,42,43] ?_;refine nW (fun(j:Nat)=> [(43,.d (.v (.int .i64 (j:Int)))),(6,.d (.any)),(8,.d (.any))]) (fun(j:Nat)=> [[D.int v.kind,D.str v.tag,D.str v.key,D.str v.text,.sl false (v.classes.map D.str),.sl false (v.attrs.map dA),.sl false (v.styles.map cQ),D.int v.opts.enter,D.int v.opts.leave,D.int v.opts.move,D.int v.opts.mode,D.bool v.opts.appear,D.bool v.opts.moves,.sl false (v.kids.map oG)]]) (fun(j:Nat)=>st j) [6,7,8,43,44,45,46,47,48,49,50,51,52,53,54,55,56,57,58,59,60,61,62,63,64,65,66,67,68,69,70,71,72,73,74,75,76] (fun(j:Nat)=>j<=v.kids.length) (fun(j:Nat)=>v.kids.length - j) (0) (by simp <;> rfl) ?_ (by simp) (by simp) ?_ ?_
  .simp
  .simp
  rintro j hj;simp only [aQ,aO];have hsj:=hs j hj;have hql:=aC8 qs j;refine zr ⟨[59],[],[10],[],[]⟩ fun _ _ Z=>?_;simp(disch:=omega)[pV,jG,h1,aM h1];apply Z;apply aE;refine zI ?_ ?_<;>intro c2<;>try simp at c2
  .apply jM;refine zr ⟨[59],[],[10],[],[]⟩ fun _ _ Z=>?_;simp(disch:=omega)[pV,jG,h1,aM h1];and_intros<;>(try omega);apply Z;refine zk [0,4,5,6,7,8,41,42,43] ?_;refine zr ⟨[59],[],[10],[],[]⟩ fun _ _ Z=>?_;refine zs 2 fun _ Y=>?_;simp(disch:=omega)[pV,jG,h1,aM h1];apply Y;refine aF fun _ Y=>?_;simp(disch:=omega)[pV,jG,h1,aM h1];refine cT (hG j (by omega)) ?_;obtain⟨ha1,ha2,ha3⟩:=ha j (by omega);have g1:∀c,((a j).set (qs j) c)[σ.length]?=some (jG i v (.v (.pointer none)) (qsl qs j)):=fun c=>by rw [eR ha2];exact ha1
   have g2:∀c c2,(((a j).set (qs j) c).set σ.length c2)[qs j]?=some c:=fun c c2=>by rw [eR (fun e=>ha2 e.symm)];exact aM ha3 c
   have g3:∀c c2,(((a j).set (qs j) c).set σ.length c2)[σ.length]?=some c2:=fun c c2=>aM (g1 c) c2;have hI2:=hI j (by omega);simp only [jG,Kp,cE,cC,kP] at hI2;apply Y;simp(disch:=omega)[pV,jG,h1,aM h1,ha3,g1,g2,g3];apply Z;refine zk [0,4,5,6,8,41,42,43] ?_;refine zr ⟨[59],[],[10],[],[]⟩ fun _ _ Z=>?_;simp(disch:=omega)[pV,jG,h1,aM h1,ha3,g1,g2,g3];apply Z;refine zk [0,4,5,6,8,41,42,43] ?_;refine zr ⟨[59],[],[10],[],[]⟩ fun _ _ Z=>?_;refine zs 8 fun _ Y=>?_;simp(disch:=omega)[pV,jG,h1,aM h1,ha3,g1,g2,g3];and_intros<;>(try omega);apply Y;simp(disch:=omega)[pV,jG,h1,aM h1,ha3,g1,g2,g3];apply Z;refine zk [0,4,5,6,8,41,42,43] ?_;refine ze ⟨[59],[],[10],[],[]⟩ [.op {},.op {},.op {},.op {},.op {rO:=true},.op {},.op {},.op {},.op {},.op {rO:=true},.det] fun all hall _ Z=>?_;refine kF 8 fun _ Y=>?_;simp(disch:=omega)[pV,jG,h1,aM h1,ha3,g1,g2,g3];apply Y;refine kF 2 fun _ Y=>?_;simp(disch:=omega)[pV,jG,h1,aM h1,ha3,g1,g2,g3];apply Y;refine bY fun _ Y=>?_;simp(disch:=omega)[pV,jG,h1,aM h1,ha3,g1,g2,g3];refine zdd (hI2) ?_;apply Y;simp only [uN];apply Z;apply zB;refine zk [0,4,5,6,8,41,42,43] ?_;refine zt ⟨[59],[],[10],[],[]⟩ fun _ _ Z=>?_;simp(disch:=omega)[pV,jG,h1,aM h1,ha3,g1,g2,g3];and_intros<;>(try omega);apply Z;refine zq (j+1) ?_ ?_ ?_
   .omega
   .try dsimp only
    omega
   simp(disch:=omega)[pV,jG,h1,aM h1,ha3,g1,g2,g3]
  obtain rfl:j=v.kids.length:=by omega
  apply zE;refine zr ⟨[59],[],[10],[],[]⟩ fun _ _ Z=>?_;simp(disch:=omega)[pV,jG,h1,aM h1];apply Z;apply aC;simp [aH]
 refine zt ⟨[59],[],[10],[],[]⟩ fun _ _ Z=>?_;refine zs 4 fun _ Y=>?_;simp(disch:=omega)[pV,jG,h1,aM h1];apply Y;refine aF fun _ Y=>?_;simp(disch:=omega)[pV,jG,h1,aM h1];refine cT (hE c1) ?_;apply Y;simp(disch:=omega)[pV,jG,h1,aM h1];apply Z;apply fW;refine zk [0,3,4,5] ?_;refine zr ⟨[59],[],[10],[],[]⟩ fun _ _ Z=>?_;refine zs 2 fun _ Y=>?_;simp(disch:=omega)[pV,jG,h1,aM h1];apply Y;refine aF fun _ Y=>?_;simp(disch:=omega)[pV,jG,h1,aM h1];refine cT (aCl σ.length v i (D.int 0) (D.str ⟨#[]⟩) (D.str ⟨#[]⟩) (D.str ⟨#[]⟩) (.sl true []) (.sl true []) (.sl true []) (D.int 0) (D.int 0) (D.int 0) (D.int 0) (D.bool false) (D.bool false) (.sl true []) (D.int 0) (D.int 0) (D.int 0) (D.int 0) (D.int 0) (D.int 0) (D.bool false) (D.int 0) (D.bool false) (D.int 0) (.v (.pointer none)) (.sl true []) _ (aM h1 _)) ?_;apply Y;simp only [eJ];apply Z;refine zr ⟨[59],[],[10],[],[]⟩ fun _ _ Z=>?_;refine zs 2 fun _ Y=>?_;simp(disch:=omega)[pV,jG,h1,aM h1];apply Y;refine aF fun _ Y=>?_;simp(disch:=omega)[pV,jG,h1,aM h1];refine cT (hP) ?_;apply Y;simp only [eJ];apply Z;apply aE;refine zr ⟨[59],[],[10],[],[]⟩ fun _ _ Z=>?_;simp(disch:=omega)[pV,jG,h1,aM h1];and_intros<;>(try omega);apply Z;apply aR;refine zk [0,4,5,41,42,43] ?_;refine nW (fun(j:Nat)=> [(43,.d (.v (.int .i64 (j:Int)))),(6,.d (.any)),(8,.d (.any))]) (fun(j:Nat)=> [[D.int v.kind,D.str v.tag,D.str v.key,D.str v.text,.sl false (v.classes.map D.str),.sl false (v.attrs.map dA),.sl false (v.styles.map cQ),D.int v.opts.enter,D.int v.opts.leave,D.int v.opts.move,D.int v.opts.mode,D.bool v.opts.appear,D.bool v.opts.moves,.sl false (v.kids.map oG)]]) (fun(j:Nat)=>st j) [6,7,8,43,44,45,46,47,48,49,50,51,52,53,54,55,56,57,58,59,60,61,62,63,64,65,66,67,68,69,70,71,72,73,74,75,76] (fun(j:Nat)=>j<=v.kids.length) (fun(j:Nat)=>v.kids.length - j) (0) (by simp <;> rfl) ?_ (by simp) (by simp) ?_ ?_
 .simp
 .simp
 rintro j hj;simp only [aQ,aO];have hsj:=hs j hj;have hql:=aC8 qs j;refine zr ⟨[59],[],[10],[],[]⟩ fun _ _ Z=>?_;simp(disch:=omega)[pV,jG,h1,aM h1];apply Z;apply aE;refine zI ?_ ?_<;>intro c3<;>try simp at c3
 .apply jM;refine zr ⟨[59],[],[10],[],[]⟩ fun _ _ Z=>?_;simp(disch:=omega)[pV,jG,h1,aM h1];and_intros<;>(try omega);apply Z;refine zk [0,4,5,6,7,8,41,42,43] ?_;refine zr ⟨[59],[],[10],[],[]⟩ fun _ _ Z=>?_;refine zs 2 fun _ Y=>?_;simp(disch:=omega)[pV,jG,h1,aM h1];apply Y;refine aF fun _ Y=>?_;simp(disch:=omega)[pV,jG,h1,aM h1];refine cT (hG j (by omega)) ?_;obtain⟨ha1,ha2,ha3⟩:=ha j (by omega);have g1:∀c,((a j).set (qs j) c)[σ.length]?=some (jG i v (.v (.pointer none)) (qsl qs j)):=fun c=>by rw [eR ha2];exact ha1
  have g2:∀c c2,(((a j).set (qs j) c).set σ.length c2)[qs j]?=some c:=fun c c2=>by rw [eR (fun e=>ha2 e.symm)];exact aM ha3 c
  have g3:∀c c2,(((a j).set (qs j) c).set σ.length c2)[σ.length]?=some c2:=fun c c2=>aM (g1 c) c2;have hI2:=hI j (by omega);simp only [jG,Kp,cE,cC,kP] at hI2;apply Y;simp(disch:=omega)[pV,jG,h1,aM h1,ha3,g1,g2,g3];apply Z;refine zk [0,4,5,6,8,41,42,43] ?_;refine zr ⟨[59],[],[10],[],[]⟩ fun _ _ Z=>?_;simp(disch:=omega)[pV,jG,h1,aM h1,ha3,g1,g2,g3];apply Z;refine zk [0,4,5,6,8,41,42,43] ?_;refine zr ⟨[59],[],[10],[],[]⟩ fun _ _ Z=>?_;refine zs 8 fun _ Y=>?_;simp(disch:=omega)[pV,jG,h1,aM h1,ha3,g1,g2,g3];and_intros<;>(try omega);apply Y;simp(disch:=omega)[pV,jG,h1,aM h1,ha3,g1,g2,g3];apply Z;refine zk [0,4,5,6,8,41,42,43] ?_;refine ze ⟨[59],[],[10],[],[]⟩ [.op {},.op {},.op {},.op {},.op {rO:=true},.op {},.op {},.op {},.op {},.op {rO:=true},.det] fun all hall _ Z=>?_;refine kF 8 fun _ Y=>?_;simp(disch:=omega)[pV,jG,h1,aM h1,ha3,g1,g2,g3];apply Y;refine kF 2 fun _ Y=>?_;simp(disch:=omega)[pV,jG,h1,aM h1,ha3,g1,g2,g3];apply Y;refine bY fun _ Y=>?_;simp(disch:=omega)[pV,jG,h1,aM h1,ha3,g1,g2,g3];refine zdd (hI2) ?_;apply Y;simp only [uN];apply Z;apply zB;refine zk [0,4,5,6,8,41,42,43] ?_;refine zt ⟨[59],[],[10],[],[]⟩ fun _ _ Z=>?_;simp(disch:=omega)[pV,jG,h1,aM h1,ha3,g1,g2,g3];and_intros<;>(try omega);apply Z;refine zq (j+1) ?_ ?_ ?_
  .omega
  .try dsimp only
   omega
  simp(disch:=omega)[pV,jG,h1,aM h1,ha3,g1,g2,g3]
 obtain rfl:j=v.kids.length:=by omega
 apply zE;refine zr ⟨[59],[],[10],[],[]⟩ fun _ _ Z=>?_;simp(disch:=omega)[pV,jG,h1,aM h1];apply Z;apply aC;simp [aH]
end Go.Proofs.YtbgfljpnhhdkoaaGreat
