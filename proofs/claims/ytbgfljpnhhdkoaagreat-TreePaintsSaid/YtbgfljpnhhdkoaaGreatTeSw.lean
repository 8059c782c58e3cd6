import Derived.Test.YtbgfljpnhhdkoaaGreatWkVi11
import Derived.Test.YtbgfljpnhhdkoaaGreatTeRd
import Derived.Test.YtbgfljpnhhdkoaaGreatWkDr3
set_option linter.all false
set_option maxHeartbeats 8000000
set_option maxRecDepth 20000
open Go.Proofs.Tryz
namespace Go.Proofs.YtbgfljpnhhdkoaaGreat
open Go Go.Vm
variable {F:Nat->Prop}{a i:Int}{j q:Nat}{n:ND}{par:D}{qs:List Nat}{x:RD}
inductive GV:VN->Prop
 | mk (v:VN) (h:aLy v) (hk:∀k∈v.kids,GV k):GV v
theorem GV.m {v:VN} (h:GV v):aLy v:=by cases h;assumption
theorem GV.k {v:VN} (h:GV v):∀k∈v.kids,GV k:=by cases h;assumption
def OkC(v:VN)(a e:Int):Prop:=(e=0->GV v/\0<=a)/\ -1<=a/\a<=9999
theorem Mg {v:VN} {e:Int} (h:¬e=0)(h1: -1<=a)(h2:a<=9999):OkC v a e:=⟨fun e=>absurd e h,h1,h2⟩
theorem Ml {v w:VN} {e:Int} (h:¬e=0)(ho:OkC w a e):OkC v a e:=⟨fun e=>absurd e h,ho.2⟩
theorem Lg {v:VN} {k:Nat} {b:Bool} (hb:iH v b)(h:b=true)(hk:∀x∈v.kids.take k,GV x)(e:v.kids.length<=k)(h1:0<=a)(h2:a<=9999):OkC v a 0:=by
 rw [bZ e] at hk;exact⟨fun _=>⟨.mk v (hb h) hk,h1⟩,by omega,h2⟩
abbrev aKv(v:VN):Prop:=∀(deep depth left:Int) (σ:List (List D)),0<=deep->deep+dL v<=9999->0<=left->left<=9999->Ct prog 91 [kJ v,D.int deep,D.int depth,D.int left] σ (fun r σ'=>(∃a e:Int,r= .tup [D.int a,D.int e]/\OkC v a e)/\σ'=σ)
theorem aAf(v:VN)(deep depth left:Int)(σ:List (List D))(h:VF v)(hc:dL v<=9999)(hd0:0<=deep)(hd1:deep+dL v<=9999)(hl0:0<=left)(hl1:left<=9999)(ih:∀k∈v.kids,aKv k):Ct prog 91 [kJ v,D.int deep,D.int depth,D.int left] σ (fun r σ'=>(∃a e:Int,r= .tup [D.int a,D.int e]/\OkC v a e)/\σ'=σ):=by
 refine zf func91 ?_;have hkl:=pV v;have hns:=aKw h;have hnl:=aBh h;have hV:=h;obtain⟨h1,h2,h3,h4,h5,h6,h7,h8,h9⟩:=h;refine aZ fun _ _ Z=>?_;simp(disch:=omega);apply Z;refine aZ fun _ _ Z=>?_;simp(disch:=omega);and_intros<;>(try omega);apply Z;apply aF;refine aZ fun _ _ Z=>?_;simp(disch:=omega);apply Z;refine zI ?_ ?_<;>intro c1<;>try simp at c1
 .refine aZ fun _ _ Z=>?_;simp(disch:=omega);apply Z;apply aD;simp [aJ];refine⟨_,_,⟨rfl,rfl⟩,?_⟩;first | exact Mg (by decide) (by omega) (by omega) | exact Ml (by assumption) hoc | exact Lg hmb (by assumption) hgv (by omega) hy0 hy1
 apply zA;apply aF;refine aZ fun _ _ Z=>?_;simp(disch:=omega);apply Z;refine zI ?_ ?_<;>intro c2<;>try simp at c2
 .refine aZ fun _ _ Z=>?_;simp(disch:=omega);apply Z;apply aD;simp [aJ];refine⟨_,_,⟨rfl,rfl⟩,?_⟩;first | exact Mg (by decide) (by omega) (by omega) | exact Ml (by assumption) hoc | exact Lg hmb (by assumption) hgv (by omega) hy0 hy1
 apply zA;apply aF;refine aZ fun _ _ Z=>?_;refine zs 1 fun _ Y=>?_;simp(disch:=omega);apply Y;refine aE fun _ Y=>?_;simp(disch:=omega);refine Qa (aO8 v _ hV (by omega)) ?_;rintro _ _ ⟨⟨mb,hr9,hmb⟩,hs9⟩;subst hr9;subst hs9;apply Y;simp(disch:=omega);apply Z;refine zI ?_ ?_<;>intro c3<;>try simp at c3
 .refine zk [1,2,3,4,8,9] ?_;refine aZ fun _ _ Z=>?_;simp(disch:=omega);apply Z;apply aD;simp [aJ];refine⟨_,_,⟨rfl,rfl⟩,?_⟩;first | exact Mg (by decide) (by omega) (by omega) | exact Ml (by assumption) hoc | exact Lg hmb (by assumption) hgv (by omega) hy0 hy1
 apply zA;apply aF;refine zk [1,2,3,4,8,9] ?_;refine aZ fun _ _ Z=>?_;refine zs 1 fun _ Y=>?_;simp(disch:=omega);apply Y;refine aE fun _ Y=>?_;simp(disch:=omega);refine bS (zX v _ (by omega) (by omega) (by omega)) ?_;obtain⟨N,hN⟩:∃N,eJ (iX v)=N:=⟨_,rfl⟩;rw [hN] at hns hnl |-;apply Y;simp(disch:=omega);and_intros<;>(try omega);apply Z;apply aR;refine zk [1,2,3,4,8,9,34,35,36] ?_;refine bA (fun(k0:Nat)=> [(36,.d (.v (.int .i64 (k0:Int)))),(11,.d (.any))]) [8,9,11,36,37,38,39,40,41,42,43] (fun(k0:Nat)=>k0<=N.length) (fun(k0:Nat)=>N.length - k0) (0) (by simp <;> rfl) ?_ ?_ ?_
 .simp
 .simp
 rintro k0 hk0;simp only [aQ,aP];refine aZ fun _ _ Z=>?_;simp(disch:=omega);apply Z;apply aF;refine zI ?_ ?_<;>intro c4<;>try simp at c4
 .apply kB;refine aZ fun _ _ Z=>?_;simp(disch:=omega);and_intros<;>(try omega);apply Z;refine zk [1,2,3,4,11,34,35,36] ?_;refine aZ fun _ _ Z=>?_;refine zs 1 fun _ Y=>?_;simp(disch:=omega);apply Y;refine aE fun _ Y=>?_;simp(disch:=omega);refine Qa (aOd N[k0] _ (by have:=hns N[k0] (cJ _);omega)) ?_;rintro _ _ ⟨⟨bb,hr9⟩,hs9⟩;subst hr9;subst hs9;apply Y;simp only [cX];apply Z;refine zI ?_ ?_<;>intro c5<;>try simp at c5
  .refine aZ fun _ _ Z=>?_;simp(disch:=omega);apply Z;apply aD;simp [aJ];refine⟨_,_,⟨rfl,rfl⟩,?_⟩;first | exact Mg (by decide) (by omega) (by omega) | exact Ml (by assumption) hoc | exact Lg hmb (by assumption) hgv (by omega) hy0 hy1
  apply nD;refine mD fun _ _ Z=>?_;simp(disch:=omega);and_intros<;>(try omega);apply Z;refine zq (k0+1) ?_ ?_ ?_
  .omega
  .try dsimp only
   omega
  simp(disch:=omega)
 apply zE;apply aF;refine aZ fun _ _ Z=>?_;simp(disch:=omega);and_intros<;>(try omega);apply Z;apply aR;refine zk [1,2,3,4,45,46,47] ?_;refine bA (fun(k1:Nat)=> [(47,.d (.v (.int .i64 (k1:Int)))),(12,.d (.any))]) [8,9,12,13,15,47,48,49,50,51,52,53,54,55,56,57,58,59,60,61,62,63,64,65,66,67,68,69,70,71,72,73] (fun(k1:Nat)=>k1<=v.kids.length) (fun(k1:Nat)=>v.kids.length - k1) (0) (by simp <;> rfl) ?_ ?_ ?_
 .simp
 .simp
 rintro k1 hk1;simp only [aQ,aP];refine aZ fun _ _ Z=>?_;simp(disch:=omega);apply Z;apply aF;refine zI ?_ ?_<;>intro c6<;>try simp at c6
 .apply kB;refine aZ fun _ _ Z=>?_;simp(disch:=omega);and_intros<;>(try omega);apply Z;refine zk [1,2,3,4,12,13,45,46,47] ?_;refine aZ fun _ _ Z=>?_;simp(disch:=omega);and_intros<;>(try omega);apply Z;apply aR;refine zk [1,2,3,4,12,13,45,46,47,55,56,57] ?_;refine bA (fun(k2:Nat)=> [(57,.d (.v (.int .i64 (k2:Int))))]) [8,9,15,57,58,59,60,61,62,63,64,65,66,67,68,69,70,71,72] (fun(k2:Nat)=>k2<=k1) (fun(k2:Nat)=>k1 - k2) (0) (by simp <;> rfl) ?_ ?_ ?_
  .simp
  .simp
  rintro k2 hk2;simp only [aQ,aP];refine zk [1,2,3,4,12,13,45,46,47,55,56,57] ?_;refine aZ fun _ _ Z=>?_;simp(disch:=omega);apply Z;apply aF;refine zI ?_ ?_<;>intro c7<;>try simp at c7
  .apply kB;refine zk [1,2,3,4,12,13,45,46,47,55,56,57] ?_;refine aZ fun _ _ Z=>?_;simp(disch:=omega);and_intros<;>(try omega);apply Z;refine zk [1,2,3,4,12,13,15,45,46,47,55,56,57] ?_;refine iU ⟨[],[],[],[],[]⟩ fun all hall _ Z=>?_;have ga3:aK all 3=some 64:=hall 3;refine zs 4 fun _ Y=>?_;simp(disch:=omega)[ga3];apply Y;refine zb 64 ?_ ?_<;>intro g8<;>try simp at g8
   .simp(disch:=omega)[ga3];apply Z;refine zI ?_ ?_<;>intro c9<;>try simp at c9
    .refine zk [1,2,3,4,12,13,45,46,47,55,56,57] ?_;refine aZ fun _ _ Z=>?_;simp(disch:=omega);apply Z;apply aD;apply aFf;apply aMf;simp [aJ];refine⟨_,_,⟨rfl,rfl⟩,?_⟩;first | exact Mg (by decide) (by omega) (by omega) | exact Ml (by assumption) hoc | exact Lg hmb (by assumption) hgv (by omega) hy0 hy1
    apply nD;refine zk [1,2,3,4,12,13,45,46,47,55,56,57] ?_;refine mD fun _ _ Z=>?_;simp(disch:=omega);and_intros<;>(try omega);apply Z;refine zq (k2+1) ?_ ?_ ?_
    .omega
    .try dsimp only
     omega
    simp(disch:=omega)
   simp(disch:=omega)[ga3];apply Z;refine aV (t:=false) (by simp) (fun h=>by cases h) (fun _=>?_);apply nD;refine zk [1,2,3,4,12,13,45,46,47,55,56,57] ?_;refine mD fun _ _ Z=>?_;simp(disch:=omega);and_intros<;>(try omega);apply Z;refine zq (k2+1) ?_ ?_ ?_
   .omega
   .try dsimp only
    omega
   simp(disch:=omega)
  apply Cu;apply Di;apply Eb;apply yK;apply zB;refine zk [1,2,3,4,12,45,46,47] ?_;refine mD fun _ _ Z=>?_;simp(disch:=omega);and_intros<;>(try omega);apply Z;refine zq (k1+1) ?_ ?_ ?_
  .omega
  .try dsimp only
   omega
  simp(disch:=omega)
 apply zE;apply aF;refine aZ fun _ _ Z=>?_;simp(disch:=omega);and_intros<;>(try omega);apply Z;apply aR;refine zk [1,2,3,75,76,77] ?_;refine bA (fun(p:Nat×Int)=> [(77,.d (.v (.int .i64 (p.1:Int)))),(3,.d (.int p.2)),(18,.d (.any)),(19,.d (.any)),(81,.d (.any))]) [3,8,9,17,18,19,77,78,79,80,81,82,83,84,85,86,87,88,89,90,91,92,93,94,95] (fun(p:Nat×Int)=>p.1<=v.kids.length/\(∀x∈v.kids.take p.1,GV x)/\0<=p.2/\p.2<=9999) (fun(p:Nat×Int)=>v.kids.length - p.1) ((0,left - 1)) (by simp <;> rfl) ?_ ?_ ?_
 .simp
 .simp;omega
 rintro⟨k3,y⟩ ⟨hk3,hgv,hy0,hy1⟩;simp only [aQ,aP];dsimp only at hk3 hgv hy0 hy1;refine aZ fun _ _ Z=>?_;simp(disch:=omega);apply Z;apply aF;refine zI ?_ ?_<;>intro c10<;>try simp at c10
 .apply kB;refine aZ fun _ _ Z=>?_;simp(disch:=omega);and_intros<;>(try omega);apply Z;refine zk [1,2,3,17,18,19,75,76,77,81] ?_;refine aZ fun _ _ Z=>?_;refine zs 5 fun _ Y=>?_;simp(disch:=omega);and_intros<;>(try omega);apply Y;refine aE fun _ Y=>?_;simp(disch:=omega);refine Qa (ih v.kids[k3] (cJ _) (deep+1) depth y _ (by omega) (by have:=fY (v:=v) (cJ (l:=v.kids) (n:=k3) (by omega));omega) hy0 hy1) ?_;rintro _ _ ⟨⟨a,e,hr9,hoc⟩,hs9⟩;subst hr9;subst hs9;apply Y;simp(disch:=omega);apply Z;apply aF;refine zk [1,2,3,18,19,75,76,77,81] ?_;refine aZ fun _ _ Z=>?_;simp(disch:=omega);apply Z;refine zI ?_ ?_<;>intro c11<;>try simp at c11
  .refine aZ fun _ _ Z=>?_;simp(disch:=omega);apply Z;apply aD;simp [aJ];refine⟨_,_,⟨rfl,rfl⟩,?_⟩;first | exact Mg (by decide) (by omega) (by omega) | exact Ml (by assumption) hoc | exact Lg hmb (by assumption) hgv (by omega) hy0 hy1
  apply zA;refine mD fun _ _ Z=>?_;simp(disch:=omega);apply Z;apply zB;refine zk [1,2,3,18,19,75,76,77,81] ?_;refine mD fun _ _ Z=>?_;simp(disch:=omega);and_intros<;>(try omega);apply Z;refine zq ((k3+1,a)) ?_ ?_ ?_
  .refine⟨by omega,Dq (by omega) hgv ((hoc.1 (by assumption)).1),(hoc.1 (by assumption)).2,hoc.2.2⟩
  .try dsimp only
   omega
  simp(disch:=omega)
 apply zE;refine aZ fun _ _ Z=>?_;simp(disch:=omega);apply Z;apply aD;simp [aJ];refine⟨_,_,⟨rfl,rfl⟩,?_⟩;first | exact Mg (by decide) (by omega) (by omega) | exact Ml (by assumption) hoc | exact Lg hmb (by assumption) hgv (by omega) hy0 hy1
theorem Ni(v:VN)(h:VG v)(hc:dL v<=100):aKv v:=fun deep depth left σ h1 h2 h3 h4=>aAf v deep depth left σ h.f (by omega) h1 h2 h3 h4 fun k hk=>Ni k (h.k k hk) (by have:=fY hk;omega)
termination_by dL v
decreasing_by
 have:=fY hk;omega
def OkE(v:VN)(e:Int):Prop:=e=0->GV v
theorem Oy(v:VN)(depth nodes:Int)(σ:List (List D))(h:VG v)(hc:dL v<=100):Ct prog 29 [kJ v,D.int depth,D.int nodes] σ (fun r σ'=>(∃e:Int,r=D.int e/\OkE v e)/\σ'=σ):=by
 refine zf func29 ?_;refine aZ fun _ _ Z=>?_;simp(disch:=omega);apply Z;refine aZ fun _ _ Z=>?_;refine zs 7 fun _ Y=>?_;simp(disch:=omega);and_intros<;>(try omega);apply Y;refine aE fun _ Y=>?_;simp(disch:=omega);refine Qa (Ni v h hc 1 (max 1 (min depth 20)) (max 1 (min nodes 4096)) _ (by omega) (by omega) (by omega) (by omega)) ?_;rintro _ _ ⟨⟨a,e,hr9,hoc⟩,hs9⟩;subst hr9;subst hs9;apply Y;simp(disch:=omega);apply Z;refine zk [6,8] ?_;refine aZ fun _ _ Z=>?_;simp(disch:=omega);apply Z;apply aD;simp [aJ];exact fun e=>(hoc.1 e).1
structure NV(v:VN):Prop where
 c4:v.classes.length<=4
 a4:v.attrs.length<=4
 s4:v.styles.length<=4
 cl:bP v.classes=v.classes
 sa:Sorted nA v.attrs
 ss:Sorted nP v.styles
 av:∀p∈v.attrs,p.value.size<=40
 t1:v.kind=1->v.kids= []/\eJ (iX v)= []
 e2:¬v.kind=1->dH v.tag=true/\(∀s∈eJ (iX v),dH s=true)/\∀p∈v.styles,wU p.value=p.value
inductive NN:VN->Prop
 | mk (v:VN) (h:NV v) (hk:∀k∈v.kids,NN k):NN v
theorem NN.v {v:VN} (h:NN v):NV v:=by cases h;assumption
theorem NN.k {v:VN} (h:NN v):∀k∈v.kids,NN k:=by cases h;assumption
theorem NN.tk:∀ {v:VN},NN v->TK v
 | v,h=> .mk v (fun e=>(h.v.t1 e).1) fun k hk=>NN.tk (h.k k hk)
termination_by v=>dL v
decreasing_by
 have:=fY hk;omega
theorem NV.txt {v:VN} (h:NV v)(s:ByteArray):NV (txt v s):=⟨h.c4,h.a4,h.s4,h.cl,h.sa,h.ss,h.av,h.t1,h.e2⟩
theorem NN.txt {v:VN} (h:NN v)(s:ByteArray):NN (txt v s):= .mk _ (h.v.txt s) h.k
theorem aB8 {v:VN} {s:ByteArray} (h:s∈eJ (iX (cC v))):s∈eJ (iX v):=by
 rw [kU] at h;unfold eJ iX at h |-;simp only [bN,aX] at h |-;rcases h with (h | ⟨p,hp,e⟩) | ⟨p,hp,e⟩
 .exact .inl (.inl (Ah.1 h))
 .exact .inl (.inr ⟨p,oC hp,e⟩)
 exact .inr ⟨p,oC hp,e⟩
theorem Ie(l:Ls):bP (bP l)=bP l:=by
 have h:∀r:Ls,r.Nodup->bP r=r:=by
  intro r;obtain⟨q,rfl⟩:∃q,r=List.reverse q:=⟨r.reverse,by simp⟩;induction q with
  | nil=>intro _;rfl
  | cons a q ih=>
   intro hn;rw [Gv] at hn |-;have hn2:q.reverse.Nodup:=(mQ.1 hn).1;rw [nM,ih hn2];unfold rQ;rw [aA];rw [jK];intro hm;exact(mQ.1 hn).2.2 a hm a (by simp) rfl
 exact h _ (oU l)
theorem wC:∀ {v:VN},VG v->GV v->NN (cC v)
 | v, h, hg => by
  have hm:=hg.m;obtain⟨a,b,c, -, -, -, -,d, -⟩:=h.f;have he:=kU v;refine .mk _ ⟨?_,?_,?_,?_,?_,?_,?_,?_,?_⟩ fun k hk=>?_
  .rw [he];have:=lT v.classes;show(bP v.classes).length<=4;omega
  .rw [he];have:=iC nA v.attrs;show(iB nA v.attrs).length<=4;omega
  .rw [he];have:=iC nP v.styles;show(iB nP v.styles).length<=4;omega
  .rw [he];exact Ie _
  .rw [he];exact fJ nA _
  .rw [he];exact fJ nP _
  .rw [he];intro p hp;exact(d p (oC hp)).2
  .intro e;rw [tH] at e;rcases hm with ⟨-,h1,h2⟩ | ⟨h1, -⟩
   .refine⟨by rw [he];show gY ((v.kids.map cC).filter jT)= [];rw [h2];rfl,?_⟩;refine Hf.2 fun s hs=>?_;have:=aB8 hs;rw [h1] at this;cases this
   omega
  .intro e;rw [tH] at e;rcases hm with ⟨h1, -⟩ | ⟨-, -,h2,h3,h4⟩
   .exact absurd h1 e
   refine⟨by rw [he];exact h2,fun s hs=>h3 s (aB8 hs),fun p hp=>?_⟩;rw [he] at hp;have:=h4 p (oC hp);exact Jy ⟨by omega,by omega⟩
  rw [he] at hk;obtain⟨y,hy,s,rfl⟩:=aEs hk;obtain⟨z,hz,rfl⟩:=aX.1 (dP.1 hy).1;exact(wC (h.k z hz) (hg.k z hz)).txt s
termination_by v=>dL v
decreasing_by
 have:=fY hz;omega
theorem NV.ow {v:VN} (h:NV v)(he:¬v.kind=1):OwOk (iX v):=⟨h.sa,h.ss,(h.e2 he).2.2⟩
theorem NV.put {v:VN} (h:NV v):jX ⟨0,0,0,0⟩ (iX v)=iX v:=by
 unfold jX wT wS;have hc:fX ⟨0,0,0,0⟩= []:=by decide+kernel
 have hg:kF ⟨0,0,0,0⟩=false:=by decide+kernel
 rw [hc,hg,aA (by simp),aA (by simp)];show OW.mk (bP (v.classes++ [])) (iB nA v.attrs) (iB nP v.styles)=iX v
 rw [gN,h.cl,qK nA h.sa,qK nP h.ss];rfl
section
variable {k m M l:Nat}{d d' d2:DS}{rk rk':Int->Nat}{σ σ2 σ3:List (List D)}{y:RD}{ops:List TOp}
theorem LX.put_(h:LX k m M l d rk x ops σ) (hq:Off m d q)(hl:q≠l)(c:List D):LX k m M l d rk x ops (σ.set q c):=
 ⟨h.ix.put hq c,h.off,by rw [fQ hl];exact h.at_,h.len⟩
theorem LX.app_(h:LX k m M l d rk x ops σ)(J:List (List D)):LX k m M l d rk x ops (σ++J):=
 ⟨h.ix.app J,h.off,by rw [bC (pE h.at_)];exact h.at_,h.len⟩
theorem LX.up_(h:LX k m M l d rk x ops σ):∀j,LX (k+j) m M l d rk x ops σ
 | 0=>h
 | j+1=>(h.up_ j).keep
def lD(i:Int)(v:VN)(par:D)(qs:List Nat):List D:= [D.int i,D.int v.kind,D.str v.tag,D.str v.key,D.str v.text,.sl false (v.classes.map D.str),.sl false (v.attrs.map cY),.sl false (v.styles.map cR),D.int v.opts.enter,D.int v.opts.leave,D.int v.opts.move,D.int v.opts.mode,D.bool v.opts.appear,D.bool v.opts.moves,.sl false [],
 D.int 0,D.int 0,D.int 0,D.int 0,D.int 0,D.int 0,D.bool false,D.int 0,D.bool false,D.int 0,par,.sl true (qs.map fun q=>D.ref q 0)]
inductive ItOk(σ:List (List D)):(Nat->Prop)->Int->VN->D->Nat->Prop
 | mk (F : Nat -> Prop) (i : Int) (v : VN) (par : D) (q : Nat) (qs : List Nat) (hF : F q) (hq : σ[q]? = some (lD i v par qs)) (hl : qs.length = v.kids.length)
   (hk:∀(j:Nat) (h1:j<v.kids.length) (h2:j<qs.length) (h3:j<(lJ (i+1) v.kids).length),ItOk σ (fun p=>F p/\q<p) ((lJ (i+1) v.kids)[j]) (v.kids[j]) (.ref q 0) (qs[j])):ItOk σ F i v par q
theorem ItOk.frame {v:VN} (h:ItOk σ F i v par q):∀ {G:Nat->Prop},(∀q,F q->G q/\σ2[q]?=σ[q]?)->ItOk σ2 G i v par q:=by
 induction h with
 | mk F i v par q qs hF hq hl hk ih=>
  intro G hs;exact .mk G i v par q qs (hs q hF).1 (by rw [(hs q hF).2];exact hq) hl fun j h1 h2 h3=>ih j h1 h2 h3 fun p hp=>⟨⟨(hs p hp.1).1,hp.2⟩,(hs p hp.1).2⟩
def KidsOk(σ:List (List D))(F:Nat->Prop)(i:Int)(v:VN)(q:Nat)(qs:List Nat)(j:Nat):Prop:=
 qs.length=j/\∀(a:Nat) (h1:a<v.kids.length) (h2:a<qs.length) (h3:a<(lJ (i+1) v.kids).length),ItOk σ F ((lJ (i+1) v.kids)[a]) (v.kids[a]) (.ref q 0) (qs[a])
theorem KidsOk.frame {G:Nat->Prop} (hs:∀q,F q->G q/\σ2[q]?=σ[q]?) {v:VN} (h:KidsOk σ F i v q qs j):KidsOk σ2 G i v q qs j:=
 ⟨h.1,fun a h1 h2 h3=>(h.2 a h1 h2 h3).frame hs⟩
theorem KidsOk.zero(σ:List (List D))(F:Nat->Prop)(i:Int)(v:VN)(q:Nat):KidsOk σ F i v q [] 0:=⟨rfl,fun a _ h _=>absurd h (by simp)⟩
theorem KidsOk.snoc {v:VN} {p:Nat} (h:KidsOk σ F i v q qs j)(hj:j<v.kids.length)(hp:ItOk σ F (pL i v j) v.kids[j] (.ref q 0) p):KidsOk σ F i v q (qs++ [p]) (j+1):=by
 refine⟨by simp [h.1],fun a h1 h2 h3=>?_⟩;have hl:=h.1;by_cases ha:a<j
 .have e:(qs++ [p])[a]=qs[a]'(by omega):=zK (by omega);rw [e];exact h.2 a h1 (by omega) h3
 have ea:a=j:=by simp at h2;omega
 subst ea;have e:(qs++ [p])[a]=p:=by rw [zP (by omega)];simp [hl]
 rw [e];have ei : (lJ (i + 1) v.kids)[a] = pL i v a := by
  have h4:lJ (i+1) v.kids=lJ (i+1) (v.kids.take a)++lJ (i+1+((((v.kids.take a).map dL).sum:Nat):Int)) (v.kids.drop a):=by
   have:∀(A B:List VN) (s:Int),lJ s (A++B)=lJ s A++lJ (s+(((A.map dL).sum:Nat):Int)) B:=by
    intro A;induction A with
    | nil=>intro B s;simp [lJ]
    | cons c A ih=>
     intro B s;simp only [aQ,lJ,ih,cM,kQ];congr 3;omega
   rw [<- this,fH]
  have h5:(lJ (i+1) (v.kids.take a)).length=a:=by rw [xM,bG];omega
  have h6:(lJ (i+1) v.kids)[a]?=some (pL i v a):=by
   rw [h4,bW (by omega),h5,mI,yP hj];simp [lJ,pL,Be]
  rw [aU h3] at h6;exact sJ h6
 rw [ei];exact hp
theorem KidsOk.done {v:VN} (h:KidsOk σ (fun p=>F p/\q<p) i v q qs v.kids.length)(hF:F q)(hq:σ[q]?=some (lD i v par qs)):ItOk σ F i v par q:= .mk F i v par q qs hF hq h.1 h.2
theorem ItOk.par_ {v:VN} (h:ItOk σ F i v par q)(par2:D):∃qs,σ[q]?=some (lD i v par qs)/\ItOk (σ.set q (lD i v par2 qs)) F i v par2 q:=by
 cases h with
 | mk _ _ _ _ _ qs hF hq hl hk=>
  exact⟨qs,hq,.mk F i v par2 q qs hF (aN hq _) hl fun j h1 h2 h3=>(hk j h1 h2 h3).frame fun p hp=>⟨hp,by rw [fQ (by omega)]⟩⟩
theorem ItOk.F_ {v:VN} (h:ItOk σ F i v par q):F q:=by cases h;assumption
theorem ItOk.at_ {v:VN} (h:ItOk σ F i v par q):∃qs,σ[q]?=some (lD i v par qs)/\qs.length=v.kids.length:=by
 cases h with
 | mk _ _ _ _ _ qs hF hq hl hk=>exact⟨qs,hq,hl⟩
end
def pW:List D:= [D.int 0,D.int 0,D.str ⟨#[]⟩,D.str ⟨#[]⟩,D.str ⟨#[]⟩,.sl true [],.sl true [],.sl true [],D.int 0,D.int 0,D.int 0,D.int 0,D.bool false,D.bool false,.sl true [],D.int 0,D.int 0,D.int 0,D.int 0,D.int 0,D.int 0,D.bool false,D.int 0,D.bool false,D.int 0,.v (.pointer none),.sl true []]
def qsl(qs:Nat->Nat)(j:Nat):List Nat:=(List.range j).map qs
theorem Jv(qs:Nat->Nat)(j:Nat):qsl qs (j+1)=qsl qs j++ [qs j]:=by unfold qsl;rw [uL,cZ];rfl
theorem aB4(qs:Nat->Nat)(j:Nat):(qsl qs j).length=j:=by simp [qsl]
theorem aH7(l q:Nat)(v:VN)(i:Int)(s1:List (List D))(st a:Nat->List (List D))(qs:Nat->Nat)(nx:Nat->Int)(ks:Nat->List Nat)(σ:List (List D))(hq:q=σ.length)(hT:v.kind=1->Ct prog 177 [.ref l 0,D.str v.text] (σ++ [pW]) (fun r τ=>r= .tup [D.int i,D.int 0]/\τ=s1))(hE:¬v.kind=1->Ct prog 178 [.ref l 0,D.str v.tag] (σ++ [pW]) (fun r τ=>r= .tup [D.int i,D.int 0]/\τ=s1))(h1:s1[q]?=some pW)(hP:Ct prog 32 [.ref q 0,.ref l 0] (s1.set q (lD i v (.v (.pointer none)) [])) (fun r τ=>r= .tup []/\τ=st 0))(hn:v.kids.length<=9999)(hs:∀j,j<=v.kids.length->(st j)[q]?=some (lD i v (.v (.pointer none)) (qsl qs j)))(hG:∀j (h:j<v.kids.length),Ct prog 93 [.ref l 0,kJ v.kids[j]] (st j) (fun r τ=>r= .ref (qs j) 0/\τ=a j))(ha:∀j (h:j<v.kids.length),(a j)[q]?=some (lD i v (.v (.pointer none)) (qsl qs j))/\qs j≠q/\(a j)[qs j]?=some (lD (nx j) v.kids[j] (.v (.pointer none)) (ks j)))(hI:∀j (h:j<v.kids.length),Ct prog 64 [.ref l 0,D.int i,D.int j,D.int (nx j)] (((a j).set (qs j) (lD (nx j) v.kids[j] (.ref q 0) (ks j))).set q (lD i v (.v (.pointer none)) (qsl qs (j+1)))) (fun r τ=>r=D.int 0/\τ=st (j+1))):Ct prog 93 [.ref l 0,kJ v] σ (fun r σ'=>r= .ref q 0/\σ'=st v.kids.length):=by
 refine zf func93 ?_;subst hq;refine zr ⟨[59],[],[10],[],[]⟩ fun _ _ Z=>?_;simp(disch:=omega)[pW,lD,h1,aN h1];apply Z;refine zr ⟨[59],[],[10],[],[]⟩ fun _ _ Z=>?_;simp(disch:=omega)[pW,lD,h1,aN h1];and_intros<;>(try omega);apply Z;apply aF;refine zr ⟨[59],[],[10],[],[]⟩ fun _ _ Z=>?_;simp(disch:=omega)[pW,lD,h1,aN h1];apply Z;refine zI ?_ ?_<;>intro c1<;>try simp at c1
 .refine zt ⟨[59],[],[10],[],[]⟩ fun _ _ Z=>?_;refine zs 4 fun _ Y=>?_;simp(disch:=omega)[pW,lD,h1,aN h1];apply Y;refine aE fun _ Y=>?_;simp(disch:=omega)[pW,lD,h1,aN h1];refine bS (hT c1) ?_;apply Y;simp(disch:=omega)[pW,lD,h1,aN h1];apply Z;apply bY;refine zk [0,3,4,5] ?_;refine zr ⟨[59],[],[10],[],[]⟩ fun _ _ Z=>?_;refine zs 2 fun _ Y=>?_;simp(disch:=omega)[pW,lD,h1,aN h1];apply Y;refine aE fun _ Y=>?_;simp(disch:=omega)[pW,lD,h1,aN h1];refine bS (aBm σ.length v i (D.int 0) (D.str ⟨#[]⟩) (D.str ⟨#[]⟩) (D.str ⟨#[]⟩) (.sl true []) (.sl true []) (.sl true []) (D.int 0) (D.int 0) (D.int 0) (D.int 0) (D.bool false) (D.bool false) (.sl true []) (D.int 0) (D.int 0) (D.int 0) (D.int 0) (D.int 0) (D.int 0) (D.bool false) (D.int 0) (D.bool false) (D.int 0) (.v (.pointer none)) (.sl true []) _ (aN h1 _)) ?_;apply Y;simp only [cX];apply Z;refine zr ⟨[59],[],[10],[],[]⟩ fun _ _ Z=>?_;refine zs 2 fun _ Y=>?_;simp(disch:=omega)[pW,lD,h1,aN h1];apply Y;refine aE fun _ Y=>?_;simp(disch:=omega)[pW,lD,h1,aN h1];refine bS (hP) ?_;apply Y;simp only [cX];apply Z;apply aF;refine zr ⟨[59],[],[10],[],[]⟩ fun _ _ Z=>?_;simp(disch:=omega)[pW,lD,h1,aN h1];and_intros<;>(try omega);apply Z;apply aR;refine zk [0,4,5,41,42,43] ?_;refine oW (fun(j:Nat)=> [(43,.d (.v (.int .i64 (j:Int)))),(6,.d (.any)),(8,.d (.any))]) (fun(j:Nat)=> [[D.int v.kind,D.str v.tag,D.str v.key,D.str v.text,.sl false (v.classes.map D.str),.sl false (v.attrs.map cY),.sl false (v.styles.map cR),D.int v.opts.enter,D.int v.opts.leave,D.int v.opts.move,D.int v.opts.mode,D.bool v.opts.appear,D.bool v.opts.moves,.sl false (v.kids.map pF)]]) (fun(j:Nat)=>st j) [6,7,8,43,44,45,46,47,48,49,50,51,52,53,54,55,56,57,58,59,60,61,62,63,64,65,66,67,68,69,70,71,72,73,74,75,76] (fun(j:Nat)=>j<=v.kids.length) (fun(j:Nat)=>v.kids.length - j) (0) (by simp <;> rfl) ?_ (by simp) (by simp) ?_ ?_
  .simp
  .simp
  rintro j hj;simp only [aQ,aP];have hsj:=hs j hj;have hql:=aB4 qs j;refine zr ⟨[59],[],[10],[],[]⟩ fun _ _ Z=>?_;simp(disch:=omega)[pW,lD,h1,aN h1];apply Z;apply aF;refine zI ?_ ?_<;>intro c2<;>try simp at c2
  .apply kB;refine zr ⟨[59],[],[10],[],[]⟩ fun _ _ Z=>?_;simp(disch:=omega)[pW,lD,h1,aN h1];and_intros<;>(try omega);apply Z;refine zk [0,4,5,6,7,8,41,42,43] ?_;refine zr ⟨[59],[],[10],[],[]⟩ fun _ _ Z=>?_;refine zs 2 fun _ Y=>?_;simp(disch:=omega)[pW,lD,h1,aN h1];apply Y;refine aE fun _ Y=>?_;simp(disch:=omega)[pW,lD,h1,aN h1];refine bS (hG j (by omega)) ?_;obtain⟨ha1,ha2,ha3⟩:=ha j (by omega);have g1:∀c,((a j).set (qs j) c)[σ.length]?=some (lD i v (.v (.pointer none)) (qsl qs j)):=fun c=>by rw [fQ ha2];exact ha1
   have g2:∀c c2,(((a j).set (qs j) c).set σ.length c2)[qs j]?=some c:=fun c c2=>by rw [fQ (fun e=>ha2 e.symm)];exact aN ha3 c
   have g3:∀c c2,(((a j).set (qs j) c).set σ.length c2)[σ.length]?=some c2:=fun c c2=>aN (g1 c) c2;have hI2:=hI j (by omega);simp only [lD,Jv,cZ,cM,lO] at hI2;apply Y;simp(disch:=omega)[pW,lD,h1,aN h1,ha3,g1,g2,g3];apply Z;refine zk [0,4,5,6,8,41,42,43] ?_;refine zr ⟨[59],[],[10],[],[]⟩ fun _ _ Z=>?_;simp(disch:=omega)[pW,lD,h1,aN h1,ha3,g1,g2,g3];apply Z;refine zk [0,4,5,6,8,41,42,43] ?_;refine zr ⟨[59],[],[10],[],[]⟩ fun _ _ Z=>?_;refine zs 8 fun _ Y=>?_;simp(disch:=omega)[pW,lD,h1,aN h1,ha3,g1,g2,g3];and_intros<;>(try omega);apply Y;simp(disch:=omega)[pW,lD,h1,aN h1,ha3,g1,g2,g3];apply Z;refine zk [0,4,5,6,8,41,42,43] ?_;refine ze ⟨[59],[],[10],[],[]⟩ [.op {},.op {},.op {},.op {},.op {rO:=true},.op {},.op {},.op {},.op {},.op {rO:=true},.det] fun all hall _ Z=>?_;refine lY 8 fun _ Y=>?_;simp(disch:=omega)[pW,lD,h1,aN h1,ha3,g1,g2,g3];apply Y;refine lY 2 fun _ Y=>?_;simp(disch:=omega)[pW,lD,h1,aN h1,ha3,g1,g2,g3];apply Y;refine cF fun _ Y=>?_;simp(disch:=omega)[pW,lD,h1,aN h1,ha3,g1,g2,g3];refine zdd (hI2) ?_;apply Y;simp only [uK];apply Z;apply zB;refine zk [0,4,5,6,8,41,42,43] ?_;refine zt ⟨[59],[],[10],[],[]⟩ fun _ _ Z=>?_;simp(disch:=omega)[pW,lD,h1,aN h1,ha3,g1,g2,g3];and_intros<;>(try omega);apply Z;refine zq (j+1) ?_ ?_ ?_
   .omega
   .try dsimp only
    omega
   simp(disch:=omega)[pW,lD,h1,aN h1,ha3,g1,g2,g3]
  obtain rfl:j=v.kids.length:=by omega
  apply zE;refine zr ⟨[59],[],[10],[],[]⟩ fun _ _ Z=>?_;simp(disch:=omega)[pW,lD,h1,aN h1];apply Z;apply aD;simp [aJ]
 refine zt ⟨[59],[],[10],[],[]⟩ fun _ _ Z=>?_;refine zs 4 fun _ Y=>?_;simp(disch:=omega)[pW,lD,h1,aN h1];apply Y;refine aE fun _ Y=>?_;simp(disch:=omega)[pW,lD,h1,aN h1];refine bS (hE c1) ?_;apply Y;simp(disch:=omega)[pW,lD,h1,aN h1];apply Z;apply bY;refine zk [0,3,4,5] ?_;refine zr ⟨[59],[],[10],[],[]⟩ fun _ _ Z=>?_;refine zs 2 fun _ Y=>?_;simp(disch:=omega)[pW,lD,h1,aN h1];apply Y;refine aE fun _ Y=>?_;simp(disch:=omega)[pW,lD,h1,aN h1];refine bS (aBm σ.length v i (D.int 0) (D.str ⟨#[]⟩) (D.str ⟨#[]⟩) (D.str ⟨#[]⟩) (.sl true []) (.sl true []) (.sl true []) (D.int 0) (D.int 0) (D.int 0) (D.int 0) (D.bool false) (D.bool false) (.sl true []) (D.int 0) (D.int 0) (D.int 0) (D.int 0) (D.int 0) (D.int 0) (D.bool false) (D.int 0) (D.bool false) (D.int 0) (.v (.pointer none)) (.sl true []) _ (aN h1 _)) ?_;apply Y;simp only [cX];apply Z;refine zr ⟨[59],[],[10],[],[]⟩ fun _ _ Z=>?_;refine zs 2 fun _ Y=>?_;simp(disch:=omega)[pW,lD,h1,aN h1];apply Y;refine aE fun _ Y=>?_;simp(disch:=omega)[pW,lD,h1,aN h1];refine bS (hP) ?_;apply Y;simp only [cX];apply Z;apply aF;refine zr ⟨[59],[],[10],[],[]⟩ fun _ _ Z=>?_;simp(disch:=omega)[pW,lD,h1,aN h1];and_intros<;>(try omega);apply Z;apply aR;refine zk [0,4,5,41,42,43] ?_;refine oW (fun(j:Nat)=> [(43,.d (.v (.int .i64 (j:Int)))),(6,.d (.any)),(8,.d (.any))]) (fun(j:Nat)=> [[D.int v.kind,D.str v.tag,D.str v.key,D.str v.text,.sl false (v.classes.map D.str),.sl false (v.attrs.map cY),.sl false (v.styles.map cR),D.int v.opts.enter,D.int v.opts.leave,D.int v.opts.move,D.int v.opts.mode,D.bool v.opts.appear,D.bool v.opts.moves,.sl false (v.kids.map pF)]]) (fun(j:Nat)=>st j) [6,7,8,43,44,45,46,47,48,49,50,51,52,53,54,55,56,57,58,59,60,61,62,63,64,65,66,67,68,69,70,71,72,73,74,75,76] (fun(j:Nat)=>j<=v.kids.length) (fun(j:Nat)=>v.kids.length - j) (0) (by simp <;> rfl) ?_ (by simp) (by simp) ?_ ?_
 .simp
 .simp
 rintro j hj;simp only [aQ,aP];have hsj:=hs j hj;have hql:=aB4 qs j;refine zr ⟨[59],[],[10],[],[]⟩ fun _ _ Z=>?_;simp(disch:=omega)[pW,lD,h1,aN h1];apply Z;apply aF;refine zI ?_ ?_<;>intro c3<;>try simp at c3
 .apply kB;refine zr ⟨[59],[],[10],[],[]⟩ fun _ _ Z=>?_;simp(disch:=omega)[pW,lD,h1,aN h1];and_intros<;>(try omega);apply Z;refine zk [0,4,5,6,7,8,41,42,43] ?_;refine zr ⟨[59],[],[10],[],[]⟩ fun _ _ Z=>?_;refine zs 2 fun _ Y=>?_;simp(disch:=omega)[pW,lD,h1,aN h1];apply Y;refine aE fun _ Y=>?_;simp(disch:=omega)[pW,lD,h1,aN h1];refine bS (hG j (by omega)) ?_;obtain⟨ha1,ha2,ha3⟩:=ha j (by omega);have g1:∀c,((a j).set (qs j) c)[σ.length]?=some (lD i v (.v (.pointer none)) (qsl qs j)):=fun c=>by rw [fQ ha2];exact ha1
  have g2:∀c c2,(((a j).set (qs j) c).set σ.length c2)[qs j]?=some c:=fun c c2=>by rw [fQ (fun e=>ha2 e.symm)];exact aN ha3 c
  have g3:∀c c2,(((a j).set (qs j) c).set σ.length c2)[σ.length]?=some c2:=fun c c2=>aN (g1 c) c2;have hI2:=hI j (by omega);simp only [lD,Jv,cZ,cM,lO] at hI2;apply Y;simp(disch:=omega)[pW,lD,h1,aN h1,ha3,g1,g2,g3];apply Z;refine zk [0,4,5,6,8,41,42,43] ?_;refine zr ⟨[59],[],[10],[],[]⟩ fun _ _ Z=>?_;simp(disch:=omega)[pW,lD,h1,aN h1,ha3,g1,g2,g3];apply Z;refine zk [0,4,5,6,8,41,42,43] ?_;refine zr ⟨[59],[],[10],[],[]⟩ fun _ _ Z=>?_;refine zs 8 fun _ Y=>?_;simp(disch:=omega)[pW,lD,h1,aN h1,ha3,g1,g2,g3];and_intros<;>(try omega);apply Y;simp(disch:=omega)[pW,lD,h1,aN h1,ha3,g1,g2,g3];apply Z;refine zk [0,4,5,6,8,41,42,43] ?_;refine ze ⟨[59],[],[10],[],[]⟩ [.op {},.op {},.op {},.op {},.op {rO:=true},.op {},.op {},.op {},.op {},.op {rO:=true},.det] fun all hall _ Z=>?_;refine lY 8 fun _ Y=>?_;simp(disch:=omega)[pW,lD,h1,aN h1,ha3,g1,g2,g3];apply Y;refine lY 2 fun _ Y=>?_;simp(disch:=omega)[pW,lD,h1,aN h1,ha3,g1,g2,g3];apply Y;refine cF fun _ Y=>?_;simp(disch:=omega)[pW,lD,h1,aN h1,ha3,g1,g2,g3];refine zdd (hI2) ?_;apply Y;simp only [uK];apply Z;apply zB;refine zk [0,4,5,6,8,41,42,43] ?_;refine zt ⟨[59],[],[10],[],[]⟩ fun _ _ Z=>?_;simp(disch:=omega)[pW,lD,h1,aN h1,ha3,g1,g2,g3];and_intros<;>(try omega);apply Z;refine zq (j+1) ?_ ?_ ?_
  .omega
  .try dsimp only
   omega
  simp(disch:=omega)[pW,lD,h1,aN h1,ha3,g1,g2,g3]
 obtain rfl:j=v.kids.length:=by omega
 apply zE;refine zr ⟨[59],[],[10],[],[]⟩ fun _ _ Z=>?_;simp(disch:=omega)[pW,lD,h1,aN h1];apply Z;apply aD;simp [aJ]
theorem Vw:∀ {ks:List VN} {i par:Int} {n:ND},n∈pZ i par ks->∃k∈ks,∃i',n∈jS i' par k
 | [],i,par,n,h=>by cases h
 | k::ks,i,par,n,h=>by
  rw [Bq] at h;rcases bN.1 h with h | h
  .exact⟨k,fE,i,h⟩
  obtain⟨k2,h1,h2⟩:=Vw h;exact⟨k2,gL _ h1,h2⟩
theorem Gc {P:ND->Prop} (hP:∀w i par,NV w->P (vK i par w (lJ (i+1) w.kids))):∀ {v:VN},NN v->∀ {i par:Int} {n:ND},n∈jS i par v->P n
 | v,hv,i,par,n,h=>by
  rw [sY] at h;rcases bQ.1 h with rfl | h
  .exact hP v i par hv.v
  obtain⟨k,hk,i',h⟩:=Vw h;exact Gc hP (hv.k k hk) h
termination_by v=>dL v
decreasing_by
 have:=fY hk;omega
theorem aUg(w:VN)(i par:Int)(ks:List Int)(h:NV w):NmOk (vK i par w ks):=by
 unfold vK;split
 .exact⟨by simp,by simp,by simp⟩
 rename_i he;have hn:=(h.e2 he).2.1;unfold eJ iX at hn;exact⟨fun c hc=>hn c (by simp [hc]),fun p hp=>hn _ (by simp only [bN,aX];exact .inl (.inr ⟨p,hp,rfl⟩)),fun p hp=>hn _ (by simp only [bN,aX];exact .inr ⟨p,hp,rfl⟩)⟩
structure Up(x:RD):Prop where
 lt:∀n∈x.l,n.ID<x.next
 up:∀n∈x.l,∀c∈n.kids,n.ID<c
 nm:NmsOk x
 pos:0<x.next
theorem Up.fd (h:Up x):∀id,∀c∈(aL x.l id).kids,id<c:=fun id c hc=>by
 by_cases hl:fO x.l id=true
 .obtain⟨n,n1,n2,n3⟩:=eV hl;rw [n3] at hc;rw [<- n2];exact h.up n n1 c hc
 unfold aL at hc;unfold fO at hl;rw [show kV x.l id=none by simpa using hl] at hc;cases hc
theorem Up.new(most:Int):Up (newX most):=⟨fun n hn=>by simp [newX] at hn;subst hn;show(0:Int)<1;decide,fun n hn=>by simp [newX] at hn;subst hn;simp [nK],NmsOk.new most,by simp [newX]⟩
def uW(x:RD)(v:VN):RD:=⟨x.most,x.next+dL v,x.l++jS x.next (-1) v⟩
theorem Up.grow (h:Up x) {v:VN} (hv:NN v):Up (uW x v):=by
 have hc:=pV v;refine⟨fun n hn=>?_,fun n hn=>?_,fun n hn=>?_,?_⟩
 .rcases bN.1 hn with hn | hn
  .have:=h.lt n hn;show n.ID<x.next+dL v;omega
  exact(Ez hn).2
 .rcases bN.1 hn with hn | hn
  .exact h.up n hn
  refine Gc (P:=fun n=>∀c∈n.kids,n.ID<c) (fun w i par _ c hc=>?_) hv hn;rw [Db] at hc;rw [lN];have:=aC3 _ _ c hc;omega
 .rcases bN.1 hn with hn | hn
  .exact h.nm n hn
  exact Gc (P:=NmOk) (fun w i par hw=>aUg w i par _ hw) hv hn
 have:=h.pos;show 0<x.next+dL v;omega
def hdV(v:VN)(j:Nat):VN:= { v with kids:=v.kids.take j }
theorem NN.hdV {v:VN} (h:NN v)(j:Nat):NN (hdV v j):= .mk _ ⟨h.v.c4,h.v.a4,h.v.s4,h.v.cl,h.v.sa,h.v.ss,h.v.av,fun e=>⟨by show v.kids.take j= [];rw [(h.v.t1 e).1];simp,(h.v.t1 e).2⟩,h.v.e2⟩ fun k hk=>h.k k (oD hk)
def Zz(x:RD)(v:VN)(j:Nat):RD:=⟨x.most,pL x.next v j,Nh x.l x.next (-1) v j⟩
theorem aAk(x:RD)(v:VN)(j:Nat):Zz x v j=uW x (hdV v j):=by
 unfold Zz uW;have e1:pL x.next v j=x.next+(dL (hdV v j):Nat):=by
  rw [kA];unfold pL Be hdV;simp only [];omega
 have e2:Nh x.l x.next (-1) v j=x.l++jS x.next (-1) (hdV v j):=by
  rw [sY];rfl
 rw [e1,e2]
theorem aOk(x:RD)(v:VN):Zz x v v.kids.length=uW x v:=by
 rw [aAk];unfold hdV;rw [dX];cases v;rfl
theorem Up.st (h:Up x) {v:VN} (hv:NN v)(j:Nat):Up (Zz x v j):=by rw [aAk];exact h.grow (hv.hdV j)
theorem Oa {α:Type} {Inv:Nat->α->Prop} {Rel:Nat->α->α->Prop} (N:Nat)(s0:α)(h0:Inv 0 s0)(step:∀j,j<N->∀s,Inv j s->∃s',Rel j s s'/\Inv (j+1) s'):
  ∃S:Nat->α,S 0=s0/\(∀j,j<=N->Inv j (S j))/\∀j,j<N->Rel j (S j) (S (j+1)):=by
 classical
 let S:Nat->α:=fun n=>Nat.rec s0 (fun j s=>if h:j<N/\Inv j s then Classical.choose (step j h.1 s h.2)else s) n
 have hS:∀j,(h:j<N/\Inv j (S j))->S (j+1)=Classical.choose (step j h.1 (S j) h.2):=fun j h=>dif_pos h;have hI:∀j,j<=N->Inv j (S j):=by
  intro j;induction j with
  | zero=>intro _;exact h0
  | succ j ih=>
   intro hj;have hij:=ih (by omega);rw [hS j ⟨by omega,hij⟩];exact(Classical.choose_spec (step j (by omega) (S j) hij)).2
 refine⟨S,rfl,hI,fun j hj=>?_⟩;have hij:=hI j (by omega);rw [hS j ⟨hj,hij⟩];exact(Classical.choose_spec (step j hj (S j) hij)).1
section
variable {k m M l:Nat}{d d' d2:DS}{rk rk':Int->Nat}{σ σ2 σ3:List (List D)}{y:RD}{ops:List TOp}
theorem LX.off_ge(h:LX k m M l d rk x ops σ) {p:Nat} (hp:σ.length<=p):Off m d p/\p≠l:=by
 have hd:=h.ix.iv.ho;refine⟨⟨fun e=>?_,fun e he e2=>?_⟩,fun e=>?_⟩
 .have:=pE hd.hm;omega
 .have:=pE (hd.hn e he);omega
 have:=pE h.at_;omega
theorem LX.to (h:LX k m M l d rk x ops σ)(hk:k<=j):LX j m M l d rk x ops σ:=by
 have:=h.up_ (j - k);rw [show k+(j - k)=j by omega] at this;exact this
theorem Oth.set_ge {L:Nat->Prop} (h:Oth m L d d' σ σ2) (hq:σ.length<=q)(c:List D):Oth m L d d' σ (σ2.set q c):=
 ⟨by rw [cH];exact h.1,fun i hi ho hl=>⟨(h.2 i hi ho hl).1,by rw [fQ (by omega)];exact(h.2 i hi ho hl).2⟩⟩
structure GS where
 d:DS
 rk:Int->Nat
 ops:List TOp
 σ:List (List D)
 ql:List Nat
 a:List (List D)
 q:Nat
 ks:List Nat
structure GI(k m M l:Nat)(d:DS)(σ:List (List D))(x:RD)(v:VN)(j:Nat)(s:GS):Prop where
 lx:LX (k+15+16 * Be v j) m M l s.d s.rk (Zz x v j) s.ops s.σ
 oth:Oth m (· =l) d s.d σ s.σ
 off:Off m s.d σ.length
 at_:s.σ[σ.length]?=some (lD x.next v (.v (.pointer none)) s.ql)
 ko:KidsOk s.σ (fun p=>(σ.length<=p/\p<s.σ.length/\Off m s.d p/\p≠l)/\σ.length<p) x.next v σ.length s.ql j
structure GR(l:Nat)(q0:Nat)(x:RD)(v:VN)(j:Nat)(hj:j<v.kids.length)(s s':GS):Prop where
 gr:Ct prog 93 [.ref l 0,kJ v.kids[j]] s.σ (fun r τ=>r= .ref s'.q 0/\τ=s'.a)
 a1:s'.a[q0]?=some (lD x.next v (.v (.pointer none)) s.ql)
 a2:s'.q≠q0
 a3:s'.a[s'.q]?=some (lD (pL x.next v j) v.kids[j] (.v (.pointer none)) s'.ks)
 ql:s'.ql=s.ql++ [s'.q]
 ins:Ct prog 64 [.ref l 0,D.int x.next,D.int j,D.int (pL x.next v j)] ((s'.a.set s'.q (lD (pL x.next v j) v.kids[j] (.ref q0 0) s'.ks)).set q0 (lD x.next v (.v (.pointer none)) s'.ql)) (fun r τ=>r=D.int 0/\τ=s'.σ)
def aSi(k m M l:Nat)(d:DS)(σ:List (List D))(x:RD)(v:VN):Prop:=
 ∃d' rk' ops' σ',Ct prog 93 [.ref l 0,kJ v] σ (fun r τ=>r= .ref σ.length 0/\τ=σ')/\LX (k+(16 * dL v - 1)) m M l d' rk' (uW x v) ops' σ'/\Oth m (· =l) d d' σ σ'/\ItOk σ' (fun p=>σ.length<=p/\p<σ'.length/\Off m d' p/\p≠l) x.next v (.v (.pointer none)) σ.length
theorem aDp {v:VN} (hv:NN v)(hu:Up x)(hk:k+16 * dL v<=780)(j:Nat)(hj:j<v.kids.length)(s:GS)(h:GI k m M l d σ x v j s)
  (ih:aSi (k+15+16 * Be v j) m M l s.d s.σ (Zz x v j) v.kids[j]):∃s',GR l σ.length x v j hj s s'/\GI k m M l d σ x v (j+1) s':=by
 obtain⟨d1,rk1,ops1,a,c1,lx1,o1,it1⟩:=ih;obtain⟨ks,hks,it2⟩:=it1.par_ (.ref σ.length 0);have hcj:=pV v.kids[j];have hsu:=Ou v j hj;have hsl:=aBf v (j+1);have hq:=pE h.at_;have hql:=h.lx.off_ge (aY _);have hnl:σ.length≠l:=fun e=>by have:=pE h.lx.at_;have h2:=h.at_;rw [e,h.lx.at_] at h2;simp [pC,lD] at h2
 have oq:=o1.2 σ.length hq h.off hnl;obtain⟨f1, -,f2,f3⟩:=it1.F_;have ha:=o1.1
 -- the state ahead of the insert
 have lx2:=(lx1.put_ f2 f3 (lD (pL x.next v j) v.kids[j] (.ref σ.length 0) ks)).put_ oq.1 hnl (lD x.next v (.v (.pointer none)) (s.ql++ [s.σ.length]));have hA:∀n∈x.l,n.ID<x.next:=hu.lt;obtain⟨i1,i2⟩:=Um (par:= -1) (v:=v) (j:=j) hA (jS (pL x.next v j) (-1) v.kids[j]);obtain⟨i3,i4⟩:=Vf (par:= -1) hA hj;have hup:=((hu.st hv j).grow (hv.k _ (cJ hj))).fd;have hne:¬v.kind=1:=fun e=>by rw [(hv.v.t1 e).1] at hj;simp at hj
 have hpos:=hu.pos;obtain⟨d3,rk3,ops3,τ,c2,lx3,o3⟩:=aUx lx2 (by omega) x.next j (pL x.next v j) i2 i4 (by
   show(aL (Nh x.l x.next (-1) v j++jS (pL x.next v j) (-1) v.kids[j]) x.next).kind=2
   rw [i1];unfold vK;rw [aA hne]) (by unfold pL;omega) (by
   show(aL (Nh x.l x.next (-1) v j++jS (pL x.next v j) (-1) v.kids[j]) (pL x.next v j)).parent<0
   rw [i3,aQ5];decide) (by rw [<- aW6 lx2.ix];exact aGn hup _ (by unfold pL;omega)) (by
   show j<=(aL (Nh x.l x.next (-1) v j++jS (pL x.next v j) (-1) v.kids[j]) x.next).kids.length
   rw [i1,Db,xM,bG];omega)
 have hx3:aH1 (uW (Zz x v j) v.kids[j]) x.next j (pL x.next v j)=Zz x v (j+1):=by
  have:=aLs (A:=x.l) (i:=x.next) (par:= -1) (v:=v) (j:=j) (mo:=x.most) (nx:=pL x.next v j+dL v.kids[j]) hA hj;unfold uW Zz;rw [show pL x.next v (j+1)=pL x.next v j+(dL v.kids[j]:Nat) by unfold pL;rw [hsu];omega];exact this
 rw [hx3] at lx3;have hbl:((a.set s.σ.length (lD (pL x.next v j) v.kids[j] (.ref σ.length 0) ks)).set σ.length (lD x.next v (.v (.pointer none)) (s.ql++ [s.σ.length]))).length=a.length:=by rw [cH,cH]
 have o3l:=o3.1;rw [hbl] at o3l
 -- what stands of what there was
 have keep:∀p,p<s.σ.length->p≠σ.length->Off m s.d p->p≠l->Off m d3 p/\τ[p]?=s.σ[p]?:=fun p hp hpq ho hpl=>by
  obtain⟨u1,u2⟩:=o1.2 p hp ho hpl;obtain⟨u3,u4⟩:=o3.2 p (by rw [hbl];omega) u1 hpl;refine⟨u3,?_⟩;rw [u4,fQ (by omega),fQ (by omega),u2]
 have keep2:∀p,p<a.length->p≠σ.length->Off m d1 p->p≠l->Off m d3 p/\τ[p]?=(a.set s.σ.length (lD (pL x.next v j) v.kids[j] (.ref σ.length 0) ks))[p]?:=fun p hp hpq ho hpl=>by
  obtain⟨u3,u4⟩:=o3.2 p (by rw [hbl];omega) ho hpl;refine⟨u3,?_⟩;rw [u4,fQ (by omega)]
 have ot:=o3.2 σ.length (by rw [hbl];omega) oq.1 hnl;refine⟨⟨d3,rk3,ops3,τ,s.ql++ [s.σ.length],a,s.σ.length,ks⟩,⟨c1,by rw [oq.2];exact h.at_,by show s.σ.length≠σ.length;omega,hks,rfl,c2⟩,⟨lx3.to (by omega),?_,ot.1,?_,?_⟩⟩
 .have:=((h.oth.trans o1).set_ge (Nat.le_of_lt hq) (lD (pL x.next v j) v.kids[j] (.ref σ.length 0) ks)).set_ge (aY _) (lD x.next v (.v (.pointer none)) (s.ql++ [s.σ.length]));exact this.trans o3
 .rw [ot.2];exact aN (by rw [fQ (by omega),oq.2];exact h.at_) _
 refine(h.ko.frame fun p hp=>?_).snoc hj (it2.frame fun p hp=>?_)
 .obtain⟨⟨p1,p2,p3,p4⟩,p5⟩:=hp;obtain⟨u1,u2⟩:=keep p p2 (by omega) p3 p4;exact⟨⟨⟨p1,by show p<τ.length;omega,u1,p4⟩,p5⟩,u2⟩
 obtain⟨p1,p2,p3,p4⟩:=hp;obtain⟨u1,u2⟩:=keep2 p p2 (by omega) p3 p4;exact⟨⟨⟨by omega,by show p<τ.length;omega,u1,p4⟩,by omega⟩,u2⟩
theorem aRl {v:VN} (hv:NV v)(he:¬v.kind=1)(h1:n.kind=2)(h0:¬i=0):Jq n true i (iX v)=0:=by
 unfold Jq;rw [aA (by simp),aA h0,aA (by rw [h1];simp),aA];rw [vE,nQ];intro s hs;rw [(hv.e2 he).2.1 s hs];simp
theorem Ng {o:OW} (hc:n.classes= [])(ha:n.attrs= [])(hs:n.styles= []):(jG n o).length<=o.classes.length+o.attrs.length+o.styles.length:=by
 unfold jG;have h1:=Lh n.classes o.classes;have h2:=lT o.classes;have h3:=sL nA An n.attrs o.attrs;have h4:=sL nP Ci n.styles o.styles;rw [hc] at h1 |-;rw [ha] at h3 |-;rw [hs] at h4 |-;have h5:(bP []).length=0:=rfl;simp at h1 h3 h4 |-;omega
theorem aNz {v:VN} (hv:NV v)(he:¬v.kind=1):∀s∈eJ (iX v),s.size<=9223372036854775807:=fun s hs=>by
 have:=zC ((hv.e2 he).2.1 s hs);omega
theorem aDa {v:VN} (hv:NV v)(h:LX k m M l d rk x ops σ)(hu:Up x)(hk:k+15<=780)(hr:(x.l.length:Int)<=x.most):
  ∃s1 d' rk' ops' σ',(v.kind=1->Ct prog 177 [.ref l 0,D.str v.text] (σ++ [pW]) (fun r τ=>r= .tup [D.int x.next,D.int 0]/\τ=s1))/\(¬v.kind=1->Ct prog 178 [.ref l 0,D.str v.tag] (σ++ [pW]) (fun r τ=>r= .tup [D.int x.next,D.int 0]/\τ=s1))/\s1[σ.length]?=some pW/\
   Ct prog 32 [.ref σ.length 0,.ref l 0] (s1.set σ.length (lD x.next v (.v (.pointer none)) [])) (fun r τ=>r= .tup []/\τ=σ')/\LX (k+15) m M l d' rk' (Zz x v 0) ops' σ'/\Oth m (· =l) d d' σ σ'/\Off m d' σ.length/\σ'[σ.length]?=some (lD x.next v (.v (.pointer none)) [])/\σ.length<σ'.length:=by
 obtain⟨q1,q2⟩:=h.off_ge (aY _);have l0:=h.app_ [pW];have o0:Oth m (· =l) d d σ (σ++ [pW]):=⟨by simp,fun i hi ho _=>⟨ho,bC hi⟩⟩;have g0:(σ++ [pW])[σ.length]?=some pW:=by simp
 have hl0:(σ++ [pW]).length=σ.length+1:=by simp
 have hst:Zz x v 0=⟨x.most,x.next+1,x.l++ [vK x.next (-1) v []]⟩:=by
  unfold Zz;rw [aWf];show RD.mk x.most (x.next+1+((0:Nat):Int)) _=_
  rw [show x.next+1+((0:Nat):Int)=x.next+1 by omega]
 by_cases he:v.kind=1
 .obtain⟨d1,rk1,ops1,s1,c1,x1,o1⟩:=aXz l0 (by omega) v.text hr;obtain⟨p1,p2⟩:=o1.2 σ.length (by omega) q1 q2;have hx:It x 1 v.text=Zz x v 0:=by
   rw [hst];unfold It iD vK;rw [aI he];rfl
  rw [hx] at x1;have o1l:=o1.1;rw [hl0] at o1l;have x2:=x1.put_ p1 q2 (lD x.next v (.v (.pointer none)) []);refine⟨s1,d1,rk1,ops1,_,fun _=>c1,fun e=>absurd he e,p2.trans g0,Qf σ.length l v ⟨0,0,0,0⟩ x.next _ _ _ _ _ _ _ _ _ _ (aN (p2.trans g0) _) he,x2.to (by omega),(o0.trans o1).set_ge (aY _) _,p1,aN (p2.trans g0) _,?_⟩;rw [cH];omega
 obtain⟨t1,t2,t3⟩:=hv.e2 he;obtain⟨d1,rk1,ops1,s1,c1,x1,o1⟩:=aWt l0 (by omega) v.tag (by have:=zC t1;omega) t1 hr;obtain⟨p1,p2⟩:=o1.2 σ.length (by omega) q1 q2;have o1l:=o1.1;rw [hl0] at o1l;have x2:=x1.put_ p1 q2 (lD x.next v (.v (.pointer none)) []);have hA:∀n∈x.l,n.ID≠x.next:=fun n hn=>by have:=hu.lt n hn;omega
 have hf:aL (x.l++ [iD x.next 2 v.tag]) x.next=iD x.next 2 v.tag/\fO (x.l++ [iD x.next 2 v.tag]) x.next=true:=Jr (n:=iD x.next 2 v.tag) hA;have hfx:aL (It x 2 v.tag).l x.next=iD x.next 2 v.tag:=hf.1;have hix:fO (It x 2 v.tag).l x.next=true:=hf.2;have hpos:=hu.pos;have hnm:NmsOk (It x 2 v.tag):=fun n hn=>by
  rcases bN.1 hn with hn | hn
  .exact hu.nm n hn
  have:n=iD x.next 2 v.tag:=by simpa using hn
  subst this;exact⟨by simp [iD],by simp [iD],by simp [iD]⟩
 have hdl:=Ng (n:=iD x.next 2 v.tag) (o:=iX v) rfl rfl rfl;have c4:=hv.c4;have a4:=hv.a4;have s4:=hv.s4;have hdl2:(jG (iD x.next 2 v.tag) (iX v)).length<=12:=by
  refine qB hdl ?_;show v.classes.length+v.attrs.length+v.styles.length<=12
  omega
 obtain⟨d2,rk2,ops2,s2,c2,x3,o2⟩:=aC5 x2 x.next (iX v) (by rw [hfx];omega) (by show v.classes.length<=8;omega) (by show v.attrs.length<=8;omega) (by show v.styles.length<=8;omega) (aNz hv he) (fun p hp=>by have:=hv.av p hp;omega) (hv.ow he) hnm (by rw [hfx,hix];exact aRl hv he rfl (by omega)) (by rw [hfx];rfl);rw [hfx] at x3;have hx:(⟨(It x 2 v.tag).most,(It x 2 v.tag).next,dJ (It x 2 v.tag).l (Dj (iD x.next 2 v.tag) (iX v))⟩:RD)=Zz x v 0:=by
  rw [hst];show RD.mk x.most (x.next+1) (dJ (x.l++ [iD x.next 2 v.tag]) _)=_
  rw [xH,tJ fun n hn=>hA n hn,Ai,aI (show(iD x.next 2 v.tag).ID=(Dj (iD x.next 2 v.tag) (iX v)).ID from rfl)];unfold Dj vK iD iX;rw [aA he,hv.cl];rfl
 rw [hx] at x3;obtain⟨p3,p4⟩:=o2.2 σ.length (by rw [cH];omega) p1 q2;have o2l:=o2.1;rw [cH] at o2l;rw [aN (p2.trans g0)] at p4;refine⟨s1,d2,rk2,ops2,s2,fun e=>absurd e he,fun _=>c1,p2.trans g0,Ob σ.length l v ⟨0,0,0,0⟩ x.next _ _ _ _ _ _ _ _ _ s2 _ (aN (p2.trans g0) _) (by omega) (by omega) (by omega) he (by rw [hv.put];exact c2),x3.to (by omega),((o0.trans o1).set_ge (aY _) _).trans o2,p3,p4,by omega⟩
theorem Xh:∀(v:VN),NN v->∀ {k:Nat} {d:DS} {rk:Int->Nat} {x:RD} {ops:List TOp} {σ:List (List D)},LX k m M l d rk x ops σ->Up x->k+16 * dL v<=780->(x.l.length:Int)+dL v<=x.most+1->aSi k m M l d σ x v
 | v, hv, k, d, rk, x, ops, σ, h, hu, hk, hr => by
  have hcv:=pV v;obtain⟨s1,d0,rk0,ops0,σ0,c1,c2,e1,c3,lx0,o0,f0,g0,l0⟩:=aDa hv.v h hu (by omega) (by omega);obtain⟨S,S0,hI,hR⟩:=Oa (Inv:=GI k m M l d σ x v) (Rel:=fun j s s'=>∃hj,GR l σ.length x v j hj s s') v.kids.length ⟨d0,rk0,ops0,σ0, [], [],0, []⟩ ⟨lx0,o0,f0,g0,.zero ..⟩ fun j hj s hs=>by
   have hck:=fY (cJ hj);have hsl:=aBf v (j+1);have hsu:=Ou v j hj;obtain⟨s',r1,r2⟩:=aDp hv hu hk j hj s hs (Xh v.kids[j] (hv.k _ (cJ hj)) hs.lx (hu.st hv j) (by omega) (by
    show((Nh x.l x.next (-1) v j).length:Int)+_<=x.most+1
    have hl:(Zz x v j).l=x.l++jS x.next (-1) (hdV v j):=by rw [aAk];rfl
    rw [show Nh x.l x.next (-1) v j=x.l++jS x.next (-1) (hdV v j)from hl,bB,Oz];have:dL (hdV v j)=1+Be v j:=by rw [kA];rfl
    omega))
   exact⟨s',⟨hj,r1⟩,r2⟩
  have hql:∀j,j<=v.kids.length->(S j).ql=qsl (fun j=>(S (j+1)).q) j:=by
   intro j;induction j with
   | zero=>intro _;rw [S0];rfl
   | succ j ih=>
    intro hj;obtain⟨hj2,r⟩:=hR j (by omega);rw [r.ql,ih (by omega),Jv]
  have fin:=hI v.kids.length (aY _);refine⟨(S v.kids.length).d,(S v.kids.length).rk,(S v.kids.length).ops,(S v.kids.length).σ,?_,?_,fin.oth,?_⟩
  .refine aH7 l σ.length v x.next s1 (fun j=>(S j).σ) (fun j=>(S (j+1)).a) (fun j=>(S (j+1)).q) (pL x.next v) (fun j=>(S (j+1)).ks) σ rfl c1 c2 e1 ?_ (by omega) (fun j hj=>?_) (fun j hj=>?_) (fun j hj=>?_) fun j hj=>?_
   .show Ct _ _ _ _ (fun r τ=>r= .tup []/\τ=(S 0).σ)
    rw [S0];exact c3
   .rw [<- hql j hj];exact(hI j hj).at_
   .obtain⟨hj2,r⟩:=hR j hj;exact r.gr
   .obtain⟨hj2,r⟩:=hR j hj;exact⟨by rw [<- hql j (by omega)];exact r.a1,r.a2,r.a3⟩
   obtain⟨hj2,r⟩:=hR j hj;rw [<- hql (j+1) hj];exact r.ins
  .have:=fin.lx;rw [aOk] at this;have hs:=aLi v;exact this.to (by omega)
  refine(fin.ko.frame fun p hp=>⟨hp,rfl⟩).done ⟨aY _,pE fin.at_,fin.off,?_⟩ fin.at_;exact(h.off_ge (aY _)).2
termination_by v=>dL v
decreasing_by
 have:=fY (cJ hj);omega
end
theorem Ga(most:Int)(σ:List (List D))  :Ct prog 28 [D.int most] σ (fun r σ'=>∃m M l d rk,r= .ref l 0/\LX 0 m M l d rk (newX most) [] σ'):=by
 refine zf func28 ?_;refine aZ fun _ _ Z=>?_;simp;apply Z;refine aZ fun _ _ Z=>?_;refine zs 1 fun _ Y=>?_;simp;apply Y;refine aE fun _ Y=>?_;simp;refine Qa (aQ0 most _) ?_;rintro _ τ0 ⟨hr9,hs9⟩;subst hr9;obtain⟨m,M,dd,rk0,hm0,hx0,hi0⟩:=aT2 _ _ _ hs9;rw [hm0];clear hs9 hm0;apply Y;simp;apply Z;apply aF;refine aZ fun _ _ Z=>?_;simp;apply Z;refine zI ?_ ?_<;>intro c1<;>try simp at c1
 apply zA;refine aZ fun _ _ Z=>?_;refine zs 1 fun _ Y=>?_;simp;apply Y;refine aE fun _ Y=>?_;simp;refine bS (aTu m _) ?_;apply Y;simp;apply Z;apply aD;simp [aJ];exact⟨m,M,dd,rk0,LX.on hi0⟩
theorem aI2(k m M l:Nat)(d:DS)(rk:Int->Nat)(x:RD)(ops:List TOp)(v:VN)(q:Nat)(σ2:List (List D))(σ:List (List D))(h:LX k m M l d rk x ops σ)(hk:k<=800)(hv:VG v)(hc:dL v<=9999)(hcn:dL (cC v)<=9999)(hr:¬d.most - ((d.es.length:Int) - 1)<dL (cC v))(hG:Ct prog 93 [.ref l 0,kJ (cC v)] σ (fun r τ=>r= .ref q 0/\τ=σ2)):Ct prog 30 [.ref l 0,kJ v] σ (fun r σ'=>r= .tup [.ref q 0,D.int 0]/\σ'=σ2):=by
 refine zf func30 ?_;have hg:=h.at_;obtain⟨b1,b2,b3⟩:=h.ix.iv.bounds (by omega);refine aZ fun _ _ Z=>?_;simp[hg];apply Z;refine aZ fun _ _ Z=>?_;refine zs 1 fun _ Y=>?_;simp[hg];apply Y;refine aE fun _ Y=>?_;simp[hg];refine bS (aCe v hv hc _) ?_;apply Y;simp[hg];apply Z;apply aF;refine zd ⟨[],[],[],[],[]⟩ [.op {},.op {},.op {},.op {rO:=true},.read,.op {rL:=true},.read,.op {}] fun all hall _ Z=>?_;refine lY 4 fun _ Y=>?_;simp[hg];apply Y;refine cF fun _ Y=>?_;simp[hg];refine zdr (Kf m M d _ h.ix.iv.ho (by omega) (by omega)) ?_;apply Y;refine lY 1 fun _ Y=>?_;simp[hg];apply Y;refine cF fun _ Y=>?_;simp[hg];refine zdr (aQd (cC v) _ hcn) ?_;apply Y;simp[hg];apply Z;refine zI ?_ ?_<;>intro c1<;>try simp at c1
 .omega
 apply zA;refine zk [0,3,4,5] ?_;refine aZ fun _ _ Z=>?_;refine zs 2 fun _ Y=>?_;simp[hg];apply Y;refine aE fun _ Y=>?_;simp[hg];refine bS (hG) ?_;apply Y;simp[hg];apply Z;apply aD;simp [aJ]
section
variable {k m M l:Nat}{d d' d2:DS}{rk rk':Int->Nat}{σ σ2 σ3:List (List D)}{y:RD}{ops:List TOp}
theorem aG8 {o:OW} (h:n.classes.length<=8/\n.attrs.length<=8/\n.styles.length<=8)(h1:o.classes.length<=8)(h2:o.attrs.length<=8)(h3:o.styles.length<=8):(jG n o).length<=48:=by
 unfold jG;have h4:=Lh n.classes o.classes;have h5:=lT n.classes;have h6:=lT o.classes;have h7:=sL nA An n.attrs o.attrs;have h8:=sL nP Ci n.styles o.styles;simp;omega
theorem LX.rd(h:LX k m M l d rk x ops σ)(hk:k<=800) {f:Nat} (hf:rk i<=f)(hi:fO x.l i=true):aCr m i (rF x.l f i) σ:=by
 have e:∀f i,rF x.l f i=rF d.l f i:=by
  intro f;induction f with
  | zero=>intro i;simp only [rF,aGj h.ix]
  | succ f ih=>intro i;simp only [rF,aGj h.ix];congr 1;exact dI fun c _=>ih c
 rw [e];exact aBy h.ix.iv.ho (h.ix.iv.ip.NB (by omega)) h.ix.iv.wt f i hf (by rw [<- aXc h.ix];exact hi)
theorem LX.room(h:LX k m M l d rk x ops σ):d.most - ((d.es.length:Int) - 1)=x.most - ((x.l.length:Int) - 1):=by
 have h1:=h.ix.xp.most;have h2:=h.ix.xp.len;have h3:d.x.l=d.l:=rfl;have h4:=Cr d;have h5:d.x.most=d.most:=rfl;rw [h1,h2,h3,h4,h5]
theorem Wb(h:LX k m M l d rk x ops σ)(hu:Up x) {v:VN} (hg:VG v)(hm:GV v)(hc:dL v<=25)(hk:k<=300)(hr:(x.l.length:Int)+dL (cC v)<=x.most+1):
  ∃d' rk' ops' σ',Ct prog 30 [.ref l 0,kJ v] σ (fun r τ=>r= .tup [.ref σ.length 0,D.int 0]/\τ=σ')/\LX (k+400) m M l d' rk' (uW x (cC v)) ops' σ'/\ItOk σ' (fun p=>σ.length<=p/\p<σ'.length/\Off m d' p/\p≠l) x.next (cC v) (.v (.pointer none)) σ.length:=by
 have hn:=Vp v;obtain⟨d',rk',ops',σ',c1,lx, -,it⟩:=Xh (cC v) (wC hg hm) h hu (by omega) (by omega);exact⟨d',rk',ops',σ',aI2 k m M l d rk x ops v σ.length σ' σ h (by omega) hg (by omega) (by omega) (by rw [h.room];omega) c1,lx.to (by omega),it⟩
end
def awK:VN:=⟨1,⟨#[]⟩,⟨#[]⟩,⟨#[97]⟩, [], [], [],⟨0,0,0,0,false,false⟩, []⟩
def No:VN:=⟨2,⟨#[117,108]⟩,⟨#[]⟩,⟨#[]⟩, [], [], [],⟨0,0,0,0,false,false⟩, [awK]⟩
theorem aXj:cC awK=awK:=by rw [kU];rfl
theorem aSl:cC No=No:=by
 rw [kU];show({ No with classes:=bP [],attrs:=iB nA [],styles:=iB nP [],kids:=gY (([awK].map cC).filter jT) } :VN)=No
 rw [cM,aXj,lO,qD (by decide+kernel),lM];rfl
theorem aMz:dL No=2:=by
 rw [kA];show 1+([awK].map dL).sum=2
 have:dL awK=1:=by rw [kA];rfl
 simp [this]
theorem aV5:VG No:=by
 refine .mk _ (by decide+kernel) fun k hk=>?_;obtain rfl:k=awK:=by simpa [No] using hk
 exact .mk _ (by decide+kernel) fun k hk=>by cases hk
theorem aVy:GV No:=by
 refine .mk _ (.inr ⟨by decide,by decide,by decide+kernel,by simp [eJ,iX,No],by simp [No]⟩) fun k hk=>?_;obtain rfl:k=awK:=by simpa [No] using hk
 exact .mk _ (.inl ⟨rfl,rfl,rfl⟩) fun k hk=>by cases hk
theorem aPh {m M l:Nat} {d:DS} {rk:Int->Nat} {σ:List (List D)} (h:LX 0 m M l d rk (newX 9) [] σ):
  ∃d' rk' ops' σ' q p,Ct prog 30 [.ref l 0,kJ No] σ (fun r τ=>r= .tup [.ref q 0,D.int 0]/\τ=σ')/\LX 400 m M l d' rk' (uW (newX 9) No) ops' σ'/\σ'[q]?=some (lD 1 No (.v (.pointer none)) [p])/\σ'[p]?=some (lD 2 awK (.ref q 0) [])/\d'.es.length=3:=by
 obtain⟨d',rk',ops',σ',c1,lx,it⟩:=Wb h (Up.new 9) aV5 aVy (by rw [aMz];omega) (by omega) (by rw [aSl,aMz];show(([nK].length:Nat):Int)+((2:Nat):Int)<=max 1 (min 9 65536)+1;decide);rw [aSl] at lx it;cases it with
 | mk _ _ _ _ _ qs hF hq hl hk =>
  match qs,hl with
  | [p], _ =>
   have h3:0<(lJ ((newX 9).next+1) No.kids).length:=by rw [xM];decide
   have hp:=hk 0 (by decide) (by show 0<1;decide) h3;cases hp with
   | mk _ _ _ _ _ qs2 hF2 hq2 hl2 hk2 =>
    have e2:qs2= []:=zL.1 hl2;subst e2;refine⟨d',rk',ops',σ',_,p,c1,lx,hq,hq2,?_⟩;have e1:=lx.ix.xp.len;have e3:(uW (newX 9) No).l.length=3:=by
     show([nK]++jS (newX 9).next (-1) No).length=3
     rw [bB,Oz,aMz];rfl
    have e4:d'.x.l=d'.l:=rfl;rw [e3,e4,Cr] at e1;exact e1.symm
theorem aYq:kJ No= .agg [D.int 2,D.str ⟨#[117,108]⟩,D.str ⟨#[]⟩,D.str ⟨#[]⟩,.sl false [],.sl false [],.sl false [],D.int 0,D.int 0,D.int 0,D.int 0,D.bool false,D.bool false,.sl false [.agg [D.int 1,D.str ⟨#[]⟩,D.str ⟨#[]⟩,D.str ⟨#[97]⟩,.sl false [],.sl false [],.sl false [],D.int 0,D.int 0,D.int 0,D.int 0,D.bool false,D.bool false,.sl false []]]]:=by simp [No,awK]
theorem Kj  (σ:List (List D))  :Ct prog 26 [] σ (fun r σ'=>r= .bool true):=by
 refine zf func26 ?_;refine zr ⟨[],[],[],[],[66]⟩ fun _ _ Z=>?_;simp[cD,aS];apply Z;refine zr ⟨[],[],[],[],[66]⟩ fun _ _ Z=>?_;refine aE fun _ Y=>?_;simp[cD,aS];refine Qa (Ga 9 _) ?_;rintro _ τ0 ⟨m,M,l,d,rk,hr9,hx⟩;subst hr9;have hg:=hx.at_;apply Y;simp[cD,aS,hg];apply Z;apply aF;refine iU ⟨[],[],[],[],[66]⟩ fun all hall _ Z=>?_;have ga2:aK all 2=some 7:=hall 2;refine zs 3 fun _ Y=>?_;simp[cD,aS,ga2,hg];apply Y;refine zb 7 ?_ ?_<;>intro g1<;>try simp at g1
 simp[cD,aS,ga2,hg];apply Z;refine zI ?_ ?_<;>intro c2<;>try simp at c2
 apply zA;refine zk [0,1] ?_;refine zr ⟨[],[],[],[],[66]⟩ fun _ _ Z=>?_;refine zs 4 fun _ Y=>?_;simp[cD,aS,hg];and_intros<;>(try omega);apply Y;refine aE fun _ Y=>?_;simp[cD,aS,hg];obtain⟨d1,rk1,o1,τ1,q,p,hmk,hx1,hq,hp,hlen⟩:=aPh hx;rw [aYq] at hmk;have hg1:=hx1.at_;simp only [lD,No,awK] at hq hp;refine bS (hmk) ?_;apply Y;simp[cD,aS,hg,hg1,hq,hp,hlen];apply Z;refine zk [0,1,2,3] ?_;refine iU ⟨[],[],[],[],[66]⟩ fun all hall _ Z=>?_;have ga2:aK all 2=some 24:=hall 2;have ga6:aK all 6=some 28:=hall 6;have ga13:aK all 13=some 35:=hall 13;have ga21:aK all 21=some 43:=hall 21;have ga33:aK all 33=some 55:=hall 33;have ga46:aK all 46=some 68:=hall 46;refine zs 3 fun _ Y=>?_;simp[cD,aS,ga2,ga6,ga13,ga21,ga33,ga46,hg,hg1,hq,hp,hlen];apply Y;refine zb 24 ?_ ?_<;>intro g3<;>try simp at g3
 refine zs 4 fun _ Y=>?_;simp[cD,aS,ga2,ga6,ga13,ga21,ga33,ga46,hg,hg1,hq,hp,hlen];apply Y;refine zb 28 ?_ ?_<;>intro g4<;>try simp at g4
 refine zs 7 fun _ Y=>?_;simp[cD,aS,ga2,ga6,ga13,ga21,ga33,ga46,hg,hg1,hq,hp,hlen];apply Y;refine zb 35 ?_ ?_<;>intro g5<;>try simp at g5
 refine zs 8 fun _ Y=>?_;simp[cD,aS,ga2,ga6,ga13,ga21,ga33,ga46,hg,hg1,hq,hp,hlen];and_intros<;>(try omega);apply Y;refine zb 43 ?_ ?_<;>intro g6<;>try simp at g6
 refine zs 8 fun _ Y=>?_;simp[cD,aS,ga2,ga6,ga13,ga21,ga33,ga46,hg,hg1,hq,hp,hlen];and_intros<;>(try omega);apply Y;refine zs 4 fun _ Y=>?_;simp[cD,aS,ga2,ga6,ga13,ga21,ga33,ga46,hg,hg1,hq,hp,hlen];apply Y;refine zb 55 ?_ ?_<;>intro g7<;>try simp at g7
 refine zs 8 fun _ Y=>?_;simp[cD,aS,ga2,ga6,ga13,ga21,ga33,ga46,hg,hg1,hq,hp,hlen];and_intros<;>(try omega);apply Y;refine zs 5 fun _ Y=>?_;simp[cD,aS,ga2,ga6,ga13,ga21,ga33,ga46,hg,hg1,hq,hp,hlen];apply Y;refine zb 68 ?_ ?_<;>intro g8<;>try simp at g8
 refine zs 4 fun _ Y=>?_;simp[cD,aS,ga2,ga6,ga13,ga21,ga33,ga46,hg,hg1,hq,hp,hlen];apply Y;refine zg ga46 fun _ Y=>?_;simp[cD,aS,ga2,ga6,ga13,ga21,ga33,ga46,hg,hg1,hq,hp,hlen];refine bS (Nv m M d1 _ hx1.ix.iv.ho (by omega)) ?_;apply Y;simp[cD,aS,ga2,ga6,ga13,ga21,ga33,ga46,hg,hg1,hq,hp,hlen];apply Z;apply aD;simp [aJ]
theorem aNa(i par:Int)(v:VN)(ks:List Int):(vK i par v ks).kind=if v.kind=1 then 1 else 2:=by unfold vK;split <;> rfl
theorem aSt {v:VN} (h:NV v)(i par:Int)(ks:List Int):bP (vK i par v ks).classes=(vK i par v ks).classes/\(vK i par v ks).classes.length<=8/\(vK i par v ks).attrs.length<=8/\(vK i par v ks).styles.length<=8:=by
 have h1:=h.c4;have h2:=h.a4;have h3:=h.s4;unfold vK;split
 .exact⟨rfl,by simp,by simp,by simp⟩
 exact⟨h.cl,by show v.classes.length<=8;omega,by show v.attrs.length<=8;omega,by show v.styles.length<=8;omega⟩
section
variable {m M l:Nat} {d:DS} {rk:Int->Nat} {σ:List (List D)}
end
end Go.Proofs.YtbgfljpnhhdkoaaGreat
