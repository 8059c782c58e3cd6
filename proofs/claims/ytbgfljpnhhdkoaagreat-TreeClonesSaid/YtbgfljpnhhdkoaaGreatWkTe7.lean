import Derived.Test.YtbgfljpnhhdkoaaGreatWkVi11
import Derived.Test.YtbgfljpnhhdkoaaGreatTeRd
set_option linter.all false
set_option maxHeartbeats 8000000
set_option maxRecDepth 20000
open Go.Proofs.Tryz
namespace Go.Proofs.YtbgfljpnhhdkoaaGreat
open Go Go.Vm
variable {F:Nat->Prop}{a i:Int}{par:D}{q:Nat}{qs:List Nat}
inductive GV:VN->Prop
 | mk (v:VN) (h:aHz v) (hk:∀k∈v.kids,GV k):GV v
theorem GV.m {v:VN} (h:GV v):aHz v:=by cases h;assumption
theorem GV.k {v:VN} (h:GV v):∀k∈v.kids,GV k:=by cases h;assumption
def OkC(v:VN)(a e:Int):Prop:=(e=0->GV v/\0<=a)/\ -1<=a/\a<=9999
theorem Ja {v:VN} {e:Int} (h:¬e=0)(h1: -1<=a)(h2:a<=9999):OkC v a e:=⟨fun e=>absurd e h,h1,h2⟩
theorem Jv {v w:VN} {e:Int} (h:¬e=0)(ho:OkC w a e):OkC v a e:=⟨fun e=>absurd e h,ho.2⟩
theorem Kd {v:VN} {k:Nat} {b:Bool} (hb:iC v b)(h:b=true)(hk:∀x∈v.kids.take k,GV x)(e:v.kids.length<=k)(h1:0<=a)(h2:a<=9999):OkC v a 0:=by
 rw [cC e] at hk;exact⟨fun _=>⟨.mk v (hb h) hk,h1⟩,by omega,h2⟩
abbrev aH2(v:VN):Prop:=∀(deep depth left:Int) (σ:List (List D)),0<=deep->deep+cJ v<=9999->0<=left->left<=9999->Ct prog 91 [jQ v,D.int deep,D.int depth,D.int left] σ (fun r σ'=>(∃a e:Int,r= .tup [D.int a,D.int e]/\OkC v a e)/\σ'=σ)
theorem Yc(v:VN)(deep depth left:Int)(σ:List (List D))(h:VF v)(hc:cJ v<=9999)(hd0:0<=deep)(hd1:deep+cJ v<=9999)(hl0:0<=left)(hl1:left<=9999)(ih:∀k∈v.kids,aH2 k):Ct prog 91 [jQ v,D.int deep,D.int depth,D.int left] σ (fun r σ'=>(∃a e:Int,r= .tup [D.int a,D.int e]/\OkC v a e)/\σ'=σ):=by
 refine zf func91 ?_;have hkl:=lP v;have hns:=aK5 h;have hnl:=aB0 h;have hV:=h;obtain⟨h1,h2,h3,h4,h5,h6,h7,h8,h9⟩:=h;refine bF fun _ _ Z=>?_;simp(disch:=omega);apply Z;refine bF fun _ _ Z=>?_;simp(disch:=omega);and_intros<;>(try omega);apply Z;apply aE;refine bF fun _ _ Z=>?_;simp(disch:=omega);apply Z;refine zI ?_ ?_<;>intro c1<;>try simp at c1
 .refine bF fun _ _ Z=>?_;simp(disch:=omega);apply Z;apply aC;simp [aH];refine⟨_,_,⟨rfl,rfl⟩,?_⟩;first | exact Ja (by decide) (by omega) (by omega) | exact Jv (by assumption) hoc | exact Kd hmb (by assumption) hgv (by omega) hy0 hy1
 apply zA;apply aE;refine bF fun _ _ Z=>?_;simp(disch:=omega);apply Z;refine zI ?_ ?_<;>intro c2<;>try simp at c2
 .refine bF fun _ _ Z=>?_;simp(disch:=omega);apply Z;apply aC;simp [aH];refine⟨_,_,⟨rfl,rfl⟩,?_⟩;first | exact Ja (by decide) (by omega) (by omega) | exact Jv (by assumption) hoc | exact Kd hmb (by assumption) hgv (by omega) hy0 hy1
 apply zA;apply aE;refine bF fun _ _ Z=>?_;refine zs 1 fun _ Y=>?_;simp(disch:=omega);apply Y;refine aF fun _ Y=>?_;simp(disch:=omega);refine Lt (aN6 v _ hV (by omega)) ?_;rintro _ _ ⟨⟨mb,hr9,hmb⟩,hs9⟩;subst hr9;subst hs9;apply Y;simp(disch:=omega);apply Z;refine zI ?_ ?_<;>intro c3<;>try simp at c3
 .refine zk [1,2,3,4,8,9] ?_;refine bF fun _ _ Z=>?_;simp(disch:=omega);apply Z;apply aC;simp [aH];refine⟨_,_,⟨rfl,rfl⟩,?_⟩;first | exact Ja (by decide) (by omega) (by omega) | exact Jv (by assumption) hoc | exact Kd hmb (by assumption) hgv (by omega) hy0 hy1
 apply zA;apply aE;refine zk [1,2,3,4,8,9] ?_;refine bF fun _ _ Z=>?_;refine zs 1 fun _ Y=>?_;simp(disch:=omega);apply Y;refine aF fun _ Y=>?_;simp(disch:=omega);refine cU (xT v _ (by omega) (by omega) (by omega)) ?_;obtain⟨N,hN⟩:∃N,fG (qQ v)=N:=⟨_,rfl⟩;rw [hN] at hns hnl |-;apply Y;simp(disch:=omega);and_intros<;>(try omega);apply Z;apply aR;refine zk [1,2,3,4,8,9,34,35,36] ?_;refine bA (fun(k0:Nat)=> [(36,.d (.v (.int .i64 (k0:Int)))),(11,.d (.any))]) [8,9,11,36,37,38,39,40,41,42,43] (fun(k0:Nat)=>k0<=N.length) (fun(k0:Nat)=>N.length - k0) (0) (by simp <;> rfl) ?_ ?_ ?_
 .simp
 .simp
 rintro k0 hk0;simp only [aQ,aP];refine bF fun _ _ Z=>?_;simp(disch:=omega);apply Z;apply aE;refine zI ?_ ?_<;>intro c4<;>try simp at c4
 .apply kP;refine bF fun _ _ Z=>?_;simp(disch:=omega);and_intros<;>(try omega);apply Z;refine zk [1,2,3,4,11,34,35,36] ?_;refine bF fun _ _ Z=>?_;refine zs 1 fun _ Y=>?_;simp(disch:=omega);apply Y;refine aF fun _ Y=>?_;simp(disch:=omega);refine Lt (aOu N[k0] _ (by have:=hns N[k0] (bP _);omega)) ?_;rintro _ _ ⟨⟨bb,hr9⟩,hs9⟩;subst hr9;subst hs9;apply Y;simp only [eF];apply Z;refine zI ?_ ?_<;>intro c5<;>try simp at c5
  .refine bF fun _ _ Z=>?_;simp(disch:=omega);apply Z;apply aC;simp [aH];refine⟨_,_,⟨rfl,rfl⟩,?_⟩;first | exact Ja (by decide) (by omega) (by omega) | exact Jv (by assumption) hoc | exact Kd hmb (by assumption) hgv (by omega) hy0 hy1
  apply nS;refine qJ fun _ _ Z=>?_;simp(disch:=omega);and_intros<;>(try omega);apply Z;refine zq (k0+1) ?_ ?_ ?_
  .omega
  .try dsimp only
   omega
  simp(disch:=omega)
 apply zE;apply aE;refine bF fun _ _ Z=>?_;simp(disch:=omega);and_intros<;>(try omega);apply Z;apply aR;refine zk [1,2,3,4,45,46,47] ?_;refine bA (fun(k1:Nat)=> [(47,.d (.v (.int .i64 (k1:Int)))),(12,.d (.any))]) [8,9,12,13,15,47,48,49,50,51,52,53,54,55,56,57,58,59,60,61,62,63,64,65,66,67,68,69,70,71,72,73] (fun(k1:Nat)=>k1<=v.kids.length) (fun(k1:Nat)=>v.kids.length - k1) (0) (by simp <;> rfl) ?_ ?_ ?_
 .simp
 .simp
 rintro k1 hk1;simp only [aQ,aP];refine bF fun _ _ Z=>?_;simp(disch:=omega);apply Z;apply aE;refine zI ?_ ?_<;>intro c6<;>try simp at c6
 .apply kP;refine bF fun _ _ Z=>?_;simp(disch:=omega);and_intros<;>(try omega);apply Z;refine zk [1,2,3,4,12,13,45,46,47] ?_;refine bF fun _ _ Z=>?_;simp(disch:=omega);and_intros<;>(try omega);apply Z;apply aR;refine zk [1,2,3,4,12,13,45,46,47,55,56,57] ?_;refine bA (fun(k2:Nat)=> [(57,.d (.v (.int .i64 (k2:Int))))]) [8,9,15,57,58,59,60,61,62,63,64,65,66,67,68,69,70,71,72] (fun(k2:Nat)=>k2<=k1) (fun(k2:Nat)=>k1 - k2) (0) (by simp <;> rfl) ?_ ?_ ?_
  .simp
  .simp
  rintro k2 hk2;simp only [aQ,aP];refine zk [1,2,3,4,12,13,45,46,47,55,56,57] ?_;refine bF fun _ _ Z=>?_;simp(disch:=omega);apply Z;apply aE;refine zI ?_ ?_<;>intro c7<;>try simp at c7
  .apply kP;refine zk [1,2,3,4,12,13,45,46,47,55,56,57] ?_;refine bF fun _ _ Z=>?_;simp(disch:=omega);and_intros<;>(try omega);apply Z;refine zk [1,2,3,4,12,13,15,45,46,47,55,56,57] ?_;refine mK ⟨[],[],[],[],[]⟩ fun all hall _ Z=>?_;have ga3:aO all 3=some 64:=hall 3;refine zs 4 fun _ Y=>?_;simp(disch:=omega)[ga3];apply Y;refine zb 64 ?_ ?_<;>intro g8<;>try simp at g8
   .simp(disch:=omega)[ga3];apply Z;refine zI ?_ ?_<;>intro c9<;>try simp at c9
    .refine zk [1,2,3,4,12,13,45,46,47,55,56,57] ?_;refine bF fun _ _ Z=>?_;simp(disch:=omega);apply Z;apply aC;apply aD9;apply aLa;simp [aH];refine⟨_,_,⟨rfl,rfl⟩,?_⟩;first | exact Ja (by decide) (by omega) (by omega) | exact Jv (by assumption) hoc | exact Kd hmb (by assumption) hgv (by omega) hy0 hy1
    apply nS;refine zk [1,2,3,4,12,13,45,46,47,55,56,57] ?_;refine qJ fun _ _ Z=>?_;simp(disch:=omega);and_intros<;>(try omega);apply Z;refine zq (k2+1) ?_ ?_ ?_
    .omega
    .try dsimp only
     omega
    simp(disch:=omega)
   simp(disch:=omega)[ga3];apply Z;refine aZ (t:=false) (by simp) (fun h=>by cases h) (fun _=>?_);apply nS;refine zk [1,2,3,4,12,13,45,46,47,55,56,57] ?_;refine qJ fun _ _ Z=>?_;simp(disch:=omega);and_intros<;>(try omega);apply Z;refine zq (k2+1) ?_ ?_ ?_
   .omega
   .try dsimp only
    omega
   simp(disch:=omega)
  apply Bn;apply Cl;apply Cs;apply xY;apply zB;refine zk [1,2,3,4,12,45,46,47] ?_;refine qJ fun _ _ Z=>?_;simp(disch:=omega);and_intros<;>(try omega);apply Z;refine zq (k1+1) ?_ ?_ ?_
  .omega
  .try dsimp only
   omega
  simp(disch:=omega)
 apply zE;apply aE;refine bF fun _ _ Z=>?_;simp(disch:=omega);and_intros<;>(try omega);apply Z;apply aR;refine zk [1,2,3,75,76,77] ?_;refine bA (fun(p:Nat×Int)=> [(77,.d (.v (.int .i64 (p.1:Int)))),(3,.d (.int p.2)),(18,.d (.any)),(19,.d (.any)),(81,.d (.any))]) [3,8,9,17,18,19,77,78,79,80,81,82,83,84,85,86,87,88,89,90,91,92,93,94,95] (fun(p:Nat×Int)=>p.1<=v.kids.length/\(∀x∈v.kids.take p.1,GV x)/\0<=p.2/\p.2<=9999) (fun(p:Nat×Int)=>v.kids.length - p.1) ((0,left - 1)) (by simp <;> rfl) ?_ ?_ ?_
 .simp
 .simp;omega
 rintro⟨k3,y⟩ ⟨hk3,hgv,hy0,hy1⟩;simp only [aQ,aP];dsimp only at hk3 hgv hy0 hy1;refine bF fun _ _ Z=>?_;simp(disch:=omega);apply Z;apply aE;refine zI ?_ ?_<;>intro c10<;>try simp at c10
 .apply kP;refine bF fun _ _ Z=>?_;simp(disch:=omega);and_intros<;>(try omega);apply Z;refine zk [1,2,3,17,18,19,75,76,77,81] ?_;refine bF fun _ _ Z=>?_;refine zs 5 fun _ Y=>?_;simp(disch:=omega);and_intros<;>(try omega);apply Y;refine aF fun _ Y=>?_;simp(disch:=omega);refine Lt (ih v.kids[k3] (bP _) (deep+1) depth y _ (by omega) (by have:=eL (v:=v) (bP (l:=v.kids) (n:=k3) (by omega));omega) hy0 hy1) ?_;rintro _ _ ⟨⟨a,e,hr9,hoc⟩,hs9⟩;subst hr9;subst hs9;apply Y;simp(disch:=omega);apply Z;apply aE;refine zk [1,2,3,18,19,75,76,77,81] ?_;refine bF fun _ _ Z=>?_;simp(disch:=omega);apply Z;refine zI ?_ ?_<;>intro c11<;>try simp at c11
  .refine bF fun _ _ Z=>?_;simp(disch:=omega);apply Z;apply aC;simp [aH];refine⟨_,_,⟨rfl,rfl⟩,?_⟩;first | exact Ja (by decide) (by omega) (by omega) | exact Jv (by assumption) hoc | exact Kd hmb (by assumption) hgv (by omega) hy0 hy1
  apply zA;refine qJ fun _ _ Z=>?_;simp(disch:=omega);apply Z;apply zB;refine zk [1,2,3,18,19,75,76,77,81] ?_;refine qJ fun _ _ Z=>?_;simp(disch:=omega);and_intros<;>(try omega);apply Z;refine zq ((k3+1,a)) ?_ ?_ ?_
  .refine⟨by omega,Ck (by omega) hgv ((hoc.1 (by assumption)).1),(hoc.1 (by assumption)).2,hoc.2.2⟩
  .try dsimp only
   omega
  simp(disch:=omega)
 apply zE;refine bF fun _ _ Z=>?_;simp(disch:=omega);apply Z;apply aC;simp [aH];refine⟨_,_,⟨rfl,rfl⟩,?_⟩;first | exact Ja (by decide) (by omega) (by omega) | exact Jv (by assumption) hoc | exact Kd hmb (by assumption) hgv (by omega) hy0 hy1
theorem Ni(v:VN)(h:VG v)(hc:cJ v<=100):aH2 v:=fun deep depth left σ h1 h2 h3 h4=>Yc v deep depth left σ h.f (by omega) h1 h2 h3 h4 fun k hk=>Ni k (h.k k hk) (by have:=eL hk;omega)
termination_by cJ v
decreasing_by
 have:=eL hk;omega
def OkE(v:VN)(e:Int):Prop:=e=0->GV v
theorem aEq(v:VN)(depth nodes:Int)(σ:List (List D))(h:VG v)(hc:cJ v<=100):Ct prog 29 [jQ v,D.int depth,D.int nodes] σ (fun r σ'=>(∃e:Int,r=D.int e/\OkE v e)/\σ'=σ):=by
 refine zf func29 ?_;refine bF fun _ _ Z=>?_;simp(disch:=omega);apply Z;refine bF fun _ _ Z=>?_;refine zs 7 fun _ Y=>?_;simp(disch:=omega);and_intros<;>(try omega);apply Y;refine aF fun _ Y=>?_;simp(disch:=omega);refine Lt (Ni v h hc 1 (max 1 (min depth 20)) (max 1 (min nodes 4096)) _ (by omega) (by omega) (by omega) (by omega)) ?_;rintro _ _ ⟨⟨a,e,hr9,hoc⟩,hs9⟩;subst hr9;subst hs9;apply Y;simp(disch:=omega);apply Z;refine zk [6,8] ?_;refine bF fun _ _ Z=>?_;simp(disch:=omega);apply Z;apply aC;simp [aH];exact fun e=>(hoc.1 e).1
structure NV(v:VN):Prop where
 c4:v.classes.length<=4
 a4:v.attrs.length<=4
 s4:v.styles.length<=4
 cl:bV v.classes=v.classes
 sa:Sorted nA v.attrs
 ss:Sorted nP v.styles
 av:∀p∈v.attrs,p.value.size<=40
 t1:v.kind=1->v.kids= []/\fG (qQ v)= []
 e2:¬v.kind=1->dR v.tag=true/\(∀s∈fG (qQ v),dR s=true)/\∀p∈v.styles,As p.value=p.value
inductive NN:VN->Prop
 | mk (v:VN) (h:NV v) (hk:∀k∈v.kids,NN k):NN v
theorem NN.v {v:VN} (h:NN v):NV v:=by cases h;assumption
theorem NN.k {v:VN} (h:NN v):∀k∈v.kids,NN k:=by cases h;assumption
theorem NN.tk:∀ {v:VN},NN v->TK v
 | v,h=> .mk v (fun e=>(h.v.t1 e).1) fun k hk=>NN.tk (h.k k hk)
termination_by v=>cJ v
decreasing_by
 have:=eL hk;omega
theorem NV.txt {v:VN} (h:NV v)(s:ByteArray):NV (txt v s):=⟨h.c4,h.a4,h.s4,h.cl,h.sa,h.ss,h.av,h.t1,h.e2⟩
theorem NN.txt {v:VN} (h:NN v)(s:ByteArray):NN (txt v s):= .mk _ (h.v.txt s) h.k
theorem aAr {v:VN} {s:ByteArray} (h:s∈fG (qQ (fN v))):s∈fG (qQ v):=by
 rw [lT] at h;unfold fG qQ at h |-;simp only [bR,aX] at h |-;rcases h with (h | ⟨p,hp,e⟩) | ⟨p,hp,e⟩
 .exact .inl (.inl (Gv.1 h))
 .exact .inl (.inr ⟨p,Cu hp,e⟩)
 exact .inr ⟨p,Cu hp,e⟩
theorem Tm(l:Ls):bV (bV l)=bV l:=by
 have h:∀r:Ls,r.Nodup->bV r=r:=by
  intro r;obtain⟨q,rfl⟩:∃q,r=List.reverse q:=⟨r.reverse,by simp⟩;induction q with
  | nil=>intro _;rfl
  | cons a q ih=>
   intro hn;rw [Fz] at hn |-;have hn2:q.reverse.Nodup:=(mB.1 hn).1;rw [mT,ih hn2];unfold rF;rw [aD];rw [jG];intro hm;exact(mB.1 hn).2.2 a hm a (by simp) rfl
 exact h _ (oV l)
theorem aBn:∀ {v:VN},VG v->GV v->NN (fN v)
 | v, h, hg => by
  have hm:=hg.m;obtain⟨a,b,c, -, -, -, -,d, -⟩:=h.f;have he:=lT v;refine .mk _ ⟨?_,?_,?_,?_,?_,?_,?_,?_,?_⟩ fun k hk=>?_
  .rw [he];have:=oG v.classes;show(bV v.classes).length<=4;omega
  .rw [he];have:=jC nA v.attrs;show(iB nA v.attrs).length<=4;omega
  .rw [he];have:=jC nP v.styles;show(iB nP v.styles).length<=4;omega
  .rw [he];exact Tm _
  .rw [he];exact gK nA _
  .rw [he];exact gK nP _
  .rw [he];intro p hp;exact(d p (Cu hp)).2
  .intro e;rw [Ax] at e;rcases hm with ⟨-,h1,h2⟩ | ⟨h1, -⟩
   .refine⟨by rw [he];show iA ((v.kids.map fN).filter kI)= [];rw [h2];rfl,?_⟩;refine Dq.2 fun s hs=>?_;have:=aAr hs;rw [h1] at this;cases this
   omega
  .intro e;rw [Ax] at e;rcases hm with ⟨h1, -⟩ | ⟨-, -,h2,h3,h4⟩
   .exact absurd h1 e
   refine⟨by rw [he];exact h2,fun s hs=>h3 s (aAr hs),fun p hp=>?_⟩;rw [he] at hp;have:=h4 p (Cu hp);exact Qg ⟨by omega,by omega⟩
  rw [he] at hk;obtain⟨y,hy,s,rfl⟩:=aCy hk;obtain⟨z,hz,rfl⟩:=aX.1 (cX.1 hy).1;exact(aBn (h.k z hz) (hg.k z hz)).txt s
termination_by v=>cJ v
decreasing_by
 have:=eL hz;omega
theorem NV.ow {v:VN} (h:NV v)(he:¬v.kind=1):OwOk (qQ v):=⟨h.sa,h.ss,(h.e2 he).2.2⟩
theorem NV.put {v:VN} (h:NV v):Me ⟨0,0,0,0⟩ (qQ v)=qQ v:=by
 unfold Me aDn aDt;have hc:pC ⟨0,0,0,0⟩= []:=by decide+kernel
 have hg:Ji ⟨0,0,0,0⟩=false:=by decide+kernel
 rw [hc,hg,aD (by simp),aD (by simp)];show OW.mk (bV (v.classes++ [])) (iB nA v.attrs) (iB nP v.styles)=qQ v
 rw [gG,h.cl,rE nA h.sa,rE nP h.ss];rfl
section
variable {k m M l:Nat} {d d' d2:DS} {rk rk':Int->Nat} {σ σ2 σ3:List (List D)} {x y:RD} {ops:List TOp}
theorem LX.put_(h:LX k m M l d rk x ops σ) (hq:Off m d q)(hl:q≠l)(c:List D):LX k m M l d rk x ops (σ.set q c):=
 ⟨h.ix.put hq c,h.off,by rw [dF hl];exact h.at_,h.len⟩
theorem LX.app_(h:LX k m M l d rk x ops σ)(J:List (List D)):LX k m M l d rk x ops (σ++J):=
 ⟨h.ix.app J,h.off,by rw [bB (nX h.at_)];exact h.at_,h.len⟩
theorem LX.up_(h:LX k m M l d rk x ops σ):∀j,LX (k+j) m M l d rk x ops σ
 | 0=>h
 | j+1=>(h.up_ j).keep
def fZ(i:Int)(v:VN)(par:D)(qs:List Nat):List D:= [D.int i,D.int v.kind,D.str v.tag,D.str v.key,D.str v.text,.sl false (v.classes.map D.str),.sl false (v.attrs.map cY),.sl false (v.styles.map cQ),D.int v.opts.enter,D.int v.opts.leave,D.int v.opts.move,D.int v.opts.mode,D.bool v.opts.appear,D.bool v.opts.moves,.sl false [],
 D.int 0,D.int 0,D.int 0,D.int 0,D.int 0,D.int 0,D.bool false,D.int 0,D.bool false,D.int 0,par,.sl true (qs.map fun q=>D.ref q 0)]
inductive ItOk(σ:List (List D)):(Nat->Prop)->Int->VN->D->Nat->Prop
 | mk (F : Nat -> Prop) (i : Int) (v : VN) (par : D) (q : Nat) (qs : List Nat) (hF : F q) (hq : σ[q]? = some (fZ i v par qs)) (hl : qs.length = v.kids.length)
   (hk:∀(j:Nat) (h1:j<v.kids.length) (h2:j<qs.length) (h3:j<(gL (i+1) v.kids).length),ItOk σ (fun p=>F p/\q<p) ((gL (i+1) v.kids)[j]) (v.kids[j]) (.ref q 0) (qs[j])):ItOk σ F i v par q
theorem ItOk.frame {v:VN} (h:ItOk σ F i v par q):∀ {G:Nat->Prop},(∀q,F q->G q/\σ2[q]?=σ[q]?)->ItOk σ2 G i v par q:=by
 induction h with
 | mk F i v par q qs hF hq hl hk ih=>
  intro G hs;exact .mk G i v par q qs (hs q hF).1 (by rw [(hs q hF).2];exact hq) hl fun j h1 h2 h3=>ih j h1 h2 h3 fun p hp=>⟨⟨(hs p hp.1).1,hp.2⟩,(hs p hp.1).2⟩
def KidsOk(σ:List (List D))(F:Nat->Prop)(i:Int)(v:VN)(q:Nat)(qs:List Nat)(j:Nat):Prop:=
 qs.length=j/\∀(a:Nat) (h1:a<v.kids.length) (h2:a<qs.length) (h3:a<(gL (i+1) v.kids).length),ItOk σ F ((gL (i+1) v.kids)[a]) (v.kids[a]) (.ref q 0) (qs[a])
theorem KidsOk.frame {G:Nat->Prop} (hs:∀q,F q->G q/\σ2[q]?=σ[q]?) {v:VN} {j:Nat} (h:KidsOk σ F i v q qs j):KidsOk σ2 G i v q qs j:=
 ⟨h.1,fun a h1 h2 h3=>(h.2 a h1 h2 h3).frame hs⟩
theorem KidsOk.zero(σ:List (List D))(F:Nat->Prop)(i:Int)(v:VN)(q:Nat):KidsOk σ F i v q [] 0:=⟨rfl,fun a _ h _=>absurd h (by simp)⟩
theorem KidsOk.snoc {v:VN} {j p:Nat} (h:KidsOk σ F i v q qs j)(hj:j<v.kids.length)(hp:ItOk σ F (nO i v j) v.kids[j] (.ref q 0) p):KidsOk σ F i v q (qs++ [p]) (j+1):=by
 refine⟨by simp [h.1],fun a h1 h2 h3=>?_⟩;have hl:=h.1;by_cases ha:a<j
 .have e:(qs++ [p])[a]=qs[a]'(by omega):=uO (by omega);rw [e];exact h.2 a h1 (by omega) h3
 have ea:a=j:=by simp at h2;omega
 subst ea;have e:(qs++ [p])[a]=p:=by rw [uR (by omega)];simp [hl]
 rw [e];have ei : (gL (i + 1) v.kids)[a] = nO i v a := by
  have h4:gL (i+1) v.kids=gL (i+1) (v.kids.take a)++gL (i+1+((((v.kids.take a).map cJ).sum:Nat):Int)) (v.kids.drop a):=by
   have:∀(A B:List VN) (s:Int),gL s (A++B)=gL s A++gL (s+(((A.map cJ).sum:Nat):Int)) B:=by
    intro A;induction A with
    | nil=>intro B s;simp [gL]
    | cons c A ih=>
     intro B s;simp only [aQ,gL,ih,cE,iX];congr 3;omega
   rw [<- this,eO]
  have h5:(gL (i+1) (v.kids.take a)).length=a:=by rw [mW,bG];omega
  have h6:(gL (i+1) v.kids)[a]?=some (nO i v a):=by
   rw [h4,bX (by omega),h5,lD,uW hj];simp [gL,nO,uB]
  rw [aS h3] at h6;exact nB h6
 rw [ei];exact hp
theorem KidsOk.done {v:VN} (h:KidsOk σ (fun p=>F p/\q<p) i v q qs v.kids.length)(hF:F q)(hq:σ[q]?=some (fZ i v par qs)):ItOk σ F i v par q:= .mk F i v par q qs hF hq h.1 h.2
theorem ItOk.par_ {v:VN} (h:ItOk σ F i v par q)(par2:D):∃qs,σ[q]?=some (fZ i v par qs)/\ItOk (σ.set q (fZ i v par2 qs)) F i v par2 q:=by
 cases h with
 | mk _ _ _ _ _ qs hF hq hl hk=>
  exact⟨qs,hq,.mk F i v par2 q qs hF (aM hq _) hl fun j h1 h2 h3=>(hk j h1 h2 h3).frame fun p hp=>⟨hp,by rw [dF (by omega)]⟩⟩
theorem ItOk.F_ {v:VN} (h:ItOk σ F i v par q):F q:=by cases h;assumption
theorem ItOk.at_ {v:VN} (h:ItOk σ F i v par q):∃qs,σ[q]?=some (fZ i v par qs)/\qs.length=v.kids.length:=by
 cases h with
 | mk _ _ _ _ _ qs hF hq hl hk=>exact⟨qs,hq,hl⟩
end
def pL:List D:= [D.int 0,D.int 0,D.str ⟨#[]⟩,D.str ⟨#[]⟩,D.str ⟨#[]⟩,.sl true [],.sl true [],.sl true [],D.int 0,D.int 0,D.int 0,D.int 0,D.bool false,D.bool false,.sl true [],D.int 0,D.int 0,D.int 0,D.int 0,D.int 0,D.int 0,D.bool false,D.int 0,D.bool false,D.int 0,.v (.pointer none),.sl true []]
def Ws(qs:Nat->Nat)(j:Nat):List Nat:=(List.range j).map qs
theorem xB(qs:Nat->Nat)(j:Nat):Ws qs (j+1)=Ws qs j++ [qs j]:=by unfold Ws;rw [uZ,cN];rfl
theorem Sj(qs:Nat->Nat)(j:Nat):(Ws qs j).length=j:=by simp [Ws]
theorem aKh(l q:Nat)(v:VN)(i:Int)(s1:List (List D))(st a:Nat->List (List D))(qs:Nat->Nat)(nx:Nat->Int)(ks:Nat->List Nat)(σ:List (List D))(hq:q=σ.length)(hT:v.kind=1->Ct prog 177 [.ref l 0,D.str v.text] (σ++ [pL]) (fun r τ=>r= .tup [D.int i,D.int 0]/\τ=s1))(hE:¬v.kind=1->Ct prog 178 [.ref l 0,D.str v.tag] (σ++ [pL]) (fun r τ=>r= .tup [D.int i,D.int 0]/\τ=s1))(h1:s1[q]?=some pL)(hP:Ct prog 32 [.ref q 0,.ref l 0] (s1.set q (fZ i v (.v (.pointer none)) [])) (fun r τ=>r= .tup []/\τ=st 0))(hn:v.kids.length<=9999)(hs:∀j,j<=v.kids.length->(st j)[q]?=some (fZ i v (.v (.pointer none)) (Ws qs j)))(hG:∀j (h:j<v.kids.length),Ct prog 93 [.ref l 0,jQ v.kids[j]] (st j) (fun r τ=>r= .ref (qs j) 0/\τ=a j))(ha:∀j (h:j<v.kids.length),(a j)[q]?=some (fZ i v (.v (.pointer none)) (Ws qs j))/\qs j≠q/\(a j)[qs j]?=some (fZ (nx j) v.kids[j] (.v (.pointer none)) (ks j)))(hI:∀j (h:j<v.kids.length),Ct prog 64 [.ref l 0,D.int i,D.int j,D.int (nx j)] (((a j).set (qs j) (fZ (nx j) v.kids[j] (.ref q 0) (ks j))).set q (fZ i v (.v (.pointer none)) (Ws qs (j+1)))) (fun r τ=>r=D.int 0/\τ=st (j+1))):Ct prog 93 [.ref l 0,jQ v] σ (fun r σ'=>r= .ref q 0/\σ'=st v.kids.length):=by
 refine zf func93 ?_;subst hq;refine zr ⟨[59],[],[10],[],[]⟩ fun _ _ Z=>?_;simp(disch:=omega)[pL,fZ,h1,aM h1];apply Z;refine zr ⟨[59],[],[10],[],[]⟩ fun _ _ Z=>?_;simp(disch:=omega)[pL,fZ,h1,aM h1];and_intros<;>(try omega);apply Z;apply aE;refine zr ⟨[59],[],[10],[],[]⟩ fun _ _ Z=>?_;simp(disch:=omega)[pL,fZ,h1,aM h1];apply Z;refine zI ?_ ?_<;>intro c1<;>try simp at c1
 .refine zt ⟨[59],[],[10],[],[]⟩ fun _ _ Z=>?_;refine zs 4 fun _ Y=>?_;simp(disch:=omega)[pL,fZ,h1,aM h1];apply Y;refine aF fun _ Y=>?_;simp(disch:=omega)[pL,fZ,h1,aM h1];refine cU (hT c1) ?_;apply Y;simp(disch:=omega)[pL,fZ,h1,aM h1];apply Z;apply fV;refine zk [0,3,4,5] ?_;refine zr ⟨[59],[],[10],[],[]⟩ fun _ _ Z=>?_;refine zs 2 fun _ Y=>?_;simp(disch:=omega)[pL,fZ,h1,aM h1];apply Y;refine aF fun _ Y=>?_;simp(disch:=omega)[pL,fZ,h1,aM h1];refine cU (aCb σ.length v i (D.int 0) (D.str ⟨#[]⟩) (D.str ⟨#[]⟩) (D.str ⟨#[]⟩) (.sl true []) (.sl true []) (.sl true []) (D.int 0) (D.int 0) (D.int 0) (D.int 0) (D.bool false) (D.bool false) (.sl true []) (D.int 0) (D.int 0) (D.int 0) (D.int 0) (D.int 0) (D.int 0) (D.bool false) (D.int 0) (D.bool false) (D.int 0) (.v (.pointer none)) (.sl true []) _ (aM h1 _)) ?_;apply Y;simp only [eF];apply Z;refine zr ⟨[59],[],[10],[],[]⟩ fun _ _ Z=>?_;refine zs 2 fun _ Y=>?_;simp(disch:=omega)[pL,fZ,h1,aM h1];apply Y;refine aF fun _ Y=>?_;simp(disch:=omega)[pL,fZ,h1,aM h1];refine cU (hP) ?_;apply Y;simp only [eF];apply Z;apply aE;refine zr ⟨[59],[],[10],[],[]⟩ fun _ _ Z=>?_;simp(disch:=omega)[pL,fZ,h1,aM h1];and_intros<;>(try omega);apply Z;apply aR;refine zk [0,4,5,41,42,43] ?_;refine nK (fun(j:Nat)=> [(43,.d (.v (.int .i64 (j:Int)))),(6,.d (.any)),(8,.d (.any))]) (fun(j:Nat)=> [[D.int v.kind,D.str v.tag,D.str v.key,D.str v.text,.sl false (v.classes.map D.str),.sl false (v.attrs.map cY),.sl false (v.styles.map cQ),D.int v.opts.enter,D.int v.opts.leave,D.int v.opts.move,D.int v.opts.mode,D.bool v.opts.appear,D.bool v.opts.moves,.sl false (v.kids.map nT)]]) (fun(j:Nat)=>st j) [6,7,8,43,44,45,46,47,48,49,50,51,52,53,54,55,56,57,58,59,60,61,62,63,64,65,66,67,68,69,70,71,72,73,74,75,76] (fun(j:Nat)=>j<=v.kids.length) (fun(j:Nat)=>v.kids.length - j) (0) (by simp <;> rfl) ?_ (by simp) (by simp) ?_ ?_
  .simp
  .simp
  rintro j hj;simp only [aQ,aP];have hsj:=hs j hj;have hql:=Sj qs j;refine zr ⟨[59],[],[10],[],[]⟩ fun _ _ Z=>?_;simp(disch:=omega)[pL,fZ,h1,aM h1];apply Z;apply aE;refine zI ?_ ?_<;>intro c2<;>try simp at c2
  .apply kP;refine zr ⟨[59],[],[10],[],[]⟩ fun _ _ Z=>?_;simp(disch:=omega)[pL,fZ,h1,aM h1];and_intros<;>(try omega);apply Z;refine zk [0,4,5,6,7,8,41,42,43] ?_;refine zr ⟨[59],[],[10],[],[]⟩ fun _ _ Z=>?_;refine zs 2 fun _ Y=>?_;simp(disch:=omega)[pL,fZ,h1,aM h1];apply Y;refine aF fun _ Y=>?_;simp(disch:=omega)[pL,fZ,h1,aM h1];refine cU (hG j (by omega)) ?_;obtain⟨ha1,ha2,ha3⟩:=ha j (by omega);have g1:∀c,((a j).set (qs j) c)[σ.length]?=some (fZ i v (.v (.pointer none)) (Ws qs j)):=fun c=>by rw [dF ha2];exact ha1
   have g2:∀c c2,(((a j).set (qs j) c).set σ.length c2)[qs j]?=some c:=fun c c2=>by rw [dF (fun e=>ha2 e.symm)];exact aM ha3 c
   have g3:∀c c2,(((a j).set (qs j) c).set σ.length c2)[σ.length]?=some c2:=fun c c2=>aM (g1 c) c2;have hI2:=hI j (by omega);simp only [fZ,xB,cN,cE,iW] at hI2;apply Y;simp(disch:=omega)[pL,fZ,h1,aM h1,ha3,g1,g2,g3];apply Z;refine zk [0,4,5,6,8,41,42,43] ?_;refine zr ⟨[59],[],[10],[],[]⟩ fun _ _ Z=>?_;simp(disch:=omega)[pL,fZ,h1,aM h1,ha3,g1,g2,g3];apply Z;refine zk [0,4,5,6,8,41,42,43] ?_;refine zr ⟨[59],[],[10],[],[]⟩ fun _ _ Z=>?_;refine zs 8 fun _ Y=>?_;simp(disch:=omega)[pL,fZ,h1,aM h1,ha3,g1,g2,g3];and_intros<;>(try omega);apply Y;simp(disch:=omega)[pL,fZ,h1,aM h1,ha3,g1,g2,g3];apply Z;refine zk [0,4,5,6,8,41,42,43] ?_;refine ze ⟨[59],[],[10],[],[]⟩ [.op {},.op {},.op {},.op {},.op {rO:=true},.op {},.op {},.op {},.op {},.op {rO:=true},.det] fun all hall _ Z=>?_;refine lN 8 fun _ Y=>?_;simp(disch:=omega)[pL,fZ,h1,aM h1,ha3,g1,g2,g3];apply Y;refine lN 2 fun _ Y=>?_;simp(disch:=omega)[pL,fZ,h1,aM h1,ha3,g1,g2,g3];apply Y;refine cK fun _ Y=>?_;simp(disch:=omega)[pL,fZ,h1,aM h1,ha3,g1,g2,g3];refine zdd (hI2) ?_;apply Y;simp only [uK];apply Z;apply zB;refine zk [0,4,5,6,8,41,42,43] ?_;refine zt ⟨[59],[],[10],[],[]⟩ fun _ _ Z=>?_;simp(disch:=omega)[pL,fZ,h1,aM h1,ha3,g1,g2,g3];and_intros<;>(try omega);apply Z;refine zq (j+1) ?_ ?_ ?_
   .omega
   .try dsimp only
    omega
   simp(disch:=omega)[pL,fZ,h1,aM h1,ha3,g1,g2,g3]
  obtain rfl:j=v.kids.length:=by omega
  apply zE;refine zr ⟨[59],[],[10],[],[]⟩ fun _ _ Z=>?_;simp(disch:=omega)[pL,fZ,h1,aM h1];apply Z;apply aC;simp [aH]
 refine zt ⟨[59],[],[10],[],[]⟩ fun _ _ Z=>?_;refine zs 4 fun _ Y=>?_;simp(disch:=omega)[pL,fZ,h1,aM h1];apply Y;refine aF fun _ Y=>?_;simp(disch:=omega)[pL,fZ,h1,aM h1];refine cU (hE c1) ?_;apply Y;simp(disch:=omega)[pL,fZ,h1,aM h1];apply Z;apply fV;refine zk [0,3,4,5] ?_;refine zr ⟨[59],[],[10],[],[]⟩ fun _ _ Z=>?_;refine zs 2 fun _ Y=>?_;simp(disch:=omega)[pL,fZ,h1,aM h1];apply Y;refine aF fun _ Y=>?_;simp(disch:=omega)[pL,fZ,h1,aM h1];refine cU (aCb σ.length v i (D.int 0) (D.str ⟨#[]⟩) (D.str ⟨#[]⟩) (D.str ⟨#[]⟩) (.sl true []) (.sl true []) (.sl true []) (D.int 0) (D.int 0) (D.int 0) (D.int 0) (D.bool false) (D.bool false) (.sl true []) (D.int 0) (D.int 0) (D.int 0) (D.int 0) (D.int 0) (D.int 0) (D.bool false) (D.int 0) (D.bool false) (D.int 0) (.v (.pointer none)) (.sl true []) _ (aM h1 _)) ?_;apply Y;simp only [eF];apply Z;refine zr ⟨[59],[],[10],[],[]⟩ fun _ _ Z=>?_;refine zs 2 fun _ Y=>?_;simp(disch:=omega)[pL,fZ,h1,aM h1];apply Y;refine aF fun _ Y=>?_;simp(disch:=omega)[pL,fZ,h1,aM h1];refine cU (hP) ?_;apply Y;simp only [eF];apply Z;apply aE;refine zr ⟨[59],[],[10],[],[]⟩ fun _ _ Z=>?_;simp(disch:=omega)[pL,fZ,h1,aM h1];and_intros<;>(try omega);apply Z;apply aR;refine zk [0,4,5,41,42,43] ?_;refine nK (fun(j:Nat)=> [(43,.d (.v (.int .i64 (j:Int)))),(6,.d (.any)),(8,.d (.any))]) (fun(j:Nat)=> [[D.int v.kind,D.str v.tag,D.str v.key,D.str v.text,.sl false (v.classes.map D.str),.sl false (v.attrs.map cY),.sl false (v.styles.map cQ),D.int v.opts.enter,D.int v.opts.leave,D.int v.opts.move,D.int v.opts.mode,D.bool v.opts.appear,D.bool v.opts.moves,.sl false (v.kids.map nT)]]) (fun(j:Nat)=>st j) [6,7,8,43,44,45,46,47,48,49,50,51,52,53,54,55,56,57,58,59,60,61,62,63,64,65,66,67,68,69,70,71,72,73,74,75,76] (fun(j:Nat)=>j<=v.kids.length) (fun(j:Nat)=>v.kids.length - j) (0) (by simp <;> rfl) ?_ (by simp) (by simp) ?_ ?_
 .simp
 .simp
 rintro j hj;simp only [aQ,aP];have hsj:=hs j hj;have hql:=Sj qs j;refine zr ⟨[59],[],[10],[],[]⟩ fun _ _ Z=>?_;simp(disch:=omega)[pL,fZ,h1,aM h1];apply Z;apply aE;refine zI ?_ ?_<;>intro c3<;>try simp at c3
 .apply kP;refine zr ⟨[59],[],[10],[],[]⟩ fun _ _ Z=>?_;simp(disch:=omega)[pL,fZ,h1,aM h1];and_intros<;>(try omega);apply Z;refine zk [0,4,5,6,7,8,41,42,43] ?_;refine zr ⟨[59],[],[10],[],[]⟩ fun _ _ Z=>?_;refine zs 2 fun _ Y=>?_;simp(disch:=omega)[pL,fZ,h1,aM h1];apply Y;refine aF fun _ Y=>?_;simp(disch:=omega)[pL,fZ,h1,aM h1];refine cU (hG j (by omega)) ?_;obtain⟨ha1,ha2,ha3⟩:=ha j (by omega);have g1:∀c,((a j).set (qs j) c)[σ.length]?=some (fZ i v (.v (.pointer none)) (Ws qs j)):=fun c=>by rw [dF ha2];exact ha1
  have g2:∀c c2,(((a j).set (qs j) c).set σ.length c2)[qs j]?=some c:=fun c c2=>by rw [dF (fun e=>ha2 e.symm)];exact aM ha3 c
  have g3:∀c c2,(((a j).set (qs j) c).set σ.length c2)[σ.length]?=some c2:=fun c c2=>aM (g1 c) c2;have hI2:=hI j (by omega);simp only [fZ,xB,cN,cE,iW] at hI2;apply Y;simp(disch:=omega)[pL,fZ,h1,aM h1,ha3,g1,g2,g3];apply Z;refine zk [0,4,5,6,8,41,42,43] ?_;refine zr ⟨[59],[],[10],[],[]⟩ fun _ _ Z=>?_;simp(disch:=omega)[pL,fZ,h1,aM h1,ha3,g1,g2,g3];apply Z;refine zk [0,4,5,6,8,41,42,43] ?_;refine zr ⟨[59],[],[10],[],[]⟩ fun _ _ Z=>?_;refine zs 8 fun _ Y=>?_;simp(disch:=omega)[pL,fZ,h1,aM h1,ha3,g1,g2,g3];and_intros<;>(try omega);apply Y;simp(disch:=omega)[pL,fZ,h1,aM h1,ha3,g1,g2,g3];apply Z;refine zk [0,4,5,6,8,41,42,43] ?_;refine ze ⟨[59],[],[10],[],[]⟩ [.op {},.op {},.op {},.op {},.op {rO:=true},.op {},.op {},.op {},.op {},.op {rO:=true},.det] fun all hall _ Z=>?_;refine lN 8 fun _ Y=>?_;simp(disch:=omega)[pL,fZ,h1,aM h1,ha3,g1,g2,g3];apply Y;refine lN 2 fun _ Y=>?_;simp(disch:=omega)[pL,fZ,h1,aM h1,ha3,g1,g2,g3];apply Y;refine cK fun _ Y=>?_;simp(disch:=omega)[pL,fZ,h1,aM h1,ha3,g1,g2,g3];refine zdd (hI2) ?_;apply Y;simp only [uK];apply Z;apply zB;refine zk [0,4,5,6,8,41,42,43] ?_;refine zt ⟨[59],[],[10],[],[]⟩ fun _ _ Z=>?_;simp(disch:=omega)[pL,fZ,h1,aM h1,ha3,g1,g2,g3];and_intros<;>(try omega);apply Z;refine zq (j+1) ?_ ?_ ?_
  .omega
  .try dsimp only
   omega
  simp(disch:=omega)[pL,fZ,h1,aM h1,ha3,g1,g2,g3]
 obtain rfl:j=v.kids.length:=by omega
 apply zE;refine zr ⟨[59],[],[10],[],[]⟩ fun _ _ Z=>?_;simp(disch:=omega)[pL,fZ,h1,aM h1];apply Z;apply aC;simp [aH]
end Go.Proofs.YtbgfljpnhhdkoaaGreat
