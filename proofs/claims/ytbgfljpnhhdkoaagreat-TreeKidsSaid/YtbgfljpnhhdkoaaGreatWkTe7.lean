import Derived.Test.YtbgfljpnhhdkoaaGreatWkVi11
import Derived.Test.YtbgfljpnhhdkoaaGreatTeRd
import Derived.Test.YtbgfljpnhhdkoaaGreatVm6
set_option maxHeartbeats 8000000
set_option linter.all false
set_option maxRecDepth 20000
open Go.Proofs.Tryz
namespace Go.Proofs.YtbgfljpnhhdkoaaGreat
open Go Go.Vm
variable {F:Nat->Prop}{a i:Int}{os qs:List Nat}{par:D}{q:Nat}{σ:List (List D)}
inductive GV:VN->Prop
 | mk (v:VN) (h:aLf v) (hk:∀k∈v.kids,GV k):GV v
theorem GV.m {v:VN} (h:GV v):aLf v:=by cases h;assumption
theorem GV.k {v:VN} (h:GV v):∀k∈v.kids,GV k:=by cases h;assumption
def OkC(v:VN)(a e:Int):Prop:=(e=0->GV v/\0<=a)/\ -1<=a/\a<=9999
theorem Kb {v:VN} {e:Int} (h:¬e=0)(h1: -1<=a)(h2:a<=9999):OkC v a e:=⟨fun e=>absurd e h,h1,h2⟩
theorem Km {v w:VN} {e:Int} (h:¬e=0)(ho:OkC w a e):OkC v a e:=⟨fun e=>absurd e h,ho.2⟩
theorem Ji {v:VN} {k:Nat} {b:Bool} (hb:gX v b)(h:b=true)(hk:∀x∈v.kids.take k,GV x)(e:v.kids.length<=k)(h1:0<=a)(h2:a<=9999):OkC v a 0:=by
 rw [bV e] at hk;exact⟨fun _=>⟨.mk v (hb h) hk,h1⟩,by omega,h2⟩
abbrev aIy(v:VN):Prop:=∀(deep depth left:Int) (σ:List (List D)),0<=deep->deep+cT v<=9999->0<=left->left<=9999->Ct prog 91 [lF v,D.int deep,D.int depth,D.int left] σ (fun r σ'=>(∃a e:Int,r= .tup [D.int a,D.int e]/\OkC v a e)/\σ'=σ)
theorem Xa(v:VN)(deep depth left:Int)(σ:List (List D))(h:VF v)(hc:cT v<=9999)(hd0:0<=deep)(hd1:deep+cT v<=9999)(hl0:0<=left)(hl1:left<=9999)(ih:∀k∈v.kids,aIy k):Ct prog 91 [lF v,D.int deep,D.int depth,D.int left] σ (fun r σ'=>(∃a e:Int,r= .tup [D.int a,D.int e]/\OkC v a e)/\σ'=σ):=by
 refine zf func91 ?_;have hkl:=lK v;have hns:=aJ3 h;have hnl:=aAr h;have hV:=h;obtain⟨h1,h2,h3,h4,h5,h6,h7,h8,h9⟩:=h;refine bC fun _ _ Z=>?_;simp(disch:=omega);apply Z;refine bC fun _ _ Z=>?_;simp(disch:=omega);and_intros<;>(try omega);apply Z;apply aE;refine bC fun _ _ Z=>?_;simp(disch:=omega);apply Z;refine zI ?_ ?_<;>intro c1<;>try simp at c1
 .refine bC fun _ _ Z=>?_;simp(disch:=omega);apply Z;apply aC;simp [aG];refine⟨_,_,⟨rfl,rfl⟩,?_⟩;first | exact Kb (by decide) (by omega) (by omega) | exact Km (by assumption) hoc | exact Ji hmb (by assumption) hgv (by omega) hy0 hy1
 apply zA;apply aE;refine bC fun _ _ Z=>?_;simp(disch:=omega);apply Z;refine zI ?_ ?_<;>intro c2<;>try simp at c2
 .refine bC fun _ _ Z=>?_;simp(disch:=omega);apply Z;apply aC;simp [aG];refine⟨_,_,⟨rfl,rfl⟩,?_⟩;first | exact Kb (by decide) (by omega) (by omega) | exact Km (by assumption) hoc | exact Ji hmb (by assumption) hgv (by omega) hy0 hy1
 apply zA;apply aE;refine bC fun _ _ Z=>?_;refine zs 1 fun _ Y=>?_;simp(disch:=omega);apply Y;refine aF fun _ Y=>?_;simp(disch:=omega);refine Ma (aNt v _ hV (by omega)) ?_;rintro _ _ ⟨⟨mb,hr9,hmb⟩,hs9⟩;subst hr9;subst hs9;apply Y;simp(disch:=omega);apply Z;refine zI ?_ ?_<;>intro c3<;>try simp at c3
 .refine zk [1,2,3,4,8,9] ?_;refine bC fun _ _ Z=>?_;simp(disch:=omega);apply Z;apply aC;simp [aG];refine⟨_,_,⟨rfl,rfl⟩,?_⟩;first | exact Kb (by decide) (by omega) (by omega) | exact Km (by assumption) hoc | exact Ji hmb (by assumption) hgv (by omega) hy0 hy1
 apply zA;apply aE;refine zk [1,2,3,4,8,9] ?_;refine bC fun _ _ Z=>?_;refine zs 1 fun _ Y=>?_;simp(disch:=omega);apply Y;refine aF fun _ Y=>?_;simp(disch:=omega);refine cN (xN v _ (by omega) (by omega) (by omega)) ?_;obtain⟨N,hN⟩:∃N,fF (qK v)=N:=⟨_,rfl⟩;rw [hN] at hns hnl |-;apply Y;simp(disch:=omega);and_intros<;>(try omega);apply Z;apply aR;refine zk [1,2,3,4,8,9,34,35,36] ?_;refine aY (fun(k0:Nat)=> [(36,.d (.v (.int .i64 (k0:Int)))),(11,.d (.any))]) [8,9,11,36,37,38,39,40,41,42,43] (fun(k0:Nat)=>k0<=N.length) (fun(k0:Nat)=>N.length - k0) (0) (by simp <;> rfl) ?_ ?_ ?_
 .simp
 .simp
 rintro k0 hk0;simp only [aQ,aP];refine bC fun _ _ Z=>?_;simp(disch:=omega);apply Z;apply aE;refine zI ?_ ?_<;>intro c4<;>try simp at c4
 .apply kO;refine bC fun _ _ Z=>?_;simp(disch:=omega);and_intros<;>(try omega);apply Z;refine zk [1,2,3,4,11,34,35,36] ?_;refine bC fun _ _ Z=>?_;refine zs 1 fun _ Y=>?_;simp(disch:=omega);apply Y;refine aF fun _ Y=>?_;simp(disch:=omega);refine Ma (aO2 N[k0] _ (by have:=hns N[k0] (cB _);omega)) ?_;rintro _ _ ⟨⟨bb,hr9⟩,hs9⟩;subst hr9;subst hs9;apply Y;simp only [dT];apply Z;refine zI ?_ ?_<;>intro c5<;>try simp at c5
  .refine bC fun _ _ Z=>?_;simp(disch:=omega);apply Z;apply aC;simp [aG];refine⟨_,_,⟨rfl,rfl⟩,?_⟩;first | exact Kb (by decide) (by omega) (by omega) | exact Km (by assumption) hoc | exact Ji hmb (by assumption) hgv (by omega) hy0 hy1
  apply nM;refine qF fun _ _ Z=>?_;simp(disch:=omega);and_intros<;>(try omega);apply Z;refine zq (k0+1) ?_ ?_ ?_
  .omega
  .try dsimp only
   omega
  simp(disch:=omega)
 apply zE;apply aE;refine bC fun _ _ Z=>?_;simp(disch:=omega);and_intros<;>(try omega);apply Z;apply aR;refine zk [1,2,3,4,45,46,47] ?_;refine aY (fun(k1:Nat)=> [(47,.d (.v (.int .i64 (k1:Int)))),(12,.d (.any))]) [8,9,12,13,15,47,48,49,50,51,52,53,54,55,56,57,58,59,60,61,62,63,64,65,66,67,68,69,70,71,72,73] (fun(k1:Nat)=>k1<=v.kids.length) (fun(k1:Nat)=>v.kids.length - k1) (0) (by simp <;> rfl) ?_ ?_ ?_
 .simp
 .simp
 rintro k1 hk1;simp only [aQ,aP];refine bC fun _ _ Z=>?_;simp(disch:=omega);apply Z;apply aE;refine zI ?_ ?_<;>intro c6<;>try simp at c6
 .apply kO;refine bC fun _ _ Z=>?_;simp(disch:=omega);and_intros<;>(try omega);apply Z;refine zk [1,2,3,4,12,13,45,46,47] ?_;refine bC fun _ _ Z=>?_;simp(disch:=omega);and_intros<;>(try omega);apply Z;apply aR;refine zk [1,2,3,4,12,13,45,46,47,55,56,57] ?_;refine aY (fun(k2:Nat)=> [(57,.d (.v (.int .i64 (k2:Int))))]) [8,9,15,57,58,59,60,61,62,63,64,65,66,67,68,69,70,71,72] (fun(k2:Nat)=>k2<=k1) (fun(k2:Nat)=>k1 - k2) (0) (by simp <;> rfl) ?_ ?_ ?_
  .simp
  .simp
  rintro k2 hk2;simp only [aQ,aP];refine zk [1,2,3,4,12,13,45,46,47,55,56,57] ?_;refine bC fun _ _ Z=>?_;simp(disch:=omega);apply Z;apply aE;refine zI ?_ ?_<;>intro c7<;>try simp at c7
  .apply kO;refine zk [1,2,3,4,12,13,45,46,47,55,56,57] ?_;refine bC fun _ _ Z=>?_;simp(disch:=omega);and_intros<;>(try omega);apply Z;refine zk [1,2,3,4,12,13,15,45,46,47,55,56,57] ?_;refine mE ⟨[],[],[],[],[]⟩ fun all hall _ Z=>?_;have ga3:aO all 3=some 64:=hall 3;refine zs 4 fun _ Y=>?_;simp(disch:=omega)[ga3];apply Y;refine zb 64 ?_ ?_<;>intro g8<;>try simp at g8
   .simp(disch:=omega)[ga3];apply Z;refine zI ?_ ?_<;>intro c9<;>try simp at c9
    .refine zk [1,2,3,4,12,13,45,46,47,55,56,57] ?_;refine bC fun _ _ Z=>?_;simp(disch:=omega);apply Z;apply aC;apply aC2;apply aHh;simp [aG];refine⟨_,_,⟨rfl,rfl⟩,?_⟩;first | exact Kb (by decide) (by omega) (by omega) | exact Km (by assumption) hoc | exact Ji hmb (by assumption) hgv (by omega) hy0 hy1
    apply nM;refine zk [1,2,3,4,12,13,45,46,47,55,56,57] ?_;refine qF fun _ _ Z=>?_;simp(disch:=omega);and_intros<;>(try omega);apply Z;refine zq (k2+1) ?_ ?_ ?_
    .omega
    .try dsimp only
     omega
    simp(disch:=omega)
   simp(disch:=omega)[ga3];apply Z;refine aZ (t:=false) (by simp) (fun h=>by cases h) (fun _=>?_);apply nM;refine zk [1,2,3,4,12,13,45,46,47,55,56,57] ?_;refine qF fun _ _ Z=>?_;simp(disch:=omega);and_intros<;>(try omega);apply Z;refine zq (k2+1) ?_ ?_ ?_
   .omega
   .try dsimp only
    omega
   simp(disch:=omega)
  apply Cp;apply Ba;apply Cz;apply xR;apply zB;refine zk [1,2,3,4,12,45,46,47] ?_;refine qF fun _ _ Z=>?_;simp(disch:=omega);and_intros<;>(try omega);apply Z;refine zq (k1+1) ?_ ?_ ?_
  .omega
  .try dsimp only
   omega
  simp(disch:=omega)
 apply zE;apply aE;refine bC fun _ _ Z=>?_;simp(disch:=omega);and_intros<;>(try omega);apply Z;apply aR;refine zk [1,2,3,75,76,77] ?_;refine aY (fun(p:Nat×Int)=> [(77,.d (.v (.int .i64 (p.1:Int)))),(3,.d (.int p.2)),(18,.d (.any)),(19,.d (.any)),(81,.d (.any))]) [3,8,9,17,18,19,77,78,79,80,81,82,83,84,85,86,87,88,89,90,91,92,93,94,95] (fun(p:Nat×Int)=>p.1<=v.kids.length/\(∀x∈v.kids.take p.1,GV x)/\0<=p.2/\p.2<=9999) (fun(p:Nat×Int)=>v.kids.length - p.1) ((0,left - 1)) (by simp <;> rfl) ?_ ?_ ?_
 .simp
 .simp;omega
 rintro⟨k3,y⟩ ⟨hk3,hgv,hy0,hy1⟩;simp only [aQ,aP];dsimp only at hk3 hgv hy0 hy1;refine bC fun _ _ Z=>?_;simp(disch:=omega);apply Z;apply aE;refine zI ?_ ?_<;>intro c10<;>try simp at c10
 .apply kO;refine bC fun _ _ Z=>?_;simp(disch:=omega);and_intros<;>(try omega);apply Z;refine zk [1,2,3,17,18,19,75,76,77,81] ?_;refine bC fun _ _ Z=>?_;refine zs 5 fun _ Y=>?_;simp(disch:=omega);and_intros<;>(try omega);apply Y;refine aF fun _ Y=>?_;simp(disch:=omega);refine Ma (ih v.kids[k3] (cB _) (deep+1) depth y _ (by omega) (by have:=fV (v:=v) (cB (l:=v.kids) (n:=k3) (by omega));omega) hy0 hy1) ?_;rintro _ _ ⟨⟨a,e,hr9,hoc⟩,hs9⟩;subst hr9;subst hs9;apply Y;simp(disch:=omega);apply Z;apply aE;refine zk [1,2,3,18,19,75,76,77,81] ?_;refine bC fun _ _ Z=>?_;simp(disch:=omega);apply Z;refine zI ?_ ?_<;>intro c11<;>try simp at c11
  .refine bC fun _ _ Z=>?_;simp(disch:=omega);apply Z;apply aC;simp [aG];refine⟨_,_,⟨rfl,rfl⟩,?_⟩;first | exact Kb (by decide) (by omega) (by omega) | exact Km (by assumption) hoc | exact Ji hmb (by assumption) hgv (by omega) hy0 hy1
  apply zA;refine qF fun _ _ Z=>?_;simp(disch:=omega);apply Z;apply zB;refine zk [1,2,3,18,19,75,76,77,81] ?_;refine qF fun _ _ Z=>?_;simp(disch:=omega);and_intros<;>(try omega);apply Z;refine zq ((k3+1,a)) ?_ ?_ ?_
  .refine⟨by omega,Cw (by omega) hgv ((hoc.1 (by assumption)).1),(hoc.1 (by assumption)).2,hoc.2.2⟩
  .try dsimp only
   omega
  simp(disch:=omega)
 apply zE;refine bC fun _ _ Z=>?_;simp(disch:=omega);apply Z;apply aC;simp [aG];refine⟨_,_,⟨rfl,rfl⟩,?_⟩;first | exact Kb (by decide) (by omega) (by omega) | exact Km (by assumption) hoc | exact Ji hmb (by assumption) hgv (by omega) hy0 hy1
theorem No(v:VN)(h:VG v)(hc:cT v<=100):aIy v:=fun deep depth left σ h1 h2 h3 h4=>Xa v deep depth left σ h.f (by omega) h1 h2 h3 h4 fun k hk=>No k (h.k k hk) (by have:=fV hk;omega)
termination_by cT v
decreasing_by
 have:=fV hk;omega
def OkE(v:VN)(e:Int):Prop:=e=0->GV v
theorem aEw(v:VN)(depth nodes:Int)(σ:List (List D))(h:VG v)(hc:cT v<=100):Ct prog 29 [lF v,D.int depth,D.int nodes] σ (fun r σ'=>(∃e:Int,r=D.int e/\OkE v e)/\σ'=σ):=by
 refine zf func29 ?_;refine bC fun _ _ Z=>?_;simp(disch:=omega);apply Z;refine bC fun _ _ Z=>?_;refine zs 7 fun _ Y=>?_;simp(disch:=omega);and_intros<;>(try omega);apply Y;refine aF fun _ Y=>?_;simp(disch:=omega);refine Ma (No v h hc 1 (max 1 (min depth 20)) (max 1 (min nodes 4096)) _ (by omega) (by omega) (by omega) (by omega)) ?_;rintro _ _ ⟨⟨a,e,hr9,hoc⟩,hs9⟩;subst hr9;subst hs9;apply Y;simp(disch:=omega);apply Z;refine zk [6,8] ?_;refine bC fun _ _ Z=>?_;simp(disch:=omega);apply Z;apply aC;simp [aG];exact fun e=>(hoc.1 e).1
structure NV(v:VN):Prop where
 c4:v.classes.length<=4
 a4:v.attrs.length<=4
 s4:v.styles.length<=4
 cl:bS v.classes=v.classes
 sa:Sorted nA v.attrs
 ss:Sorted nP v.styles
 av:∀p∈v.attrs,p.value.size<=40
 t1:v.kind=1->v.kids= []/\fF (qK v)= []
 e2:¬v.kind=1->dO v.tag=true/\(∀s∈fF (qK v),dO s=true)/\∀p∈v.styles,Ae p.value=p.value
inductive NN:VN->Prop
 | mk (v:VN) (h:NV v) (hk:∀k∈v.kids,NN k):NN v
theorem NN.v {v:VN} (h:NN v):NV v:=by cases h;assumption
theorem NN.k {v:VN} (h:NN v):∀k∈v.kids,NN k:=by cases h;assumption
theorem NN.tk:∀ {v:VN},NN v->TK v
 | v,h=> .mk v (fun e=>(h.v.t1 e).1) fun k hk=>NN.tk (h.k k hk)
termination_by v=>cT v
decreasing_by
 have:=fV hk;omega
theorem NV.txt {v:VN} (h:NV v)(s:ByteArray):NV (txt v s):=⟨h.c4,h.a4,h.s4,h.cl,h.sa,h.ss,h.av,h.t1,h.e2⟩
theorem NN.txt {v:VN} (h:NN v)(s:ByteArray):NN (txt v s):= .mk _ (h.v.txt s) h.k
theorem aAe {v:VN} {s:ByteArray} (h:s∈fF (qK (eI v))):s∈fF (qK v):=by
 rw [nN] at h;unfold fF qK at h |-;simp only [bN,aW] at h |-;rcases h with (h | ⟨p,hp,e⟩) | ⟨p,hp,e⟩
 .exact .inl (.inl (Ge.1 h))
 .exact .inl (.inr ⟨p,Hl hp,e⟩)
 exact .inr ⟨p,Hl hp,e⟩
theorem Vr(l:Ls):bS (bS l)=bS l:=by
 have h:∀r:Ls,r.Nodup->bS r=r:=by
  intro r;obtain⟨q,rfl⟩:∃q,r=List.reverse q:=⟨r.reverse,by simp⟩;induction q with
  | nil=>intro _;rfl
  | cons a q ih=>
   intro hn;rw [Gd] at hn |-;have hn2:q.reverse.Nodup:=(lO.1 hn).1;rw [mK,ih hn2];unfold sP;rw [aD];rw [iZ];intro hm;exact(lO.1 hn).2.2 a hm a (by simp) rfl
 exact h _ (oE l)
theorem aBe:∀ {v:VN},VG v->GV v->NN (eI v)
 | v, h, hg => by
  have hm:=hg.m;obtain⟨a,b,c, -, -, -, -,d, -⟩:=h.f;have he:=nN v;refine .mk _ ⟨?_,?_,?_,?_,?_,?_,?_,?_,?_⟩ fun k hk=>?_
  .rw [he];have:=pG v.classes;show(bS v.classes).length<=4;omega
  .rw [he];have:=iX nA v.attrs;show(iP nA v.attrs).length<=4;omega
  .rw [he];have:=iX nP v.styles;show(iP nP v.styles).length<=4;omega
  .rw [he];exact Vr _
  .rw [he];exact gI nA _
  .rw [he];exact gI nP _
  .rw [he];intro p hp;exact(d p (Hl hp)).2
  .intro e;rw [Kj] at e;rcases hm with ⟨-,h1,h2⟩ | ⟨h1, -⟩
   .refine⟨by rw [he];show pN ((v.kids.map eI).filter oR)= [];rw [h2];rfl,?_⟩;refine Eh.2 fun s hs=>?_;have:=aAe hs;rw [h1] at this;cases this
   omega
  .intro e;rw [Kj] at e;rcases hm with ⟨h1, -⟩ | ⟨-, -,h2,h3,h4⟩
   .exact absurd h1 e
   refine⟨by rw [he];exact h2,fun s hs=>h3 s (aAe hs),fun p hp=>?_⟩;rw [he] at hp;have:=h4 p (Hl hp);exact Pe ⟨by omega,by omega⟩
  rw [he] at hk;obtain⟨y,hy,s,rfl⟩:=aFi hk;obtain⟨z,hz,rfl⟩:=aW.1 (cS.1 hy).1;exact(aBe (h.k z hz) (hg.k z hz)).txt s
termination_by v=>cT v
decreasing_by
 have:=fV hz;omega
theorem NV.ow {v:VN} (h:NV v)(he:¬v.kind=1):OwOk (qK v):=⟨h.sa,h.ss,(h.e2 he).2.2⟩
theorem NV.put {v:VN} (h:NV v):Lj ⟨0,0,0,0⟩ (qK v)=qK v:=by
 unfold Lj aEi aFf;have hc:oO ⟨0,0,0,0⟩= []:=by decide+kernel
 have hg:tG ⟨0,0,0,0⟩=false:=by decide+kernel
 rw [hc,hg,aD (by simp),aD (by simp)];show OW.mk (bS (v.classes++ [])) (iP nA v.attrs) (iP nP v.styles)=qK v
 rw [gO,h.cl,qV nA h.sa,qV nP h.ss];rfl
section
variable {k m M l:Nat}{d d' d2:DS}{rk rk':Int->Nat}{σ2 σ3:List (List D)}{x y:RD}{ops:List TOp}
theorem LX.put_(h:LX k m M l d rk x ops σ) (hq:Off m d q)(hl:q≠l)(c:List D):LX k m M l d rk x ops (σ.set q c):=
 ⟨h.ix.put hq c,h.off,by rw [eK hl];exact h.at_,h.len⟩
theorem LX.app_(h:LX k m M l d rk x ops σ)(J:List (List D)):LX k m M l d rk x ops (σ++J):=
 ⟨h.ix.app J,h.off,by rw [bB (pC h.at_)];exact h.at_,h.len⟩
theorem LX.up_(h:LX k m M l d rk x ops σ):∀j,LX (k+j) m M l d rk x ops σ
 | 0=>h
 | j+1=>(h.up_ j).keep
def jS(i:Int)(v:VN)(par:D)(qs:List Nat):List D:= [D.int i,D.int v.kind,D.str v.tag,D.str v.key,D.str v.text,.sl false (v.classes.map D.str),.sl false (v.attrs.map cZ),.sl false (v.styles.map cL),D.int v.opts.enter,D.int v.opts.leave,D.int v.opts.move,D.int v.opts.mode,D.bool v.opts.appear,D.bool v.opts.moves,.sl false [],
 D.int 0,D.int 0,D.int 0,D.int 0,D.int 0,D.int 0,D.bool false,D.int 0,D.bool false,D.int 0,par,.sl true (qs.map fun q=>D.ref q 0)]
inductive ItOk(σ:List (List D)):(Nat->Prop)->Int->VN->D->Nat->Prop
 | mk (F : Nat -> Prop) (i : Int) (v : VN) (par : D) (q : Nat) (qs : List Nat) (hF : F q) (hq : σ[q]? = some (jS i v par qs)) (hl : qs.length = v.kids.length)
   (hk:∀(j:Nat) (h1:j<v.kids.length) (h2:j<qs.length) (h3:j<(gG (i+1) v.kids).length),ItOk σ (fun p=>F p/\q<p) ((gG (i+1) v.kids)[j]) (v.kids[j]) (.ref q 0) (qs[j])):ItOk σ F i v par q
theorem ItOk.frame {v:VN} (h:ItOk σ F i v par q):∀ {G:Nat->Prop},(∀q,F q->G q/\σ2[q]?=σ[q]?)->ItOk σ2 G i v par q:=by
 induction h with
 | mk F i v par q qs hF hq hl hk ih=>
  intro G hs;exact .mk G i v par q qs (hs q hF).1 (by rw [(hs q hF).2];exact hq) hl fun j h1 h2 h3=>ih j h1 h2 h3 fun p hp=>⟨⟨(hs p hp.1).1,hp.2⟩,(hs p hp.1).2⟩
def KidsOk(σ:List (List D))(F:Nat->Prop)(i:Int)(v:VN)(q:Nat)(qs:List Nat)(j:Nat):Prop:=
 qs.length=j/\∀(a:Nat) (h1:a<v.kids.length) (h2:a<qs.length) (h3:a<(gG (i+1) v.kids).length),ItOk σ F ((gG (i+1) v.kids)[a]) (v.kids[a]) (.ref q 0) (qs[a])
theorem KidsOk.frame {G:Nat->Prop} (hs:∀q,F q->G q/\σ2[q]?=σ[q]?) {v:VN} {j:Nat} (h:KidsOk σ F i v q qs j):KidsOk σ2 G i v q qs j:=
 ⟨h.1,fun a h1 h2 h3=>(h.2 a h1 h2 h3).frame hs⟩
theorem KidsOk.zero(σ:List (List D))(F:Nat->Prop)(i:Int)(v:VN)(q:Nat):KidsOk σ F i v q [] 0:=⟨rfl,fun a _ h _=>absurd h (by simp)⟩
theorem KidsOk.snoc {v:VN} {j p:Nat} (h:KidsOk σ F i v q qs j)(hj:j<v.kids.length)(hp:ItOk σ F (oS i v j) v.kids[j] (.ref q 0) p):KidsOk σ F i v q (qs++ [p]) (j+1):=by
 refine⟨by simp [h.1],fun a h1 h2 h3=>?_⟩;have hl:=h.1;by_cases ha:a<j
 .have e:(qs++ [p])[a]=qs[a]'(by omega):=tK (by omega);rw [e];exact h.2 a h1 (by omega) h3
 have ea:a=j:=by simp at h2;omega
 subst ea;have e:(qs++ [p])[a]=p:=by rw [uM (by omega)];simp [hl]
 rw [e];have ei : (gG (i + 1) v.kids)[a] = oS i v a := by
  have h4:gG (i+1) v.kids=gG (i+1) (v.kids.take a)++gG (i+1+((((v.kids.take a).map cT).sum:Nat):Int)) (v.kids.drop a):=by
   have:∀(A B:List VN) (s:Int),gG s (A++B)=gG s A++gG (s+(((A.map cT).sum:Nat):Int)) B:=by
    intro A;induction A with
    | nil=>intro B s;simp [gG]
    | cons c A ih=>
     intro B s;simp only [aQ,gG,ih,cK,jG];congr 3;omega
   rw [<- this,fB]
  have h5:(gG (i+1) (v.kids.take a)).length=a:=by rw [lN,bF];omega
  have h6:(gG (i+1) v.kids)[a]?=some (oS i v a):=by
   rw [h4,bT (by omega),h5,lU,xM hj];simp [gG,oS,zO]
  rw [aT h3] at h6;exact jV h6
 rw [ei];exact hp
theorem KidsOk.done {v:VN} (h:KidsOk σ (fun p=>F p/\q<p) i v q qs v.kids.length)(hF:F q)(hq:σ[q]?=some (jS i v par qs)):ItOk σ F i v par q:= .mk F i v par q qs hF hq h.1 h.2
theorem ItOk.par_ {v:VN} (h:ItOk σ F i v par q)(par2:D):∃qs,σ[q]?=some (jS i v par qs)/\ItOk (σ.set q (jS i v par2 qs)) F i v par2 q:=by
 cases h with
 | mk _ _ _ _ _ qs hF hq hl hk=>
  exact⟨qs,hq,.mk F i v par2 q qs hF (aM hq _) hl fun j h1 h2 h3=>(hk j h1 h2 h3).frame fun p hp=>⟨hp,by rw [eK (by omega)]⟩⟩
theorem ItOk.F_ {v:VN} (h:ItOk σ F i v par q):F q:=by cases h;assumption
theorem ItOk.at_ {v:VN} (h:ItOk σ F i v par q):∃qs,σ[q]?=some (jS i v par qs)/\qs.length=v.kids.length:=by
 cases h with
 | mk _ _ _ _ _ qs hF hq hl hk=>exact⟨qs,hq,hl⟩
end
theorem wJ {α:Type} {P:Nat->α->Prop} :∀(n:Nat),(∀j,j<n->∃x,P j x)->∃l:List α,l.length=n/\∀(j:Nat) (hj:j<l.length),P j l[j]
 | 0,_=>⟨[],rfl,fun j hj=>absurd hj (by simp)⟩
 | n+1,h=>by
  obtain⟨l,h1,h2⟩:=wJ n fun j hj=>h j (by omega);obtain⟨x,hx⟩:=h n (by omega);refine⟨l++ [x],by simp [h1],fun j hj=>?_⟩;by_cases hjl:j<l.length
  .rw [tK hjl];exact h2 j hjl
  have:j=n:=by simp at hj;omega
  subst this;rw [uM (by omega)];simpa using hx
inductive Sq(σ:List (List D)):Int->List Nat->Prop
 | nil (i:Int):Sq σ i []
 | cons (i:Int) (x:Nat) (l:List Nat) (w:VN) (p:Nat) (rs:List Nat) (hx:σ[x]?=some (jS i w (.ref p 0) rs)) (hl:Sq σ (i+1) l):Sq σ i (x::l)
theorem Sq.append {A B:List Nat} (h:Sq σ i A):Sq σ (i+(A.length:Int)) B->Sq σ i (A++B):=by
 induction h with
 | nil i=>intro h;simpa using h
 | cons i x l w p rs hx hl ih=>
  intro h;refine .cons i x _ w p rs hx (ih ?_);rw [show i+1+(l.length:Int)=i+((x::l).length:Int) by simp;omega];exact h
theorem Sq.flat :∀(ks:List VN) (oss:List (List Nat)) (s:Int),oss.length=ks.length->(∀(j:Nat) (h1:j<oss.length) (h2:j<ks.length) (h3:j<(gG s ks).length),Sq σ ((gG s ks)[j]) oss[j]/\oss[j].length=cT ks[j])->
  Sq σ s oss.flatten/\oss.flatten.length=(ks.map cT).sum
 | [],oss,s,hl,h=>by
  obtain rfl:=xH.1 hl;exact⟨.nil s,rfl⟩
 | k::ks, [],s,hl,h=>by simp at hl
 | k::ks,o::oss,s,hl,h=>by
  obtain⟨a1,a2⟩:=h 0 (by simp) (by simp) (by simp [gG]);have a1':Sq σ s o:=a1;have a2':o.length=cT k:=a2;obtain⟨b1,b2⟩:=Sq.flat ks oss (s+cT k) (by simpa using hl) fun j h1 h2 h3=>h (j+1) (by simpa using h1) (by simpa using h2) (by simpa [gG] using h3);refine⟨?_,by rw [rZ,bA,b2,a2',cK,jG]⟩;rw [rZ];exact a1'.append (by rw [a2'];exact b1)
theorem aJk {i2:Int} {v v2:VN} {p p2:D} {a b:List Nat} (h:jS i v p a=jS i2 v2 p2 b):i=i2/\a=b:=by
 unfold jS at h;simp only [List.cons.injEq,D.v.injEq,Value.int.injEq,D.sl.injEq,true_and,oA] at h;refine⟨by first | exact h.1 | exact h.1.2,?_⟩;have hm:a.map (fun q=>D.ref q 0)=b.map (fun q=>D.ref q 0):=by
  have:=h.2;first | exact this.2.2.2.2.2.2.2.2.2.2.2.2.2.2 | simp_all
 have:∀(a b:List Nat),a.map (fun q=>D.ref q 0)=b.map (fun q=>D.ref q 0)->a=b:=by
  intro a;induction a with
  | nil=>intro b h;cases b with
   | nil=>rfl
   | cons y b=>simp at h
  | cons x a ih =>
   intro b h;cases b with
   | nil=>simp at h
   | cons y b=>
    simp only [cK,List.cons.injEq,D.ref.injEq,oA] at h;rw [h.1,ih b h.2]
 exact this a b hm
theorem Sq.has {l:List Nat} (h:Sq σ i l):∀x∈l,∃(j:Int) (w:VN) (p:Nat) (rs:List Nat),i<=j/\σ[x]?=some (jS j w (.ref p 0) rs):=by
 induction h with
 | nil i=>intro x hx;cases hx
 | cons i x l w p rs hx hl ih=>
  intro y hy;rcases bM.1 hy with rfl | hy
  .exact⟨i,w,p,rs,lS _,hx⟩
  obtain⟨j,w2,p2,r2,h1,h2⟩:=ih y hy;exact⟨j,w2,p2,r2,by omega,h2⟩
theorem Sq.nodup {l:List Nat} (h:Sq σ i l):l.Nodup:=by
 induction h with
 | nil i=>exact tV
 | cons i x l w p rs hx hl ih=>
  rw [gU];refine⟨fun hm=>?_,ih⟩;obtain⟨j,w2,p2,r2,h1,h2⟩:=hl.has x hm;rw [hx] at h2;have:=(aJk (jV h2)).1;omega
theorem Sq.at_ {l:List Nat} (h:Sq σ i l):∀(a:Nat) (ha:a<l.length),∃(w:VN) (p:Nat) (rs:List Nat),σ[l[a]]?=some (jS (i+(a:Int)) w (.ref p 0) rs):=by
 induction h with
 | nil i=>intro a ha;simp at ha
 | cons i x l w p rs hx hl ih =>
  intro a ha;cases a with
  | zero=>exact⟨w,p,rs,by simpa using hx⟩
  | succ b=>
   obtain⟨w2,p2,r2,h2⟩:=ih b (by simpa using ha);exact⟨w2,p2,r2,by rw [show i+((b+1:Nat):Int)=i+1+(b:Int) by omega];exact h2⟩
theorem ItOk.ord {v:VN} (hc:cT v<=9999)(h:ItOk σ F i v par q):
  ∃t,IQ σ q (q::t)/\t.length+1=cT v/\Sq σ (i+1) t/\(∀x∈t,F x/\q<x)/\∀i2 w2 p2 qs,σ[q]?=some (jS i2 w2 p2 qs)->∀x∈qs,x∈t:=by
 induction h with
 | mk F i v par q qs hF hq hl hk ih =>
  have hP:∀j,j<qs.length->∃o:List Nat,∀(h1:j<v.kids.length) (h2:j<qs.length) (h3:j<(gG (i+1) v.kids).length),∃t,o=qs[j]::t/\IQ σ qs[j] o/\o.length=cT v.kids[j]/\Sq σ ((gG (i+1) v.kids)[j]) o/\∀x∈o,F x/\q<x:=by
   intro j hj;have h1:j<v.kids.length:=by omega
   have h3:j<(gG (i+1) v.kids).length:=by rw [lN];exact h1
   have hcv:=fV (cB h1);obtain⟨t,t1,t2,t3,t4, -⟩:=ih j h1 hj h3 (by omega);obtain⟨rs,r1, -⟩:=(hk j h1 hj h3).at_;refine⟨qs[j]::t,fun _ _ _=>⟨t,rfl,t1,by simpa using t2,.cons _ _ _ _ q rs r1 t3,fun x hx=>?_⟩⟩;rcases bM.1 hx with rfl | hx
   .exact(hk j h1 hj h3).F_
   exact(t4 x hx).1
  obtain⟨oss,o1,o2⟩:=wJ qs.length hP;have hlen:=lK v;have hsq:=Sq.flat (σ:=σ) v.kids oss (i+1) (by omega) fun j h1 h2 h3=>by
   obtain⟨t,e,a1,a2,a3,a4⟩:=o2 j h1 h2 (by omega) h3;exact⟨a3,a2⟩
  refine⟨oss.flatten,.mk q _ qs oss hq rfl (by omega) o1 (fun j h1 h2=>?_),by rw [hsq.2,jA];omega,hsq.1,fun x hx=>?_,fun i2 w2 p2 qs2 e x hx=>?_⟩
  .obtain⟨t,e,a1,a2,a3,a4⟩:=o2 j h2 (by omega) h1 (by rw [lN];omega);exact a1
  .obtain⟨o,ho,hxo⟩:=xL.1 hx;obtain⟨j,hj,rfl⟩:=jX ho;obtain⟨t,e,a1,a2,a3,a4⟩:=o2 j hj (by omega) (by omega) (by rw [lN];omega);exact⟨(a4 x hxo).1,(a4 x hxo).2⟩
  rw [hq] at e;have:=(aJk (jV e)).2;subst this;obtain⟨j,hj,rfl⟩:=jX hx;obtain⟨t,e,a1,a2,a3,a4⟩:=o2 j (by omega) (by omega) hj (by rw [lN];omega);exact xL.2 ⟨_,cB (by omega:j<oss.length),by rw [e];exact fA⟩
theorem IQ.frame {τ:List (List D)} (h:IQ σ q os)(hf:∀x∈os,∀cs,σ[x]?=some cs->∃cs2,τ[x]?=some cs2/\cs2[26]?=cs[26]?):IQ τ q os:=by
 induction h with
 | mk q cs qs oss hq h26 hlen hl hk ih=>
  obtain⟨cs2,c1,c2⟩:=hf q fA cs hq;refine .mk q cs2 qs oss c1 (c2.trans h26) hlen hl fun j h1 h2=>ih j h1 h2 fun x hx=>hf x (gK _ (xL.2 ⟨_,cB h2,hx⟩))
theorem Jk {n:Nat} {qf:Nat->Nat} {f:Nat->Bool} (hn:os.Nodup)(hi:∀a b,a<n->b<n->qf a=qf b->a=b)(hm:∀a,a<n->qf a∈os)(hf:∀x∈os,f x=true->∃a,a<n/\x=qf a):
  os.countP f=((List.range n).filter fun a=>f (qf a)).length:=by
 have e:((List.range n).filter fun a=>f (qf a)).length=(((List.range n).filter fun a=>f (qf a)).map qf).length:=(bQ ..).symm;rw [List.countP_eq_length_filter,e];refine List.Perm.length_eq ?_;rw [List.perm_ext_iff_of_nodup (hn.filter _) ?_]
 .intro x;rw [cS,aW];constructor
  .rintro⟨h1,h2⟩;obtain⟨a,ha,rfl⟩:=hf x h1 h2;exact⟨a,cS.2 ⟨dS.2 ha,h2⟩,rfl⟩
  rintro⟨a,ha,rfl⟩;obtain⟨h1,h2⟩:=cS.1 ha;exact⟨hm a (dS.1 h1),h2⟩
 show List.Pairwise _ _
 rw [List.pairwise_map];refine List.Pairwise.imp_of_mem ?_ (Fo _ List.pairwise_lt_range);intro a b ha hb hlt e;have:=hi a b (dS.1 (cS.1 ha).1) (dS.1 (cS.1 hb).1) e;omega
def oX:List D:= [D.int 0,D.int 0,D.str ⟨#[]⟩,D.str ⟨#[]⟩,D.str ⟨#[]⟩,.sl true [],.sl true [],.sl true [],D.int 0,D.int 0,D.int 0,D.int 0,D.bool false,D.bool false,.sl true [],D.int 0,D.int 0,D.int 0,D.int 0,D.int 0,D.int 0,D.bool false,D.int 0,D.bool false,D.int 0,.v (.pointer none),.sl true []]
def qsl(qs:Nat->Nat)(j:Nat):List Nat:=(List.range j).map qs
theorem Jg(qs:Nat->Nat)(j:Nat):qsl qs (j+1)=qsl qs j++ [qs j]:=by unfold qsl;rw [oH,cO];rfl
theorem aBu(qs:Nat->Nat)(j:Nat):(qsl qs j).length=j:=by simp [qsl]
theorem aIq(l q:Nat)(v:VN)(i:Int)(s1:List (List D))(st a:Nat->List (List D))(qs:Nat->Nat)(nx:Nat->Int)(ks:Nat->List Nat)(σ:List (List D))(hq:q=σ.length)(hT:v.kind=1->Ct prog 177 [.ref l 0,D.str v.text] (σ++ [oX]) (fun r τ=>r= .tup [D.int i,D.int 0]/\τ=s1))(hE:¬v.kind=1->Ct prog 178 [.ref l 0,D.str v.tag] (σ++ [oX]) (fun r τ=>r= .tup [D.int i,D.int 0]/\τ=s1))(h1:s1[q]?=some oX)(hP:Ct prog 32 [.ref q 0,.ref l 0] (s1.set q (jS i v (.v (.pointer none)) [])) (fun r τ=>r= .tup []/\τ=st 0))(hn:v.kids.length<=9999)(hs:∀j,j<=v.kids.length->(st j)[q]?=some (jS i v (.v (.pointer none)) (qsl qs j)))(hG:∀j (h:j<v.kids.length),Ct prog 93 [.ref l 0,lF v.kids[j]] (st j) (fun r τ=>r= .ref (qs j) 0/\τ=a j))(ha:∀j (h:j<v.kids.length),(a j)[q]?=some (jS i v (.v (.pointer none)) (qsl qs j))/\qs j≠q/\(a j)[qs j]?=some (jS (nx j) v.kids[j] (.v (.pointer none)) (ks j)))(hI:∀j (h:j<v.kids.length),Ct prog 64 [.ref l 0,D.int i,D.int j,D.int (nx j)] (((a j).set (qs j) (jS (nx j) v.kids[j] (.ref q 0) (ks j))).set q (jS i v (.v (.pointer none)) (qsl qs (j+1)))) (fun r τ=>r=D.int 0/\τ=st (j+1))):Ct prog 93 [.ref l 0,lF v] σ (fun r σ'=>r= .ref q 0/\σ'=st v.kids.length):=by
 refine zf func93 ?_;subst hq;refine zr ⟨[59],[],[10],[],[]⟩ fun _ _ Z=>?_;simp(disch:=omega)[oX,jS,h1,aM h1];apply Z;refine zr ⟨[59],[],[10],[],[]⟩ fun _ _ Z=>?_;simp(disch:=omega)[oX,jS,h1,aM h1];and_intros<;>(try omega);apply Z;apply aE;refine zr ⟨[59],[],[10],[],[]⟩ fun _ _ Z=>?_;simp(disch:=omega)[oX,jS,h1,aM h1];apply Z;refine zI ?_ ?_<;>intro c1<;>try simp at c1
 .refine zt ⟨[59],[],[10],[],[]⟩ fun _ _ Z=>?_;refine zs 4 fun _ Y=>?_;simp(disch:=omega)[oX,jS,h1,aM h1];apply Y;refine aF fun _ Y=>?_;simp(disch:=omega)[oX,jS,h1,aM h1];refine cN (hT c1) ?_;apply Y;simp(disch:=omega)[oX,jS,h1,aM h1];apply Z;apply dV;refine zk [0,3,4,5] ?_;refine zr ⟨[59],[],[10],[],[]⟩ fun _ _ Z=>?_;refine zs 2 fun _ Y=>?_;simp(disch:=omega)[oX,jS,h1,aM h1];apply Y;refine aF fun _ Y=>?_;simp(disch:=omega)[oX,jS,h1,aM h1];refine cN (aAk σ.length v i (D.int 0) (D.str ⟨#[]⟩) (D.str ⟨#[]⟩) (D.str ⟨#[]⟩) (.sl true []) (.sl true []) (.sl true []) (D.int 0) (D.int 0) (D.int 0) (D.int 0) (D.bool false) (D.bool false) (.sl true []) (D.int 0) (D.int 0) (D.int 0) (D.int 0) (D.int 0) (D.int 0) (D.bool false) (D.int 0) (D.bool false) (D.int 0) (.v (.pointer none)) (.sl true []) _ (aM h1 _)) ?_;apply Y;simp only [dT];apply Z;refine zr ⟨[59],[],[10],[],[]⟩ fun _ _ Z=>?_;refine zs 2 fun _ Y=>?_;simp(disch:=omega)[oX,jS,h1,aM h1];apply Y;refine aF fun _ Y=>?_;simp(disch:=omega)[oX,jS,h1,aM h1];refine cN (hP) ?_;apply Y;simp only [dT];apply Z;apply aE;refine zr ⟨[59],[],[10],[],[]⟩ fun _ _ Z=>?_;simp(disch:=omega)[oX,jS,h1,aM h1];and_intros<;>(try omega);apply Z;apply aR;refine zk [0,4,5,41,42,43] ?_;refine oD (fun(j:Nat)=> [(43,.d (.v (.int .i64 (j:Int)))),(6,.d (.any)),(8,.d (.any))]) (fun(j:Nat)=> [[D.int v.kind,D.str v.tag,D.str v.key,D.str v.text,.sl false (v.classes.map D.str),.sl false (v.attrs.map cZ),.sl false (v.styles.map cL),D.int v.opts.enter,D.int v.opts.leave,D.int v.opts.move,D.int v.opts.mode,D.bool v.opts.appear,D.bool v.opts.moves,.sl false (v.kids.map rC)]]) (fun(j:Nat)=>st j) [6,7,8,43,44,45,46,47,48,49,50,51,52,53,54,55,56,57,58,59,60,61,62,63,64,65,66,67,68,69,70,71,72,73,74,75,76] (fun(j:Nat)=>j<=v.kids.length) (fun(j:Nat)=>v.kids.length - j) (0) (by simp <;> rfl) ?_ (by simp) (by simp) ?_ ?_
  .simp
  .simp
  rintro j hj;simp only [aQ,aP];have hsj:=hs j hj;have hql:=aBu qs j;refine zr ⟨[59],[],[10],[],[]⟩ fun _ _ Z=>?_;simp(disch:=omega)[oX,jS,h1,aM h1];apply Z;apply aE;refine zI ?_ ?_<;>intro c2<;>try simp at c2
  .apply kO;refine zr ⟨[59],[],[10],[],[]⟩ fun _ _ Z=>?_;simp(disch:=omega)[oX,jS,h1,aM h1];and_intros<;>(try omega);apply Z;refine zk [0,4,5,6,7,8,41,42,43] ?_;refine zr ⟨[59],[],[10],[],[]⟩ fun _ _ Z=>?_;refine zs 2 fun _ Y=>?_;simp(disch:=omega)[oX,jS,h1,aM h1];apply Y;refine aF fun _ Y=>?_;simp(disch:=omega)[oX,jS,h1,aM h1];refine cN (hG j (by omega)) ?_;obtain⟨ha1,ha2,ha3⟩:=ha j (by omega);have g1:∀c,((a j).set (qs j) c)[σ.length]?=some (jS i v (.v (.pointer none)) (qsl qs j)):=fun c=>by rw [eK ha2];exact ha1
   have g2:∀c c2,(((a j).set (qs j) c).set σ.length c2)[qs j]?=some c:=fun c c2=>by rw [eK (fun e=>ha2 e.symm)];exact aM ha3 c
   have g3:∀c c2,(((a j).set (qs j) c).set σ.length c2)[σ.length]?=some c2:=fun c c2=>aM (g1 c) c2;have hI2:=hI j (by omega);simp only [jS,Jg,cO,cK,kY] at hI2;apply Y;simp(disch:=omega)[oX,jS,h1,aM h1,ha3,g1,g2,g3];apply Z;refine zk [0,4,5,6,8,41,42,43] ?_;refine zr ⟨[59],[],[10],[],[]⟩ fun _ _ Z=>?_;simp(disch:=omega)[oX,jS,h1,aM h1,ha3,g1,g2,g3];apply Z;refine zk [0,4,5,6,8,41,42,43] ?_;refine zr ⟨[59],[],[10],[],[]⟩ fun _ _ Z=>?_;refine zs 8 fun _ Y=>?_;simp(disch:=omega)[oX,jS,h1,aM h1,ha3,g1,g2,g3];and_intros<;>(try omega);apply Y;simp(disch:=omega)[oX,jS,h1,aM h1,ha3,g1,g2,g3];apply Z;refine zk [0,4,5,6,8,41,42,43] ?_;refine ze ⟨[59],[],[10],[],[]⟩ [.op {},.op {},.op {},.op {},.op {rO:=true},.op {},.op {},.op {},.op {},.op {rO:=true},.det] fun all hall _ Z=>?_;refine nI 8 fun _ Y=>?_;simp(disch:=omega)[oX,jS,h1,aM h1,ha3,g1,g2,g3];apply Y;refine nI 2 fun _ Y=>?_;simp(disch:=omega)[oX,jS,h1,aM h1,ha3,g1,g2,g3];apply Y;refine cH fun _ Y=>?_;simp(disch:=omega)[oX,jS,h1,aM h1,ha3,g1,g2,g3];refine zdd (hI2) ?_;apply Y;simp only [uA];apply Z;apply zB;refine zk [0,4,5,6,8,41,42,43] ?_;refine zt ⟨[59],[],[10],[],[]⟩ fun _ _ Z=>?_;simp(disch:=omega)[oX,jS,h1,aM h1,ha3,g1,g2,g3];and_intros<;>(try omega);apply Z;refine zq (j+1) ?_ ?_ ?_
   .omega
   .try dsimp only
    omega
   simp(disch:=omega)[oX,jS,h1,aM h1,ha3,g1,g2,g3]
  obtain rfl:j=v.kids.length:=by omega
  apply zE;refine zr ⟨[59],[],[10],[],[]⟩ fun _ _ Z=>?_;simp(disch:=omega)[oX,jS,h1,aM h1];apply Z;apply aC;simp [aG]
 refine zt ⟨[59],[],[10],[],[]⟩ fun _ _ Z=>?_;refine zs 4 fun _ Y=>?_;simp(disch:=omega)[oX,jS,h1,aM h1];apply Y;refine aF fun _ Y=>?_;simp(disch:=omega)[oX,jS,h1,aM h1];refine cN (hE c1) ?_;apply Y;simp(disch:=omega)[oX,jS,h1,aM h1];apply Z;apply dV;refine zk [0,3,4,5] ?_;refine zr ⟨[59],[],[10],[],[]⟩ fun _ _ Z=>?_;refine zs 2 fun _ Y=>?_;simp(disch:=omega)[oX,jS,h1,aM h1];apply Y;refine aF fun _ Y=>?_;simp(disch:=omega)[oX,jS,h1,aM h1];refine cN (aAk σ.length v i (D.int 0) (D.str ⟨#[]⟩) (D.str ⟨#[]⟩) (D.str ⟨#[]⟩) (.sl true []) (.sl true []) (.sl true []) (D.int 0) (D.int 0) (D.int 0) (D.int 0) (D.bool false) (D.bool false) (.sl true []) (D.int 0) (D.int 0) (D.int 0) (D.int 0) (D.int 0) (D.int 0) (D.bool false) (D.int 0) (D.bool false) (D.int 0) (.v (.pointer none)) (.sl true []) _ (aM h1 _)) ?_;apply Y;simp only [dT];apply Z;refine zr ⟨[59],[],[10],[],[]⟩ fun _ _ Z=>?_;refine zs 2 fun _ Y=>?_;simp(disch:=omega)[oX,jS,h1,aM h1];apply Y;refine aF fun _ Y=>?_;simp(disch:=omega)[oX,jS,h1,aM h1];refine cN (hP) ?_;apply Y;simp only [dT];apply Z;apply aE;refine zr ⟨[59],[],[10],[],[]⟩ fun _ _ Z=>?_;simp(disch:=omega)[oX,jS,h1,aM h1];and_intros<;>(try omega);apply Z;apply aR;refine zk [0,4,5,41,42,43] ?_;refine oD (fun(j:Nat)=> [(43,.d (.v (.int .i64 (j:Int)))),(6,.d (.any)),(8,.d (.any))]) (fun(j:Nat)=> [[D.int v.kind,D.str v.tag,D.str v.key,D.str v.text,.sl false (v.classes.map D.str),.sl false (v.attrs.map cZ),.sl false (v.styles.map cL),D.int v.opts.enter,D.int v.opts.leave,D.int v.opts.move,D.int v.opts.mode,D.bool v.opts.appear,D.bool v.opts.moves,.sl false (v.kids.map rC)]]) (fun(j:Nat)=>st j) [6,7,8,43,44,45,46,47,48,49,50,51,52,53,54,55,56,57,58,59,60,61,62,63,64,65,66,67,68,69,70,71,72,73,74,75,76] (fun(j:Nat)=>j<=v.kids.length) (fun(j:Nat)=>v.kids.length - j) (0) (by simp <;> rfl) ?_ (by simp) (by simp) ?_ ?_
 .simp
 .simp
 rintro j hj;simp only [aQ,aP];have hsj:=hs j hj;have hql:=aBu qs j;refine zr ⟨[59],[],[10],[],[]⟩ fun _ _ Z=>?_;simp(disch:=omega)[oX,jS,h1,aM h1];apply Z;apply aE;refine zI ?_ ?_<;>intro c3<;>try simp at c3
 .apply kO;refine zr ⟨[59],[],[10],[],[]⟩ fun _ _ Z=>?_;simp(disch:=omega)[oX,jS,h1,aM h1];and_intros<;>(try omega);apply Z;refine zk [0,4,5,6,7,8,41,42,43] ?_;refine zr ⟨[59],[],[10],[],[]⟩ fun _ _ Z=>?_;refine zs 2 fun _ Y=>?_;simp(disch:=omega)[oX,jS,h1,aM h1];apply Y;refine aF fun _ Y=>?_;simp(disch:=omega)[oX,jS,h1,aM h1];refine cN (hG j (by omega)) ?_;obtain⟨ha1,ha2,ha3⟩:=ha j (by omega);have g1:∀c,((a j).set (qs j) c)[σ.length]?=some (jS i v (.v (.pointer none)) (qsl qs j)):=fun c=>by rw [eK ha2];exact ha1
  have g2:∀c c2,(((a j).set (qs j) c).set σ.length c2)[qs j]?=some c:=fun c c2=>by rw [eK (fun e=>ha2 e.symm)];exact aM ha3 c
  have g3:∀c c2,(((a j).set (qs j) c).set σ.length c2)[σ.length]?=some c2:=fun c c2=>aM (g1 c) c2;have hI2:=hI j (by omega);simp only [jS,Jg,cO,cK,kY] at hI2;apply Y;simp(disch:=omega)[oX,jS,h1,aM h1,ha3,g1,g2,g3];apply Z;refine zk [0,4,5,6,8,41,42,43] ?_;refine zr ⟨[59],[],[10],[],[]⟩ fun _ _ Z=>?_;simp(disch:=omega)[oX,jS,h1,aM h1,ha3,g1,g2,g3];apply Z;refine zk [0,4,5,6,8,41,42,43] ?_;refine zr ⟨[59],[],[10],[],[]⟩ fun _ _ Z=>?_;refine zs 8 fun _ Y=>?_;simp(disch:=omega)[oX,jS,h1,aM h1,ha3,g1,g2,g3];and_intros<;>(try omega);apply Y;simp(disch:=omega)[oX,jS,h1,aM h1,ha3,g1,g2,g3];apply Z;refine zk [0,4,5,6,8,41,42,43] ?_;refine ze ⟨[59],[],[10],[],[]⟩ [.op {},.op {},.op {},.op {},.op {rO:=true},.op {},.op {},.op {},.op {},.op {rO:=true},.det] fun all hall _ Z=>?_;refine nI 8 fun _ Y=>?_;simp(disch:=omega)[oX,jS,h1,aM h1,ha3,g1,g2,g3];apply Y;refine nI 2 fun _ Y=>?_;simp(disch:=omega)[oX,jS,h1,aM h1,ha3,g1,g2,g3];apply Y;refine cH fun _ Y=>?_;simp(disch:=omega)[oX,jS,h1,aM h1,ha3,g1,g2,g3];refine zdd (hI2) ?_;apply Y;simp only [uA];apply Z;apply zB;refine zk [0,4,5,6,8,41,42,43] ?_;refine zt ⟨[59],[],[10],[],[]⟩ fun _ _ Z=>?_;simp(disch:=omega)[oX,jS,h1,aM h1,ha3,g1,g2,g3];and_intros<;>(try omega);apply Z;refine zq (j+1) ?_ ?_ ?_
  .omega
  .try dsimp only
   omega
  simp(disch:=omega)[oX,jS,h1,aM h1,ha3,g1,g2,g3]
 obtain rfl:j=v.kids.length:=by omega
 apply zE;refine zr ⟨[59],[],[10],[],[]⟩ fun _ _ Z=>?_;simp(disch:=omega)[oX,jS,h1,aM h1];apply Z;apply aC;simp [aG]
end Go.Proofs.YtbgfljpnhhdkoaaGreat
