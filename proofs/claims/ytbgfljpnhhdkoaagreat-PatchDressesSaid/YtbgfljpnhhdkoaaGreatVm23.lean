import Derived.Test.YtbgfljpnhhdkoaaGreatWkDr15
import Derived.Test.YtbgfljpnhhdkoaaGreatVm22
import Derived.ProofKit
set_option linter.all false
set_option maxHeartbeats 8000000
set_option maxRecDepth 20000
open Go.Proofs.Tryz
namespace Go.Proofs.YtbgfljpnhhdkoaaGreat
open Go Go.Vm
variable {S:List PI}{j:Nat}{τ:List (List D)}
variable {k m M l:Nat} {d:DS} {rk:Int->Nat} {σ σ2:List (List D)} {x:RD} {ops:List TOp}
theorem LX.pre(h:LX k m M l d rk x ops σ)(hl:σ.length<=σ2.length)(hf:∀i,i<σ.length->σ2[i]?=σ[i]?):LX k m M l d rk x ops σ2:=
 ⟨h.ix.frame hl fun i hi=>hf i (by
  rcases hi with rfl | ⟨e,he,rfl⟩
  .exact lC h.ix.iv.ho.hm
  exact lC (h.ix.iv.ho.hn e he)),h.off,by rw [hf l (lC h.at_)];exact h.at_,h.len⟩
theorem LX.clear (h:LX k m M l d rk x ops σ)(hs:τ=σ.set l (nX m [])):LX k m M l d rk x [] τ:=by
 subst hs;exact⟨h.ix.put h.off _,h.off,aO h.at_ _,gD _⟩
theorem aPf {N N2:Nat} {u v:List D} (h1:τ[N]?=some u)(h2:τ[N2]?=some v)(h:N<N2):(∀a b:List D,((τ.set N a).set N2 b)[N]?=some a)/\(∀a b:List D,((τ.set N a).set N2 b)[N2]?=some b)/\(∀a b c:List D,((τ.set N a).set N2 b).set N c=(τ.set N c).set N2 b)/\(∀a b c:List D,((τ.set N a).set N2 b).set N2 c=(τ.set N a).set N2 c)/\τ=(τ.set N u).set N2 v:=by
 have l1:=lC h1;have l2:=lC h2;refine⟨fun a b=>?_,fun a b=>?_,fun a b c=>?_,fun a b c=>by rw [aH],?_⟩
 .rw [bP,aC (by omega),bP,aI rfl,aI l1]
 .rw [bP,aI rfl,aI (by simpa using l2)]
 .rw [Gm _ _ (by omega),aH]
 refine mL fun i=>?_;rw [bP];split
 .rename_i e;subst e;first | exact h2 | (rw [aI (by simpa using l2)];exact h2)
 rw [bP];split
 .rename_i e;subst e;first | exact h1 | (rw [aI l1];exact h1)
 rfl
def Uf(a:Int):Int:=IntKind.i64.wrap (((a % 2 ^ IntKind.i64.bits).toNat &&& 1048575 % 2 ^ IntKind.i64.bits:Nat):Int)
theorem aRh(a:Int):0<=Uf a/\Uf a<=1048575:=by
 have hb:1048575 % 2 ^ IntKind.i64.bits=1048575:=qY (by simp [IntKind.bits]);have h:((a % 2 ^ IntKind.i64.bits).toNat &&& 1048575 % 2 ^ IntKind.i64.bits)<=1048575:=by rw [hb];exact Nat.and_le_right
 unfold Uf;generalize ((a % 2 ^ IntKind.i64.bits).toNat &&& 1048575 % 2 ^ IntKind.i64.bits)=q at h |-;rw [sA (by constructor <;> simp [IntKind.min,IntKind.max,IntKind.signed,IntKind.bits] <;> omega)];omega
def Ms(p:PI):PI:=⟨p.name,Uf p.value⟩
def qZ(S:List PI)(j:Nat):List PI:=(S.take j).map Ms++S.drop j
theorem yM(S:List PI)(j:Nat):(qZ S j).length=S.length:=by simp [qZ];omega
theorem aU5(S:List PI):qZ S 0=S:=rfl
theorem aMb(S:List PI):qZ S S.length=S.map Ms:=by simp [qZ]
theorem aRl (h:j<S.length):qZ S j=(S.take j).map Ms++S[j]::S.drop (j+1):=by
 unfold qZ;rw [zM h]
theorem aE5 (h:j<S.length):qZ S (j+1)=(S.take j).map Ms++Ms S[j]::S.drop (j+1):=by
 unfold qZ;rw [bK S j h,dK,bM];rfl
theorem aKx (h:j<S.length)(h':j<(qZ S j).length):(qZ S j)[j]=S[j]:=by
 have hl:((S.take j).map Ms).length=j:=by simp;omega
 have h2:(qZ S j)[j]?=some S[j]:=by
  unfold qZ;rw [bQ (by omega),hl,kC];simp [h]
 rw [aQ h'] at h2;simpa using h2
theorem aVt (h:j<S.length)(r:List D):((qZ S j).flatMap cP++r)[j * 2+1]?=some (D.int S[j].value):=by
 rw [Fi (f:=cP) (k:=2) (fun _=>rfl) (qZ S j) r j 1 (by rw [yM];exact h) (by decide),aKx h];rfl
theorem aUw (h:j<S.length)(r:List D):List.take (j * 2+1) ((qZ S j).flatMap cP++r)++D.int (Uf S[j].value)::List.drop (j * 2+1+1) ((qZ S j).flatMap cP++r)=(qZ S (j+1)).flatMap cP++r:=by
 have hA:(((S.take j).map Ms).flatMap cP).length=j * 2:=by rw [dJ (f:=cP) (k:=2) (fun _=>rfl)];simp;omega
 rw [aRl h,aE5 h];simp only [iB,gM,bM];generalize ((S.take j).map Ms).flatMap cP=A at hA |-;generalize (S.drop (j+1)).flatMap cP=B;rw [<- hA,List.take_length_add_append,show A.length+1+1=A.length+2 from rfl,List.drop_length_add_append];simp [cP,Ms]
def Sh(v:VN):OW:=⟨bG v.classes,fY nA v.attrs,(fY nP v.styles).map Ms⟩
theorem aO2(a:Int):Ny (Uf a)=Uf a:=by
 have:=aRh a;unfold Ny
 (repeat' split) <;> omega
theorem Wh {cap:Nat} {r:List D} (h:S.length<=cap)(hr:r.length=(cap - S.length) * 2):((qZ S S.length).flatMap cP++r).length=cap * 2:=by
 rw [bB,dJ (f:=cP) (k:=2) (fun _=>rfl),yM,hr];omega
theorem aDl(S:List PI):∀d∈(qZ S S.length).map cM,d.ncells=2/\d.arr=true:=fun d hd=>by
 obtain⟨a,_,rfl⟩:=aX.1 hd;exact⟨rfl,rfl⟩
theorem Xr(S:List PI)(r:List D):((qZ S S.length).map cM).flatMap D.cells<+:(qZ S S.length).flatMap cP++r:=by
 rw [cW (f:=cP) (fun _=>rfl)];exact cD _ _
theorem aQt(v:VN):OwOk (Sh v):=by
 refine⟨jD nA _,?_,fun p hp=>?_⟩
 .exact List.Pairwise.map _ (fun a b h=>h) (jD nP v.styles)
 obtain⟨q, -,rfl⟩:=aX.1 hp;exact aO2 q.value
theorem aSe(f:FL):(Sh (iN f)).classes.length<=8/\(Sh (iN f)).attrs.length<=8/\(Sh (iN f)).styles.length<=8/\(∀s∈iO (Sh (iN f)),s.size<=9223372036854775807)/\∀p∈(Sh (iN f)).attrs,p.value.size<=1000:=by
 have a1:(iN f).classes=Au f.classes 4:=rfl;have a2:(iN f).attrs=Dg f.attrs 4:=rfl;have a3:(iN f).styles=Ar f.styles 4:=rfl;have c1:∀c∈bG (iN f).classes,c.size<=20:=fun c hc=>by
  have hc:=Fv.1 hc;rw [a1] at hc;unfold Au at hc;obtain⟨b,_,rfl⟩:=aX.1 hc;exact uL 20 b
 have c2:∀p∈fY nA (iN f).attrs,p.name.size<=20/\p.value.size<=40:=fun p hp=>by
  have hp:=Tk hp;rw [a2] at hp;unfold Dg at hp;obtain⟨b,_,rfl⟩:=aX.1 hp;exact⟨uL 20 b.name,uL 40 b.value⟩
 have c3:∀p∈fY nP (iN f).styles,p.name.size<=20:=fun p hp=>by
  have hp:=Tk hp;rw [a3] at hp;unfold Ar at hp;obtain⟨b,_,rfl⟩:=aX.1 hp;exact uL 20 b.name
 have l1:=jQ (iN f).classes;have l2:=gZ nA (iN f).attrs;have l3:=gZ nP (iN f).styles;have b1:=Mx f.classes 4;have b2:=Kg f.attrs 4;have b3:=Lp f.styles 4;rw [a1] at l1;rw [a2] at l2;rw [a3] at l3;refine⟨?_,?_,?_,fun s hs=>?_,fun p hp=>by have:=(c2 p hp).2;omega⟩
 .show(bG (iN f).classes).length<=8;rw [a1];omega
 .show(fY nA (iN f).attrs).length<=8;rw [a2];omega
 .show((fY nP (iN f).styles).map Ms).length<=8;rw [bI,a3];omega
 unfold iO at hs;rcases cK.1 hs with hs | hs
 .rcases cK.1 hs with hs | hs
  .have:=c1 s hs;omega
  obtain⟨p,hp,rfl⟩:=aX.1 hs;have:=(c2 p hp).1;omega
 obtain⟨p,hp,rfl⟩:=aX.1 hs;obtain⟨q,hq,rfl⟩:=aX.1 hp;have:q.name.size<=20:=c3 q hq;show q.name.size<=_;omega
@[simp] abbrev q14_1:Cfg:=⟨[],[5],[],[33,40,44,49,53],[]⟩
theorem Vt(acts:List Act)(id:Int)(f:FL)(σ:List (List D))(hl:acts.length<=9223372036854775807)(ha:∀a∈acts,a.name.size<=9223372036854775807/\a.value.size<=9223372036854775807)(hf:FO f):Ct prog 10 [.sl false (acts.map uA),D.int id,Yp f] σ (fun r σ'=>r= .bool true):=by
 refine zf func10 ?_;refine zr q14_1 fun _ _ Z=>?_;simp;apply Z;apply aF;refine zr q14_1 fun _ _ Z=>?_;refine aE fun _ Y=>?_;simp;refine zcm (aBm _) ?_;rintro _ σ1 hr9;subst hr9;apply Y;simp;apply Z;refine zI ?_ ?_<;>intro c1<;>try simp at c1
 apply zA;refine zr q14_1 fun _ _ Z=>?_;refine zs 1 fun _ Y=>?_;simp;apply Y;refine aE fun _ Y=>?_;simp;refine zcm (Ou acts (fun _ x=>NmsOk x) (NmsOk.new 20) (fun k hk x y h hd=>h.act hd) _ hl ha) ?_;rintro _ τ ⟨k,m,M,l,d,rk,x,k1,k2,k3,hr9,hx,hgk⟩;subst hr9;have hg:=hx.at_;have hnbd:=hx.ix.iv.ip.NB (by omega);have hnbx:=hx.ix.xp.nb hnbd;have htr:=(hx.ix.iv.wt.Tr (by have:=hx.ix.iv.ip.len;rw [vO];omega)).perm hx.ix.xp.fd;apply Y;simp[hg];apply Z;apply aF;refine zr q14_1 fun _ _ Z=>?_;simp[hg];apply Z;refine zI ?_ ?_<;>intro c2<;>try simp at c2
 apply zA;refine zk [1,5,6,7,8] ?_;refine zr q14_1 fun _ _ Z=>?_;refine zs 2 fun _ Y=>?_;simp[hg];and_intros<;>(try omega);apply Y;refine aE fun _ Y=>?_;simp[hg];refine cB (aI1 f _ hf) ?_;have hz1:(iN f).classes.length<=999:=by show(Au f.classes 4).length<=999;have:=Mx f.classes 4;omega
 have hz2:(iN f).attrs.length<=999:=by show(Dg f.attrs 4).length<=999;have:=Kg f.attrs 4;omega
 have hz3:(iN f).styles.length<=999:=by show(Ar f.styles 4).length<=999;have:=Lp f.styles 4;omega
 apply Y;refine aE fun _ Y=>?_;simp[hg];refine zcm (aD6 (iN f) _ hz1 hz2 hz3) ?_;rintro _ τ2 ⟨N,N2,cap,cap2,rest,rest2,hr9,⟨J,hJ⟩,hN,hN2,hNσ,hNN,hc1,hr1,hc2,hr2⟩;subst hr9;obtain⟨S,hS⟩:∃S,fY nP (iN f).styles=S:=⟨_,rfl⟩;rw [hS] at hN hN2 hc1 hr1 hc2 hr2 |-;obtain⟨q1,q2,q3,q4,q5⟩:=aPf hN hN2 hNN;have hcl3:S.length<=999:=by rw [<- hS];have:=gZ nP (iN f).styles;omega
 apply Y;simp[hg,q1,q2,q3,q4];apply Z;apply aF;refine zk [1,6,7,8,9,10] ?_;refine zr q14_1 fun _ _ Z=>?_;simp[hg,q1,q2,q3,q4];and_intros<;>(try omega);apply Z;apply aS;refine zk [1,6,7,8,9,10,33,34] ?_;refine jR (fun(j:Nat)=> [(34,.d (.v (.int .i64 (j:Int)))),(11,.d (.any))]) (fun(j:Nat)=> [[.v (.int .i64 x.most),.v (.int .i64 x.next),.sl false (x.l.map xE)], [.sl false ((bG (iN f).classes).map D.str),.sl false ((fY nA (iN f).attrs).map dU),.slo N2 0 S.length cap2], [.sl false ((bG (iN f).classes).map D.str),.sl false ((fY nA (iN f).attrs).map dU),.slo N 0 S.length cap]]) (fun(j:Nat)=>(τ2.set N ((qZ S j).flatMap cP++rest)).set N2 ((qZ S j).flatMap cP++rest2)) [11,34,35,36,37,38,39,40,41,42,43,44,45,46,47,48,49,50,51,52,53,54,55] (fun(j:Nat)=>j<=S.length) (fun(j:Nat)=>S.length - j) (0) (by simp <;> rfl) ?_ (by simp) (by simpa [aU5] using q5.symm) ?_ ?_
 .simp
 .simp
 rintro j hj;simp only [aP,aN];refine zr q14_1 fun _ _ Z=>?_;simp[hg,q1,q2,q3,q4];apply Z;apply aF;refine zI ?_ ?_<;>intro c3<;>try simp at c3
 .have hrd:=aVt (S:=S) c3;have hml:=yM S j;have hmk:IntKind.i64.wrap (((S[j].value % 2 ^ IntKind.i64.bits).toNat &&& 1048575 % 2 ^ IntKind.i64.bits:Nat):Int)=Uf S[j].value:=rfl;have hwr:=aUw (S:=S) c3;have hle1:j * 2+1+1<=S.length * 2+rest.length:=by omega
  have hle2:j * 2+1+1<=S.length * 2+rest2.length:=by omega
  apply kR;refine zr q14_1 fun _ _ Z=>?_;simp[hg,q1,q2,q3,q4,hrd,hml,hmk,hwr,hle1,hle2];apply Z;refine zk [1,6,7,8,9,10,11,33,34] ?_;refine zr q14_1 fun _ _ Z=>?_;refine zs 8 fun _ Y=>?_;simp[hg,q1,q2,q3,q4,hrd,hml,hmk,hwr,hle1,hle2];and_intros<;>(try omega);apply Y;simp[hg,q1,q2,q3,q4,hrd,hml,hmk,hwr,hle1,hle2];apply Z;refine zk [1,6,7,8,9,10,11,33,34] ?_;refine zt q14_1 fun _ _ Z=>?_;refine zs 8 fun _ Y=>?_;simp[hg,q1,q2,q3,q4,hrd,hml,hmk,hwr,hle1,hle2];and_intros<;>(try omega);apply Y;simp[hg,q1,q2,q3,q4,hrd,hml,hmk,hwr,hle1,hle2];apply Z;apply zB;refine zk [1,6,7,8,9,10,11,33,34] ?_;refine zt q14_1 fun _ _ Z=>?_;simp[hg,q1,q2,q3,q4,hrd,hml,hmk,hwr,hle1,hle2];and_intros<;>(try omega);apply Z;refine zq (j+1) ?_ ?_ ?_
  .omega
  .try dsimp only
   omega
  simp[hg,q1,q2,q3,q4,hrd,hml,hmk,hwr,hle1,hle2]
 obtain rfl:j=S.length:=by omega
 apply zE;refine Ig 2 2 N S.length cap 2 _ _ ((qZ S S.length).map cM) rfl rfl (q1 _ _) (by decide) (Wh hc1 hr1) (by simp [yM]) (aDl S) (Xr S rest) ?_;rw [q3];refine Ig 1 2 N2 S.length cap2 2 _ _ ((qZ S S.length).map cM) rfl rfl (q2 _ _) (by decide) (Wh hc2 hr2) (by simp [yM]) (aDl S) (Xr S rest2) ?_;rw [q4];simp only [gR,eQ];have hSm:qZ S S.length=(Sh (iN f)).styles:=by rw [aMb,<- hS];rfl
 rw [hSm];obtain⟨z1,z2,z3,z4,z5⟩:=aSe f;have how:=aQt (iN f);have hx2:LX k m M l d rk x [] ((τ2.set N []).set N2 []):=hx.pre (by simp;rw [hJ];simp) fun i hi=>by rw [bP,aC (by omega),bP,aC (by omega),hJ,aW hi]
 obtain⟨k3,d3,rk3,y,o3,σ3,hc3,hd3⟩:=Yh hx2 (by omega) id (Sh (iN f)) z1 z2 z3 z4 z5 how hgk;have ho3:=hd3.op;rw [aN] at ho3;subst ho3;have hkk:=hd3.kk;have hg3:=hd3.lx.at_;have hx4:=hd3.lx.clear rfl;have hg4:=hx4.at_;refine zr q14_1 fun _ _ Z=>?_;refine zs 3 fun _ Y=>?_;simp;apply Y;refine aE fun _ Y=>?_;simp;refine cB (aE9 x id (Sh (iN f)) _ hnbx (by omega) (by omega) (by omega) z4) ?_;apply Y;simp;apply Z;refine zk [1,6,7,8,9,12,13] ?_;refine zr q14_1 fun _ _ Z=>?_;refine zs 3 fun _ Y=>?_;simp;apply Y;refine aE fun _ Y=>?_;simp;refine cB (hc3) ?_;apply Y;simp;apply Z;apply aF;refine zk [1,6,7,8,9,12,13,14] ?_;refine pB q14_1 fun all hall _ Z=>?_;have ga3:aT all 3=some 70:=hall 3;refine zs 4 fun _ Y=>?_;simp[ga3];apply Y;refine zb 70 ?_ ?_<;>intro g4<;>try simp at g4
 refine zs 3 fun _ Y=>?_;simp[ga3];apply Y;refine zg ga3 fun _ Y=>?_;simp[ga3];refine cB (aIk k3 m M l d3 rk3 x y _ _ hd3.lx (by omega) (hd3.path x rfl)) ?_;apply Y;simp[ga3];apply Z;refine zI ?_ ?_<;>intro c5<;>try simp at c5
 apply zA;refine zk [1,6,7,9,13] ?_;refine zr q14_1 fun _ _ Z=>?_;refine zs 1 fun _ Y=>?_;simp;apply Y;refine aE fun _ Y=>?_;simp;refine cB (aHq l m _ _ hg3) ?_;apply Y;simp only [eE];apply Z;refine zk [1,6,7,9,13] ?_;refine pB q14_1 fun all hall _ Z=>?_;have ga2:aT all 2=some 81:=hall 2;have ga8:aT all 8=some 87:=hall 8;refine zs 3 fun _ Y=>?_;simp[ga2,ga8];apply Y;refine zb 81 ?_ ?_<;>intro g6<;>try simp at g6
 .refine zs 8 fun _ Y=>?_;simp[ga2,ga8];and_intros<;>(try omega);apply Y;simp[ga2,ga8];apply Z;apply aD;simp [aK]
 refine zs 3 fun _ Y=>?_;simp[ga2,ga8];apply Y;refine zg ga2 fun _ Y=>?_;simp[ga2,ga8];refine cB (Tn hx4 (by omega) z1 z2 z3 z4 (hd3.has g6).1 (hd3.has g6).2) ?_;apply Y;refine zs 2 fun _ Y=>?_;simp[ga2,ga8];apply Y;refine zb 87 ?_ ?_<;>intro g7<;>try simp at g7
 refine zs 1 fun _ Y=>?_;simp[ga2,ga8];apply Y;refine zg ga8 fun _ Y=>?_;simp[ga2,ga8];refine cB (Jd l m [] _ (by simp) hg4) ?_;apply Y;simp[ga2,ga8];and_intros<;>(try omega);apply Z;apply aD;simp [aK]
end Go.Proofs.YtbgfljpnhhdkoaaGreat
namespace Go.Vm
open Go Go.RowKit
variable {fs:Array Field}{n:Nat}{ps:List MemPlace}{spare:Nat->Bool}{w:World}{α:Type}
def vT(w:World):Mem:=fun b o=>w.cell? ⟨b,o,none⟩
def CellsAt(w:World)(ds:List D)(cs:List Value):Prop:=
 ds.length=cs.length/\∀(i:Nat) (c:D) (y:Value),ds[i]?=some c->cs[i]?=some y->R (vT w) [] c y/\y.oneCell'=true/\c.flat=true
def OpenAt(w:World)(d:D)(cs:List Value):Prop:=CellsAt w d.cells cs/\d≠ .any
def Opens(P:Program)(t:TypeId) {α:Type} (f:α->D)(p:α->Prop):Prop:=
 ∀(H:Type) (enc:TypeId×Value->H) (w:World) (spare:Nat->Bool) (held:Bool) (fuel:Nat) (cs:List Value) (x:DataW H×List MemPlace),DataW.trod enc P w 0 spare held fuel t cs=some x->∃a,p a/\OpenAt w (f a) cs
theorem OpenAt.one {d:D} {y:Value} (hd:d.cells= [d])(hr:R (vT w) [] d y)(h1:y.oneCell'=true)(hf:d.flat=true)(ha:d≠ .any):OpenAt w d [y]:=by
 refine⟨⟨by rw [hd];rfl,fun i c z h2 h3=>?_⟩,ha⟩;rw [hd] at h2
 match i with
 | 0=>simp at h2 h3;subst h2;subst h3;exact⟨hr,h1,hf⟩
 | i+1=>simp at h2
section
variable {P:Program} {t:TypeId}
theorem aAl(ht:P.underlying t=some .bool):Opens P t D.bool (fun _=>True):=by
 intro H enc w spare held fuel cs x h;obtain⟨b,rfl,_⟩:=DataW.trod_bool ht h;exact⟨b,trivial,.one rfl (.v _ rfl) rfl rfl (by simp)⟩
theorem aEl(ht:P.underlying t=some (.int .i64)):Opens P t D.int (fun n=> -9223372036854775808<=n/\n<=9223372036854775807):=by
 intro H enc w spare held fuel cs x h;obtain⟨n,rfl,_,hw⟩:=DataW.trod_int ht h;refine⟨n,?_,.one rfl (.v _ rfl) rfl rfl (by simp)⟩;have h1:IntKind.i64.min= -9223372036854775808:=rfl;have h2:IntKind.i64.max=9223372036854775807:=rfl;simp only [Lit.wf,fQ,eO] at hw;omega
theorem aEb(ht:P.underlying t=some .string):Opens P t D.str (fun s=>s.size<=maxLen):=by
 intro H enc w spare held fuel cs x h;obtain⟨s,rfl,_,hw⟩:=DataW.trod_string ht h;exact⟨s,hw,.one rfl (.v _ rfl) rfl rfl (by simp)⟩
theorem OpenAt.value {d:D} {cs:List Value} (h:OpenAt w d cs):∃x:Value,x.cells.toList=cs/\R (vT w) [] d x:=by
 have gen:d.cells= [d]->∃x:Value,x.cells.toList=cs/\R (vT w) [] d x:=by
  intro hd;have hl:=h.1.1;rw [hd] at hl;obtain⟨y,rfl⟩:=List.length_eq_one_iff.1 hl.symm;have:=h.1.2 0 d y (by rw [hd];rfl) rfl;exact⟨y,by rw [Value.cells_one this.2.1],this.1⟩
 cases d with
 | agg ds=>
  refine⟨.agg cs.toArray,by simp [Value.cells],.agg ds cs.toArray (by have:=h.1.1;simp [D.cells] at this;simp [this]) (fun i e y a1 a2=>(h.1.2 i e y a1 (by simpa using a2)).1) (fun i y a2=>?_)⟩;have a2':cs[i]?=some y:=by simpa using a2
  have hi:=(aM.1 a2').1;have hl:=h.1.1;have hi2:i<(D.cells (.agg ds)).length:=by omega
  exact(h.1.2 i _ y (aQ hi2) a2').2.1
 | _=>exact gen rfl
theorem Hp {Q:Nat->α->Prop} (h:∀i,i<n->∃a,Q i a):∃l:List α,l.length=n/\∀i a,l[i]?=some a->Q i a:=by
 induction n with
 | zero=>exact⟨[],rfl,by simp⟩
 | succ n ih =>
  obtain⟨l,hl,hq⟩:=ih (fun i hi=>h i (by omega));obtain⟨a,ha⟩:=h n (by omega);refine⟨l++ [a],by simp [hl],fun i b hb=>?_⟩;by_cases hi:i<l.length
  .rw [aW hi] at hb;exact hq i b hb
  rw [bQ (by omega)] at hb;have h0:i - l.length=0:=by
   have:=(aM.1 hb).1;simp at this;omega
  rw [h0] at hb;simp at hb;subst hb;rw [show i=n by omega];exact ha
theorem Yr {d:D} :d.ncells=d.cells.length:=by cases d <;> rfl
theorem tU {e:TypeId} {f:α->D} {p:α->Prop} (ht:P.underlying t=some (.slice e))(h:Opens P e f p)(hk:0<P.cellsOf e):Opens P t (fun l:List α=> .sl false (l.map f)) (fun l=>l.length<=maxLen/\∀a∈l,p a):=by
 intro H enc w spare held fuel cs x hx;rcases DataW.trod_slice ht hx with ⟨rfl,_⟩ | ⟨a,len,cap,elems,rest,n,_,rfl,_,_,hlc,hcm,hlen,hel,_,_⟩
 .exact⟨[],⟨by simp,by simp⟩,.one rfl (.nil false) rfl rfl (by simp)⟩
 by_cases h0:len=0
 .subst h0;exact⟨[],⟨by simp,by simp⟩,.one rfl (.emp false a cap hcm) rfl rfl (by simp)⟩
 have each:∀i,i<len->∃b:α×List Value,p b.1/\OpenAt w (f b.1) b.2/\w.cells? 0 (a.add (i * P.cellsOf e)) (P.cellsOf e)=some b.2:=by
  intro i hi;have hi':i<elems.length:=by omega
  have:=hel i hi;rw [aQ hi',mN] at this;obtain⟨ds,h1,h2⟩:=this;obtain⟨b,hb,ho⟩:=h H enc w spare held n ds _ h2;exact⟨(b,ds),hb,ho,h1⟩
 obtain⟨L,hL,hq⟩:=Hp each;have each2:∀i,i<len->∃v:Value,∃b,L[i]?=some b/\v.cells.toList=b.2/\R (vT w) [] (f b.1) v:=by
  intro i hi;have hi':i<L.length:=by omega
  have hb:L[i]?=some L[i]:=aQ hi';obtain⟨v,h1,h2⟩:=(hq i _ hb).2.1.value;exact⟨v,_,hb,h1,h2⟩
 obtain⟨V,hV,hv⟩:=Hp each2;have hspot:a.spot=none:=by
  have hi':0<L.length:=by omega
  have h1:=(hq 0 _ (aQ hi')).2.2;obtain⟨_,hl,hc⟩:=World.cells?_some h1;have h2:=hc 0 hk;rw [aQ (by omega)] at h2;simpa [Addr.add] using World.cell?_spot h2
 obtain⟨b,off,spot⟩:=a;simp only at hspot;subst hspot;refine⟨L.map (·.1),⟨by rw [bI,hL];exact sQ hlc hcm,fun y hy=>?_⟩,.one rfl ?_ rfl rfl (by simp)⟩
 .obtain⟨z,hz,rfl⟩:=aX.1 hy;obtain⟨i,hi⟩:=eI hz;exact(hq i z hi).1
 refine .sl false _ b off len cap (P.cellsOf e) V (by simp [hV,hL]) (by simp [hL]) hk hlc hcm (fun i d x h1 h2=>?_) (fun i d h1=>?_) (fun i x h1=>?_)
 .obtain⟨z,hz,h3,h4⟩:=hv i x h2;simp only [bW,hz,gL,bC] at h1;subst h1;exact h4
 .simp only [bW,Option.map_map,dY] at h1;obtain⟨z,hz,rfl⟩:=h1;obtain⟨_,h5,h6⟩:=hq i z hz;show(f z.1).ncells=_
  rw [Yr,h5.1.1];exact(World.cells?_some h6).2.1
 obtain⟨z,hz,h3,h4⟩:=hv i x h1;obtain⟨_,h5,h6⟩:=hq i z hz;obtain⟨_,h7,h8⟩:=World.cells?_some h6;have hsz:x.cells.size=P.cellsOf e:=by rw [<- h7,<- h3,bY]
 refine⟨hsz,fun j c hj=>?_⟩;have hjl:j<P.cellsOf e:=by rw [<- hsz];exact(dO.1 hj).1
 have hj2:z.2[j]?=some c:=by rw [<- h3];simpa using hj
 have hj3:j<(f z.1).cells.length:=by rw [h5.1.1];omega
 refine⟨(h5.1.2 j _ c (aQ hj3) hj2).2.1,?_⟩;have:=h8 j hjl;rw [Addr.add_none,Addr.add_none,hj2] at this;show w.cell? _=_
 rw [show off+(i * P.cellsOf e+j)=off+i * P.cellsOf e+j by omega];exact this
theorem CellsAt.append {a b:List D} {x y:List Value} (h1:CellsAt w a x)(h2:CellsAt w b y):CellsAt w (a++b) (x++y):=by
 refine⟨by simp [h1.1,h2.1],fun i c v e1 e2=>?_⟩;by_cases hi:i<a.length
 .rw [aW hi] at e1;rw [aW (by have:=h1.1;omega)] at e2;exact h1.2 i c v e1 e2
 rw [bQ (by omega)] at e1;rw [bQ (by have:=h1.1;omega)] at e2;rw [<- h1.1] at e2;exact h2.2 _ c v e1 e2
def Sr(P:Program)(fs:List Field)(k n:Nat) {α:Type} (f:α->List D)(p:α->Prop):Prop:=
 ∀(H:Type) (enc:TypeId×Value->H) (w:World) (spare:Nat->Bool) (held:Bool) (fuel:Nat) (cs:List Value),cs.length=n->
  (∀fl∈fs,∃x:DataW H×List MemPlace,DataW.trod enc P w 0 spare held fuel fl.type ((cs.drop fl.offset).take (P.cellsOf fl.type))=some x)->∃a,p a/\CellsAt w (f a) (cs.drop k)
theorem tB :Sr P [] n n (fun _:Unit=> []) (fun _=>True):=by
 intro H enc w spare held fuel cs hn _;refine⟨(),trivial,?_,fun i c y h=>by simp at h⟩;rw [Af (by omega)];rfl
theorem dT {fl:Field} {fs:List Field} {k m:Nat} {β:Type} {f:α->D} {p:α->Prop} {g:β->List D} {q:β->Prop} (ho:fl.offset=k)(hc:P.cellsOf fl.type=m)(h1:Opens P fl.type f p)(h2:Sr P fs (k+m) n g q):
  Sr P (fl::fs) k n (fun ab:α×β=>(f ab.1).cells++g ab.2) (fun ab=>p ab.1/\q ab.2):=by
 intro H enc w spare held fuel cs hn hall;obtain⟨x,hx⟩:=hall fl (by simp);obtain⟨a,ha,hoa⟩:=h1 H enc w spare held fuel _ x hx;obtain⟨b,hb,hob⟩:=h2 H enc w spare held fuel cs hn (fun fl' h'=>hall fl' (by simp [h']));refine⟨(a,b),⟨ha,hb⟩,?_⟩;have e:cs.drop k=(cs.drop k).take m++cs.drop (k+m):=by
  rw [<- List.drop_drop];exact(fP m _).symm
 rw [e];rw [ho,hc] at hoa;exact hoa.1.append hob
theorem pP {f:α->List D} {p:α->Prop} (ht:P.underlying t=some (.struct fs))(h:Sr P fs.toList 0 (P.cellsOf t) f p):Opens P t (fun a=> .agg (f a)) p:=by
 intro H enc w spare held fuel cs x hx;obtain⟨xs,n,_,_,hl,hxl,hall⟩:=DataW.trod_struct ht hx;obtain⟨a,ha,hc⟩:=h H enc w spare held n cs hl (fun fl hfl=>by
  obtain⟨i,hi⟩:=eI hfl;rw [dZ] at hi;have h1:=hall i fl hi;have hi2:i<xs.length:=by rw [hxl];exact(dO.1 hi).1
  rw [aQ hi2] at h1;exact⟨_,h1⟩)
 rw [yX] at hc;exact⟨a,ha,hc,by simp⟩
theorem Opens.map {α β:Type} {f:α->D} {p:α->Prop} {g:β->D} {q:β->Prop} (h:Opens P t f p)(φ:α->β)(hφ:∀a,f a=g (φ a))(hq:∀a,p a->q (φ a)):Opens P t g q:=by
 intro H enc w spare held fuel cs x hx;obtain⟨a,ha,ho⟩:=h H enc w spare held fuel cs x hx;exact⟨φ a,hq a ha,by rw [<- hφ];exact ho⟩
theorem Xi {H:Type} {enc:TypeId×Value->H} {f:α->D} {p:α->Prop} {held:Bool} {v:Value} {d:DataW H} (h:Opens P t f p)(hf:∀a,(f a).cells= [f a])(hv:v.oneCell'=true)(ht:DataW.Trod enc P w 0 spare held t v d ps):
  ∃a,p a/\R (vT w) [] (f a) v/\∀X h q,Own w (vT w) [] X h q (f a) v:=by
 obtain⟨fuel,hx⟩:=ht;obtain⟨a,ha,ho⟩:=h H enc w spare held fuel _ _ hx;rw [Value.cells_one hv] at ho;have:=ho.1.2 0 (f a) v (by rw [hf];rfl) rfl;exact⟨a,ha,this.1,fun X h q=> .flat q _ _ this.2.2⟩
theorem Lh {r:Reach} {base:Nat} {v:Value} (ht:P.underlying t=some (.struct fs))(h:Value.okWide P w r base t v):∃cs,v= .agg cs:=by
 simp only [Value.okWide,ht] at h;obtain⟨cs,h1,_⟩:=h;exact⟨cs,h1⟩
theorem aE7 {H:Type} {enc:TypeId×Value->H} {f:α->D} {p:α->Prop} {held:Bool} {cs:Array Value} {d:DataW H} (h:Opens P t f p)(hf:∀a,∃ds,f a= .agg ds)(ht:DataW.Trod enc P w 0 spare held t (.agg cs) d ps):
  ∃a,p a/\R (vT w) [] (f a) (.agg cs)/\∀X h q,Own w (vT w) [] X h q (f a) (.agg cs):=by
 obtain⟨fuel,hx⟩:=ht;obtain⟨a,ha,ho⟩:=h H enc w spare held fuel _ _ hx;obtain⟨ds,hd⟩:=hf a;refine⟨a,ha,?_⟩;rw [hd] at ho |-;obtain⟨⟨hl,hc⟩,_⟩:=ho;have hl':cs.size=ds.length:=by simpa [D.cells,Value.cells] using hl.symm
 have hc':∀(i:Nat) (c:D) (y:Value),ds[i]?=some c->cs[i]?=some y->R (vT w) [] c y/\y.oneCell'=true/\c.flat=true:=fun i c y h1 h2=>hc i c y h1 (by simpa [Value.cells] using h2);refine⟨.agg ds cs hl' (fun i d x h1 h2=>(hc' i d x h1 h2).1) (fun i x h2=>?_),fun X h q=> .agg q ds cs fun i d x h1 h2=> .flat _ _ _ (hc' i d x h1 h2).2.2⟩;have hi:=(dO.1 h2).1;exact(hc' i _ x (aQ (by omega)) h2).2.1
theorem aS1 {N:FuncId} {ds:List D} {vs:Array Value} {W:World} (hct:Ct P N ds [] (fun r _=>r= .bool true))(hl:vs.size=ds.length)
  (ha:∀(i:Nat) (d:D) (v:Value),ds[i]?=some d->vs[i]?=some v->R (vT W) [] d v/\∀X h q,Own W (vT W) [] X h q d v):
  Calls P N vs W fun e W'=>e= .returned (.bool true)/\Below W.heap.size W W':=by
 refine(hct.2 W ⟨vT W,fun _=>none, [], []⟩ vs hl rfl ⟨fun b o c h=>h,fun b t h=>by simp at h,fun t=>?_,rfl,fun n b cs h=>by simp at h,rfl,fun n b cs h=>by simp at h⟩).mono ?_
 .show SlotOk W _ t (gX ds t) (cL vs t)
  cases hd:ds[t]? with
  | none=>
   simp only [gX,hd];exact⟨.any _,.flat _ _ _ rfl⟩
  | some d=>
   have hlt:t<vs.size:=by rw [hl];exact(aM.1 hd).1
   have hv:vs[t]?=some vs[t]:=bO hlt;have hvv:cL vs t=vs[t]:=by simp [cL,hlt]
   rw [xB hd,hvv];obtain⟨h1,h2⟩:=ha t d _ hd hv;exact⟨h1,h2 _ _ _⟩
 rintro e W' ⟨r,σ',x,g',rfl,rfl,_,hf,hok⟩;have hs:=hok.slot 0;have hs':R g'.M g'.bs (.bool true) x:=hs.1;exact⟨by rw [hs'.vEq],hf.os,hf.tape,hf.output,hf.size,fun k hk=>(hf.keep k hk rfl).1⟩
end
end Go.Vm
