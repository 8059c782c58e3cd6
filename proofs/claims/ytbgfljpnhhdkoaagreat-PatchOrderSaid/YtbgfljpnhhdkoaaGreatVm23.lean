import Derived.Test.YtbgfljpnhhdkoaaGreatPaOrd
import Derived.Test.YtbgfljpnhhdkoaaGreatVm22
import Derived.ProofKit
open Go.Proofs.Tryz
set_option linter.all false
namespace Go.Proofs.YtbgfljpnhhdkoaaGreat
open Go Go.Vm
set_option maxHeartbeats 1000000
def aO(k:Nat):Act:=if k=0 then⟨0,0,0,0,ulB,⟨#[]⟩⟩else if k % 2=1 then⟨0,0,0,0,Sx,⟨#[]⟩⟩else⟨2,1,((k / 2 - 1:Nat):Int),((k / 2+1:Nat):Int),⟨#[]⟩,⟨#[]⟩⟩
def nV(n:Nat):List Act:=(List.range (2 * n+1)).map aO
theorem Cl(n:Nat):(nV n).length=2 * n+1:=by simp [nV]
theorem Sn(n k:Nat)(h:k<(nV n).length):(nV n)[k]=aO k:=by simp [nV]
theorem aH5(j:Nat):aO (2 * j+1)=⟨0,0,0,0,Sx,⟨#[]⟩⟩:=by
 unfold aO;rw [if_neg (by omega),if_pos (by omega)]
theorem aEk(j:Nat):aO (2 * j+2)=⟨2,1,(j:Int),(j:Int)+2,⟨#[]⟩,⟨#[]⟩⟩:=by
 unfold aO;rw [if_neg (by omega),if_neg (by omega),show(2 * j+2) / 2 - 1=j by omega,show(2 * j+2) / 2+1=j+2 by omega];rfl
theorem Le(j:Nat):nV (j+1)=nV j++ [⟨0,0,0,0,Sx,⟨#[]⟩⟩,⟨2,1,(j:Int),(j:Int)+2,⟨#[]⟩,⟨#[]⟩⟩]:=by
 unfold nV;rw [show 2 * (j+1)+1=2 * j+1+1+1 by omega,List.range_succ,List.range_succ,List.map_append,List.map_append,List.append_assoc];simp [aH5,aEk]
def KO(n:Nat):List Int:=(List.range n).map fun i:Nat=>(i:Int)+2
theorem aFl(j:Nat):KO (j+1)=KO j++ [(j:Int)+2]:=by unfold KO;rw [List.range_succ,List.map_append];rfl
theorem Fw(n:Nat):(KO n).length=n:=by simp [KO]
theorem yZ(n:Nat):(KO n).Nodup:=by
 unfold KO;refine List.Pairwise.map _ (fun a b h=>?_) (List.nodup_range (n:=n));omega
def nL(i p:Int):ND:=⟨i,2,Sx,⟨#[]⟩, [], [], [],p, []⟩
def XO(j:Nat):RD:=⟨20,j+2, [lM,⟨1,2,ulB,⟨#[]⟩, [], [], [], -1,KO j⟩]++(List.range j).map fun i:Nat=>nL ((i:Int)+2) 1⟩
def XP_(j:Nat):RD:=⟨20,j+3,(XO j).l++ [nL ((j:Int)+2) (-1)]⟩
def xo(k:Nat):RD:=if k=0 then newX 20 else if k % 2=1 then XO (k / 2)else XP_ (k / 2 - 1)
def aK3(x:RD)(w:Bool)(p at_ id:Int):RD×Int:=
 if dF x.l p=false∨dF x.l id=false then(x,11)
 else if ¬(aF x.l p).kind=2 then(x,14)
 else if id=0∨0≤(aF x.l id).parent∨w=true∨at_<0∨((aF x.l p).kids.length:Int)<at_ then(x,1)
 else(⟨x.most,x.next,dH (dH x.l { aF x.l p with kids:=dG (aF x.l p).kids at_.toNat id }) { aF x.l id with parent:=p }⟩,0)
theorem aI5(x:RD)(b:Int→List Int)(p a i:Int):insX x b p a i=aK3 x (gW x.l b p i) p a i:=rfl
theorem aIb:∀k,k<17→(k=0∨k % 2=1)→(addX (xo k) 2 (aO k).name).1=xo (k+1):=by decide+kernel
theorem aJw:∀k,k<17→¬k=0→¬k % 2=1→(aK3 (xo k) false (aO k).a (aO k).b (aO k).c).1=xo (k+1):=by decide+kernel
theorem aFv:∀k,k<17→¬k=0→¬k % 2=1→(aF (xo k).l (aO k).c).kids= []∧(aO k).a=1∧¬(aO k).c=1:=by decide+kernel
theorem aD5:∀k,k<17→bX (aO k)=aO k∧((k=0∨k % 2=1)→(aO k).kind=0)∧(¬(k=0∨k % 2=1)→(aO k).kind=2):=by decide+kernel
theorem aLc:∀k,k<17→(aO k).name.size≤20∧(aO k).value.size≤20:=by decide+kernel
theorem DoS.ins' {a:Act} {x y:RD} (h:DoS a x y)(q:(bX a).kind=2):∃b,zT x.l b∧y=(insX x b (bX a).a (bX a).b (bX a).c).1:=by
 cases h with
 | el q1=>omega
 | tx q1=>omega
 | ins b q1 hb=>exact⟨b,hb,rfl⟩
 | mov q1=>omega
 | rem b q1=>omega
 | set q1=>omega
 | no q0 q1 q2=>exact absurd q q2
theorem aGl(k:Nat)(hk:k<17)(x y:RD)(hx:x=xo k)(h:DoS (aO k) x y):y=xo (k+1):=by
 subst hx;obtain⟨e,e0,e2⟩:=aD5 k hk;by_cases q:k=0∨k % 2=1
 ·rw [h.el' (by rw [e];exact e0 q),e];exact aIb k hk q
 obtain⟨b,⟨rk,hD,rfl⟩,hy⟩:=h.ins' (by rw [e];exact e2 q);obtain⟨l1,l2,l3⟩:=aFv k hk (fun h=>q (.inl h)) (fun h=>q (.inr h));rw [hy,e,aI5];have hw:gW (xo k).l (bN (xo k).l rk) (aO k).a (aO k).c=false:=by
  unfold gW;rw [Jr hD l1,l2];simp [l3]
 rw [hw];exact aJw k hk (fun h=>q (.inl h)) (fun h=>q (.inr h))
theorem aHv(n:Nat):xo (2 * n+1)=XO n:=by
 unfold xo;rw [if_neg (by omega),if_pos (by omega),show(2 * n+1) / 2=n by omega]
theorem aMw(n:Nat):dF (XO n).l 1=true∧(aF (XO n).l 1).kind=2∧(aF (XO n).l 1).kids=KO n:=⟨rfl,rfl,rfl⟩
theorem aIe {k m M l n:Nat} {d:DS} {rk:Int→Nat} {σ:List (List D)} (h:LX k m M l d rk (XO n) [] σ) {to:List Int} (hn:1≤n)(hp:to.Perm (KO n)) {c:Int} {y:RD} {o:List TOp} (hk:Ia d rk (XO n) [] 1 (eJ (aF d.l 1).kids to) c y o):
  c=0∧o.length<n∧dF y.l 1=true∧(aF y.l 1).kind=2∧(aF y.l 1).kids=to:=by
 obtain⟨l1,k2,f1⟩:=aMw n;have hf:=Sj h.ix;have hl:=Ol h.ix;rw [hf] at k2 f1;have hl1:dF d.l 1=true:=by rw [← hl];exact l1
 have hto:to.Nodup:=hp.nodup_iff.2 (yZ n);have hlen:to.length=n:=by rw [hp.length_eq,Fw]
 obtain⟨r1,r2,r3⟩:=aD9 (K:=KO n) (yZ n) hto (fun x=>hp.mem_iff) (by omega);rw [← f1] at r1 r2 r3;have hb:∀s∈eJ (aF d.l 1).kids to,¬sG d.l (bN d.l rk) 1 s:=fun s hs=>zH (r3 s hs).1 (r3 s hs).2;rcases hk with ⟨a, -⟩ | ⟨-,a, -⟩ | ⟨-, -,⟨⟨s,a1,a2⟩, -⟩ | ⟨-,rfl,a⟩⟩
 ·rw [hl1] at a;cases a
 ·exact absurd k2 a
 ·exact absurd a2 (hb s a1)
 obtain⟨q1,q2, -⟩:=Fa h.ix hl1 k2 hb a (XO n);rw [r1] at q2;refine⟨rfl,by rw [q1];simp;omega,by rw [q2.il];exact l1,q2.kd,by rw [q2.kk,if_pos rfl]⟩
theorem aHs {k m M l:Nat} {d:DS} {rk:Int→Nat} {σ:List (List D)} {y:RD} {o:List TOp} (h:LX k m M l d rk y o σ) {to:List Int} (h8:to.length≤8)(hto:to.Nodup)(h1:dF y.l 1=true)(h2:(aF y.l 1).kind=2)(h3:(aF y.l 1).kids=to) {c:Int} {z:RD} {o2:List TOp} (hk:Ia d rk y o 1 (eJ (aF d.l 1).kids to) c z o2):c=0∧o2=o:=by
 rw [Sj h.ix] at h2 h3;rw [Ol h.ix] at h1;rw [h3,aK6 hto h8] at hk;rcases hk with ⟨a, -⟩ | ⟨-,a, -⟩ | ⟨-, -,⟨⟨s,a1,a2⟩, -⟩ | ⟨-,rfl,a⟩⟩
 ·rw [h1] at a;cases a
 ·exact absurd h2 a
 ·cases a1
 obtain⟨-,e⟩:=a.inv0;exact⟨rfl,e⟩
theorem Cr {left to:List Int} {κ:Nat} (h:κ<left.length):((to++ [left[κ]])++(left.take κ++left.drop (κ+1))).Perm (to++left):=by
 rw [List.append_assoc];refine List.Perm.append_left to ?_;have e:=uR h;generalize left.take κ=A at *;generalize left.drop (κ+1)=B at *;generalize left[κ]=z at *;subst e;show(z::(A++B)).Perm (A++z::B)
 exact List.perm_middle.symm
theorem Hp(a:Int)(c:Nat)(hc:c≤65535):∃m:Nat,m≤c∧IntKind.i64.wrap (((a % 2 ^ IntKind.i64.bits).toNat &&& c % 2 ^ IntKind.i64.bits:Nat):Int)=m:=by
 have hb:c % 2 ^ IntKind.i64.bits=c:=Nat.mod_eq_of_lt (by simp [IntKind.bits];omega);have h:((a % 2 ^ IntKind.i64.bits).toNat &&& c % 2 ^ IntKind.i64.bits)≤c:=by rw [hb];exact Nat.and_le_right
 refine⟨_,h,?_⟩;generalize ((a % 2 ^ IntKind.i64.bits).toNat &&& c % 2 ^ IntKind.i64.bits)=q at h ⊢;exact lS (by constructor <;> simp [IntKind.min,IntKind.max,IntKind.signed,IntKind.bits] <;> omega)
set_option maxRecDepth 20000
set_option maxHeartbeats 8000000
theorem dB:List.range 2= [0,1]:=rfl
theorem mL:List.range 3= [0,1,2]:=rfl
theorem aAt(σ:List (List D)):Ct prog 13 [.sl false [nQ ⟨0,0,0,0,ulB,⟨#[]⟩⟩,nQ ⟨0,0,0,0,Sx,⟨#[]⟩⟩,nQ ⟨0,0,0,0,Sx,⟨#[]⟩⟩]] σ (fun r σ'=>∃m M l d rk,r= .tup [.ref l 0,eN (pX 3)]∧LX 3 m M l d rk (pX 3) [] σ'):=by
 refine(Ej pAw (fun k x=>x=pX k) rfl (fun k hk x y=>Zk k hk x y) σ (by decide) (fun a ha=>?_)).mono ?_
 ·simp only [pAw,List.mem_cons,List.not_mem_nil,or_false] at ha;rcases ha with rfl | rfl | rfl <;> decide
 rintro r σ' ⟨k,m,M,l,d,rk,x,k1,k2,k3,hr,hx,hg⟩;have e:pAw.length=3:=rfl;obtain rfl:k=3:=by omega
 subst hg;exact⟨m,M,l,d,rk,hr,hx⟩
theorem Ox  (σ:List (List D))  :Ct prog 12 [] σ (fun r σ'=>r= .bool true):=by
 refine zf (rs:=[.tmp 0]) func12 ntmps12 results12 ?_;simp only [aN];refine aY fun _ _ Z=>?_;simp[dB,mL];apply Z;refine aY fun _ _ Z=>?_;refine zs 4 fun _ Y=>?_;simp[dB,mL];and_intros<;>(try omega);apply Y;refine aD fun _ Y=>?_;simp[dB,mL];refine Uj (aAt _) ?_;rintro _ τ0 ⟨m,M,l,d,rk,hr9,hx⟩;subst hr9;have hg:=hx.at_;apply Y;simp[dB,mL,hg];apply Z;apply aC;refine mY ⟨[],[],[],[],[]⟩ fun all hall _ Z=>?_;have ga2:aR all 2=some 15:=hall 2;refine zs 3 fun _ Y=>?_;simp[dB,mL,ga2,hg];apply Y;refine aU 15 (by simp <;> rfl) ?_;refine⟨fun g1=>?_,fun g1=>?_⟩
 ·simp at g1
 try simp at g1
 simp[dB,mL,ga2,hg];apply Z;refine zi ?_;refine⟨fun c2=>?_,fun c2=>?_⟩
 ·simp at c2
 try simp at c2
 apply aE;apply aA;refine zk [0,1] ?_;refine aY fun _ _ Z=>?_;refine zs 2 fun _ Y=>?_;simp[dB,mL,hg];and_intros<;>(try omega);apply Y;refine aD fun _ Y=>?_;simp[dB,mL,hg];refine Uj (yE 3 m M l d rk (pX 3) [] 1 [2,3] _ hx (by omega) (by decide)) ?_;rintro _ τ1 ⟨cc1,k1,d1,rk1,y1,o1,hr9,hk1,hx1,hkr, -⟩;subst hr9;obtain⟨rfl,ki,p1,p2,rfl⟩:=aKa hx hkr;apply Y;simp[dB,mL,hg];apply Z;refine aY fun _ _ Z=>?_;refine zs 2 fun _ Y=>?_;simp[dB,mL,hg];and_intros<;>(try omega);apply Y;refine aD fun _ Y=>?_;simp[dB,mL,hg];refine Uj (yE k1 m M l d1 rk1 y1 [p1,p2] 1 [3,2] _ hx1 (by simp at hk1;omega) (by decide)) ?_;rintro _ τ2 ⟨cc2,k2,d2,rk2,y2,o2,hr9,hk2,hx2,hkr2, -⟩;subst hr9;obtain⟨rfl,⟨q,rfl,hq⟩,h9⟩:=aKt hx1 ki hkr2;have hg2:=hx2.at_;simp only [List.cons_append,List.nil_append] at hx2 hg2;apply Y;simp[dB,mL,hg,hg2,hq];apply Z;refine zk [0,1,3,4] ?_;refine mY ⟨[],[],[],[],[]⟩ fun all hall _ Z=>?_;have ga2:aR all 2=some 30:=hall 2;have ga6:aR all 6=some 34:=hall 6;have ga12:aR all 12=some 40:=hall 12;have ga20:aR all 20=some 48:=hall 20;refine zs 3 fun _ Y=>?_;simp[dB,mL,ga2,ga6,ga12,ga20,hg,hg2,hq];apply Y;refine aU 30 (by simp <;> rfl) ?_;refine⟨fun g3=>?_,fun g3=>?_⟩
 ·try simp at g3
  refine zs 4 fun _ Y=>?_;simp[dB,mL,ga2,ga6,ga12,ga20,hg,hg2,hq];apply Y;refine aU 34 (by simp <;> rfl) ?_;refine⟨fun g4=>?_,fun g4=>?_⟩
  ·try simp at g4
   refine zs 1 fun _ Y=>?_;simp[dB,mL,ga2,ga6,ga12,ga20,hg,hg2,hq];apply Y;refine zg ga6 fun _ Y=>?_;simp[dB,mL,ga2,ga6,ga12,ga20,hg,hg2,hq];refine cH (yC l m [p1,p2,q] _ (by simp) hg2) ?_;apply Y;refine zs 4 fun _ Y=>?_;simp[dB,mL,ga2,ga6,ga12,ga20,hg,hg2,hq];and_intros<;>(try omega);apply Y;refine aU 40 (by simp <;> rfl) ?_;refine⟨fun g5=>?_,fun g5=>?_⟩
   ·try simp at g5
    refine zs 1 fun _ Y=>?_;simp[dB,mL,ga2,ga6,ga12,ga20,hg,hg2,hq];apply Y;refine zg ga12 fun _ Y=>?_;simp[dB,mL,ga2,ga6,ga12,ga20,hg,hg2,hq];refine cH (yC l m [p1,p2,q] _ (by simp) hg2) ?_;apply Y;refine zs 6 fun _ Y=>?_;simp[dB,mL,ga2,ga6,ga12,ga20,hg,hg2,hq];and_intros<;>(try omega);apply Y;refine aU 48 (by simp <;> rfl) ?_;refine⟨fun g6=>?_,fun g6=>?_⟩
    ·try simp at g6
     refine zs 1 fun _ Y=>?_;simp[dB,mL,ga2,ga6,ga12,ga20,hg,hg2,hq];apply Y;refine zg ga20 fun _ Y=>?_;simp[dB,mL,ga2,ga6,ga12,ga20,hg,hg2,hq];obtain⟨σ3,hc3⟩:=aH1 hx2 (by simp at hk1 hk2;omega) h9;refine cH (hc3) ?_;apply Y;simp[dB,mL,ga2,ga6,ga12,ga20,hg,hg2,hq];apply Z;apply aB;simp [aL]
    simp at g6
   simp at g5
  simp at g4
 simp at g3
set_option maxRecDepth 20000
set_option maxHeartbeats 8000000
set_option maxRecDepth 20000
set_option maxHeartbeats 8000000
theorem Sd(n:Nat)(hn:n≤8)(σ:List (List D)):Ct prog 13 [.sl false ((nV n).map nQ)] σ (fun r σ'=>∃m M l d rk,r= .tup [.ref l 0,eN (XO n)]∧LX (2 * n+1) m M l d rk (XO n) [] σ'):=by
 have hl:=Cl n;refine(Ej (nV n) (fun k x=>x=xo k) rfl (fun k hk x y hx h=>?_) σ (by omega) (fun a ha=>?_)).mono ?_
 ·rw [Sn] at h;exact aGl k (by omega) x y hx h
 ·unfold nV at ha;obtain⟨k,hk,rfl⟩:=List.mem_map.1 ha;have hk:=List.mem_range.1 hk;have:=aLc k (by omega);exact⟨by omega,by omega⟩
 rintro r σ' ⟨k,m,M,l,d,rk,x,k1,k2,k3,hr,hx,hg⟩;obtain rfl:k=2 * n+1:=by omega
 subst hg;rw [aHv] at hr hx;exact⟨m,M,l,d,rk,hr,hx⟩
@[simp] abbrev qm231:Cfg:=⟨[5,9,11,30,37,51,55,75,81,82,86,91],[],[],[],[]⟩
theorem Ke(n0:Int)(order:List Int)(σ:List (List D))(hl:order.length≤9223372036854775807):Ct prog 3 [D.int n0,.sl false (order.map D.int)] σ (fun r σ'=>r= .bool true):=by
 refine zf (rs:=[.tmp 4]) func3 ntmps3 results3 ?_;simp only [aN];have hg:=True.intro;obtain⟨m7,hm7,hm8⟩:=Hp n0 7 (by omega);refine zr qm231 fun _ _ Z=>?_;simp(disch:=omega)[dB,hg,bT,bV,or_imp,forall_and,hm8];apply Z;apply aC;refine zr qm231 fun _ _ Z=>?_;refine aD fun _ Y=>?_;simp(disch:=omega)[dB,hg,bT,bV,or_imp,forall_and,hm8];refine Uj (Ox _) ?_;rintro _ σ1 hr9;subst hr9;apply Y;simp(disch:=omega)[dB,hg,bT,bV,or_imp,forall_and,hm8];apply Z;refine zi ?_;refine⟨fun c1=>?_,fun c1=>?_⟩
 ·simp at c1
 try simp at c1
 apply aE;apply aA;refine zr qm231 fun _ _ Z=>?_;simp(disch:=omega)[dB,hg,bT,bV,or_imp,forall_and,hm8];and_intros<;>(try omega);apply Z;obtain⟨N,hN⟩:∃N:Nat,(1:Int)+m7=N:=⟨1+m7,by omega⟩;have hN1:1≤N:=by omega
 have hN8:N≤8:=by omega
 rw [hN];refine zr qm231 fun _ _ Z=>?_;simp(disch:=omega)[dB,hg,bT,bV,or_imp,forall_and,hm8];and_intros<;>(try omega);apply Z;apply aC;refine zr qm231 fun _ _ Z=>?_;simp(disch:=omega)[dB,hg,bT,bV,or_imp,forall_and,hm8];apply Z;apply aG;refine zk [0,1,4,5,26,27] ?_;refine bI (fun(j:Nat)=> [(27,.d (.v (.int .i64 (j:Int)))),(5,.d (.sl true ((nV j).map nQ))),(6,.d (.any))]) [5,6,27,28,29,30,31,32,33,34,35,36,37,38] (fun(j:Nat)=>j≤N) (fun(j:Nat)=>N - j) (0) (by simp <;> rfl) ?_ ?_ ?_
 ·simp [nV,aO]
 ·simp
 rintro j hj;simp only [List.cons_append,List.nil_append];have hnx:=Le j;have hal:=Cl j;refine zr qm231 fun _ _ Z=>?_;simp(disch:=omega)[dB,hg,bT,bV,or_imp,forall_and,hm8];apply Z;apply aC;refine zi ?_;refine⟨fun c2=>?_,fun c2=>?_⟩
 ·try simp at c2
  apply aE;apply aA;apply aC;apply aG;refine zr qm231 fun _ _ Z=>?_;simp(disch:=omega)[dB,hg,bT,bV,or_imp,forall_and,hm8];apply Z;refine zt qm231 fun _ _ Z=>?_;refine zs 8 fun _ Y=>?_;simp(disch:=omega)[dB,hg,bT,bV,or_imp,forall_and,hm8];and_intros<;>(try omega);apply Y;simp(disch:=omega)[dB,hg,bT,bV,or_imp,forall_and,hm8];apply Z;apply aK;apply aA;refine zk [0,1,4,5,6,26,27] ?_;refine zt qm231 fun _ _ Z=>?_;simp(disch:=omega)[dB,hg,bT,bV,or_imp,forall_and,hm8];and_intros<;>(try omega);apply Z;refine zq (j+1) ?_ ?_ ?_
  ·omega
  ·try dsimp only
   omega
  simp(disch:=omega)[dB,hg,bT,bV,or_imp,forall_and,hnx,hm8]
 try simp at c2
 obtain rfl:N=j:=by omega
 apply bC;apply bB;apply bD;apply aX;apply aA;refine zr qm231 fun _ _ Z=>?_;refine zs 1 fun _ Y=>?_;simp(disch:=omega)[dB,hg,bT,bV,or_imp,forall_and,hm8];apply Y;refine aD fun _ Y=>?_;simp(disch:=omega)[dB,hg,bT,bV,or_imp,forall_and,hm8];refine Uj (Sd N hN8 _) ?_;rintro _ τ ⟨m,M,l,d,rk,hr9,hx⟩;subst hr9;have hg:=hx.at_;apply Y;simp(disch:=omega)[dB,hg,bT,bV,or_imp,forall_and,hm8];apply Z;apply aC;refine zk [0,1,4,7] ?_;refine zr qm231 fun _ _ Z=>?_;simp(disch:=omega)[dB,hg,bT,bV,or_imp,forall_and,hm8];apply Z;refine zi ?_;refine⟨fun c3=>?_,fun c3=>?_⟩
 ·simp at c3
 try simp at c3
 apply aE;apply aA;refine zr qm231 fun _ _ Z=>?_;simp(disch:=omega)[dB,hg,bT,bV,or_imp,forall_and,hm8];and_intros<;>(try omega);apply Z;apply aC;refine zr qm231 fun _ _ Z=>?_;simp(disch:=omega)[dB,hg,bT,bV,or_imp,forall_and,hm8];apply Z;apply aG;refine zk [0,1,4,7,9,47,48] ?_;refine bI (fun(j:Nat)=> [(48,.d (.v (.int .i64 (j:Int)))),(9,.d (.sl true ((KO j).map D.int))),(10,.d (.any))]) [9,10,48,49,50,51,52,53,54,55,56] (fun(j:Nat)=>j≤N) (fun(j:Nat)=>N - j) (0) (by simp <;> rfl) ?_ ?_ ?_
 ·simp [KO]
 ·simp
 rintro j hj;simp only [List.cons_append,List.nil_append];have hnx:=aFl j;have hkl:=Fw j;refine zr qm231 fun _ _ Z=>?_;simp(disch:=omega)[dB,hg,bT,bV,or_imp,forall_and,hm8];apply Z;apply aC;refine zi ?_;refine⟨fun c4=>?_,fun c4=>?_⟩
 ·try simp at c4
  apply aE;apply aA;apply aC;apply aG;refine zr qm231 fun _ _ Z=>?_;simp(disch:=omega)[dB,hg,bT,bV,or_imp,forall_and,hm8];apply Z;refine zt qm231 fun _ _ Z=>?_;simp(disch:=omega)[dB,hg,bT,bV,or_imp,forall_and,hm8];and_intros<;>(try omega);apply Z;apply aK;apply aA;refine zk [0,1,4,7,9,10,47,48] ?_;refine zt qm231 fun _ _ Z=>?_;simp(disch:=omega)[dB,hg,bT,bV,or_imp,forall_and,hm8];and_intros<;>(try omega);apply Z;refine zq (j+1) ?_ ?_ ?_
  ·omega
  ·try dsimp only
   omega
  simp(disch:=omega)[dB,hg,bT,bV,or_imp,forall_and,hnx,hm8]
 try simp at c4
 obtain rfl:N=j:=by omega
 apply bC;apply bB;apply bD;apply aX;apply aA;refine zr qm231 fun _ _ Z=>?_;simp(disch:=omega)[dB,hg,bT,bV,or_imp,forall_and,hm8];and_intros<;>(try omega);apply Z;apply aC;refine zr qm231 fun _ _ Z=>?_;simp(disch:=omega)[dB,hg,bT,bV,or_imp,forall_and,hm8];apply Z;apply aG;refine zk [0,1,4,7,9,11,12] ?_;refine bI (fun(q:Nat×List Int×List Int)=> [(12,.d (.v (.int .i64 (q.1:Int)))),(9,.d (.sl true (q.2.1.map D.int))),(11,.d (.sl true (q.2.2.map D.int))),(13,.d (.any))]) [9,11,12,13,58,59,60,61,62,63,64,65,66,67,68,69,70,71,72,73,74,75,76,77,78,79,80,81,82,83,84,85,86,87,88,89,90,91] (fun(q:Nat×List Int×List Int)=>(q.2.2++q.2.1).Perm (KO N)∧q.1≤q.2.2.length) (fun(q:Nat×List Int×List Int)=>q.2.1.length) ((0,KO N, [])) (by simp <;> rfl) ?_ ?_ ?_
 ·simp
 ·simp
 rintro⟨i,left,to⟩ ⟨hpm,hi⟩;simp only [List.cons_append,List.nil_append];dsimp only at hpm hi;try dsimp only
 have hpl:to.length+left.length=N:=by have:=hpm.length_eq;rw [Fw,List.length_append] at this;exact this
 apply aC;refine zr qm231 fun _ _ Z=>?_;simp(disch:=omega)[dB,hg,bT,bV,or_imp,forall_and,hm8];and_intros<;>(try omega);apply Z;refine zi ?_;refine⟨fun c5=>?_,fun c5=>?_⟩
 ·try simp at c5
  have hne:¬left= []:=by rintro rfl;simp at c5
  have hlp:0<left.length:=List.length_pos_iff.2 hne;have htl2:List.take left.length (List.map D.int left)=List.map D.int left:=List.take_of_length_le (by simp);apply aE;apply aA;apply aC;apply aG;refine zr qm231 fun _ _ Z=>?_;simp(disch:=omega)[dB,hg,bT,bV,or_imp,forall_and,hne,htl2];apply Z;apply aC;refine zk [0,1,4,7,9,11,12,13] ?_;refine zr qm231 fun _ _ Z=>?_;simp(disch:=omega)[dB,hg,bT,bV,or_imp,forall_and,hne,htl2];and_intros<;>(try omega);apply Z;refine zi ?_;refine⟨fun c6=>?_,fun c6=>?_⟩
  ·try simp at c6
   obtain⟨mm,hmm,hme⟩:=Hp order[i] 65535 (by omega);refine zk [0,1,4,7,9,11,12,13] ?_;refine zt qm231 fun _ _ Z=>?_;refine zs 8 fun _ Y=>?_;simp(disch:=omega)[dB,hg,bT,bV,or_imp,forall_and,hne,htl2,hme];and_intros<;>(try omega);apply Y;simp(disch:=omega)[dB,hg,bT,bV,or_imp,forall_and,hne,htl2,hme];apply Z;apply aA;obtain⟨κ,hκ,hκl⟩:∃κ:Nat,(mm:Int).tmod (left.length:Int)=κ∧κ<left.length:=⟨mm % left.length,by rw [Int.tmod_eq_emod_of_nonneg (by omega)];simp,Nat.mod_lt _ hlp⟩;rw [hκ];refine zk [0,1,4,7,9,11,12,13] ?_;refine zr qm231 fun _ _ Z=>?_;simp(disch:=omega)[dB,hg,bT,bV,or_imp,forall_and,hne,htl2,hme];and_intros<;>(try omega);apply Z;refine zk [0,1,4,7,9,11,12,13] ?_;refine ze qm231 [.op {},.op {},.op {},.op {},.op {},.op {},.op {},.op {},.op {},.op {},.op {}] fun all hall _ Z=>?_;refine jD 8 fun _ Y=>?_;simp(disch:=omega)[dB,hg,bT,bV,or_imp,forall_and,hne,htl2,hme];and_intros<;>(try omega);apply Y;simp(disch:=omega)[dB,hg,bT,bV,or_imp,forall_and,hne,htl2,hme];and_intros<;>(try omega);apply Z;apply aK;apply aA;refine zk [0,1,4,7,9,11,12,13] ?_;refine zt qm231 fun _ _ Z=>?_;simp(disch:=omega)[dB,hg,bT,bV,or_imp,forall_and,hne,htl2,hme];and_intros<;>(try omega);apply Z;refine zq ((i+1,left.take κ++left.drop (κ+1),to++ [left[κ]])) ?_ ?_ ?_
   ·exact⟨(Cr hκl).trans hpm,by simp;omega⟩
   ·simp;omega
   simp(disch:=omega)[dB,hg,bT,bV,or_imp,forall_and,hne,htl2,hme]
  try simp at c6
  apply aE;apply aA;obtain⟨κ,hκ⟩:∃κ:Nat,(0:Int)=κ:=⟨0,rfl⟩;have hκl:κ<left.length:=by omega
  rw [hκ];refine zk [0,1,4,7,9,11,12,13] ?_;refine zr qm231 fun _ _ Z=>?_;simp(disch:=omega)[dB,hg,bT,bV,or_imp,forall_and,hne,htl2];and_intros<;>(try omega);apply Z;refine zk [0,1,4,7,9,11,12,13] ?_;refine ze qm231 [.op {},.op {},.op {},.op {},.op {},.op {},.op {},.op {},.op {},.op {},.op {}] fun all hall _ Z=>?_;refine jD 8 fun _ Y=>?_;simp(disch:=omega)[dB,hg,bT,bV,or_imp,forall_and,hne,htl2];and_intros<;>(try omega);apply Y;simp(disch:=omega)[dB,hg,bT,bV,or_imp,forall_and,hne,htl2];and_intros<;>(try omega);apply Z;apply aK;apply aA;refine zk [0,1,4,7,9,11,12,13] ?_;refine zt qm231 fun _ _ Z=>?_;simp(disch:=omega)[dB,hg,bT,bV,or_imp,forall_and,hne,htl2];and_intros<;>(try omega);apply Z;refine zq ((i+1,left.take κ++left.drop (κ+1),to++ [left[κ]])) ?_ ?_ ?_
  ·exact⟨(Cr hκl).trans hpm,by simp;omega⟩
  ·simp;omega
  simp(disch:=omega)[dB,hg,bT,bV,or_imp,forall_and,hne,htl2]
 try simp at c5
 obtain rfl:left= []:=by simpa using c5
 rw [List.append_nil] at hpm;have hton:to.Nodup:=hpm.nodup_iff.2 (yZ N);have htl:=hpm.length_eq;rw [Fw] at htl;apply bC;apply bB;apply bD;apply aX;apply aA;refine zr qm231 fun _ _ Z=>?_;refine zs 2 fun _ Y=>?_;simp(disch:=omega)[dB,hg,bT,bV,or_imp,forall_and];apply Y;refine aD fun _ Y=>?_;simp(disch:=omega)[dB,hg,bT,bV,or_imp,forall_and];refine Uj (yE (2 * N+1) m M l d rk (XO N) [] 1 to _ hx (by omega) (by omega)) ?_;rintro _ τ1 ⟨cc1,k1,d1,rk1,y1,o1,hr9,hk1,hx1,hkr, -⟩;subst hr9;obtain⟨rfl,hol,y1l,y1k,y1s⟩:=aIe hx hN1 hpm hkr;have hg1:=hx1.at_;have hnb1:=hx1.ix.iv.ip.NB (by omega);apply Y;simp(disch:=omega)[dB,hg,bT,bV,or_imp,forall_and,hg1];apply Z;refine zk [0,4,7,11,14] ?_;refine zr qm231 fun _ _ Z=>?_;refine zs 4 fun _ Y=>?_;simp(disch:=omega)[dB,hg,bT,bV,or_imp,forall_and,hg1];apply Y;refine aD fun _ Y=>?_;simp(disch:=omega)[dB,hg,bT,bV,or_imp,forall_and,hg1];refine cH (yX m M d1 1 _ hx1.ix.iv.ho hnb1) ?_;apply Y;simp(disch:=omega)[dB,hg,bT,bV,or_imp,forall_and,hg1];apply Z;refine zk [0,4,7,11,14,15] ?_;refine zr qm231 fun _ _ Z=>?_;refine zs 1 fun _ Y=>?_;simp(disch:=omega)[dB,hg,bT,bV,or_imp,forall_and,hg1];apply Y;refine aD fun _ Y=>?_;simp(disch:=omega)[dB,hg,bT,bV,or_imp,forall_and,hg1];refine cH (yC l m o1 _ (by omega) hg1) ?_;apply Y;simp(disch:=omega)[dB,hg,bT,bV,or_imp,forall_and,hg1];and_intros<;>(try omega);apply Z;refine zr qm231 fun _ _ Z=>?_;refine zs 2 fun _ Y=>?_;simp(disch:=omega)[dB,hg,bT,bV,or_imp,forall_and,hg1];apply Y;refine aD fun _ Y=>?_;simp(disch:=omega)[dB,hg,bT,bV,or_imp,forall_and,hg1];refine Uj (yE k1 m M l d1 rk1 y1 o1 1 to _ hx1 (by omega) (by omega)) ?_;rintro _ τ2 ⟨cc2,k2,d2,rk2,y2,o2,hr9,hk2,hx2,hkr2, -⟩;subst hr9;obtain⟨rfl,rfl⟩:=aHs hx1 (by omega) hton y1l y1k y1s hkr2;have hg2:=hx2.at_;apply Y;simp(disch:=omega)[dB,hg,bT,bV,or_imp,forall_and,hg1,hg2];apply Z;refine zk [0,4,7,11,14,15,17,18] ?_;refine mY qm231 fun all hall _ Z=>?_;have ga2:aR all 2=some 111:=hall 2;have ga6:aR all 6=some 115:=hall 6;have ga12:aR all 12=some 121:=hall 12;have ga17:aR all 17=some 126:=hall 17;refine zs 3 fun _ Y=>?_;simp(disch:=omega)[dB,hg,bT,bV,or_imp,forall_and,ga2,ga6,ga12,ga17,hg1,hg2];apply Y;refine aU 111 (by simp <;> rfl) ?_;refine⟨fun g7=>?_,fun g7=>?_⟩
 ·try simp at g7
  refine zs 4 fun _ Y=>?_;simp(disch:=omega)[dB,hg,bT,bV,or_imp,forall_and,ga2,ga6,ga12,ga17,hg1,hg2];apply Y;refine aU 115 (by simp <;> rfl) ?_;refine⟨fun g8=>?_,fun g8=>?_⟩
  ·try simp at g8
   refine zs 3 fun _ Y=>?_;simp(disch:=omega)[dB,hg,bT,bV,or_imp,forall_and,ga2,ga6,ga12,ga17,hg1,hg2];apply Y;refine zg ga6 fun _ Y=>?_;simp(disch:=omega)[dB,hg,bT,bV,or_imp,forall_and,ga2,ga6,ga12,ga17,hg1,hg2];refine cH (On (aF d1.l 1).kids to _ (by have:=Qv hx1.ix.iv 1;omega) (by omega)) ?_;rw [decide_eq_true (show(aF d1.l 1).kids=to by rw [← Sj hx1.ix];exact y1s)];apply Y;refine zs 2 fun _ Y=>?_;simp(disch:=omega)[dB,hg,bT,bV,or_imp,forall_and,ga2,ga6,ga12,ga17,hg1,hg2];apply Y;refine aU 121 (by simp <;> rfl) ?_;refine⟨fun g9=>?_,fun g9=>?_⟩
   ·try simp at g9
    refine zs 5 fun _ Y=>?_;simp(disch:=omega)[dB,hg,bT,bV,or_imp,forall_and,ga2,ga6,ga12,ga17,hg1,hg2];apply Y;refine aU 126 (by simp <;> rfl) ?_;refine⟨fun g10=>?_,fun g10=>?_⟩
    ·try simp at g10
     refine zs 1 fun _ Y=>?_;simp(disch:=omega)[dB,hg,bT,bV,or_imp,forall_and,ga2,ga6,ga12,ga17,hg1,hg2];apply Y;refine zg ga17 fun _ Y=>?_;simp(disch:=omega)[dB,hg,bT,bV,or_imp,forall_and,ga2,ga6,ga12,ga17,hg1,hg2];refine cH (yC l m o2 _ (by omega) hg2) ?_;apply Y;simp(disch:=omega)[dB,hg,bT,bV,or_imp,forall_and,ga2,ga6,ga12,ga17,hg1,hg2];and_intros<;>(try omega);apply Z;apply aB;simp [aL]
    try simp at g10
    omega
   simp at g9
  simp at g8
 simp at g7
end Go.Proofs.YtbgfljpnhhdkoaaGreat
namespace Go.Vm
open Go Go.RowKit
def rZ(w:World):Mem:=fun b o=>w.cell? ⟨b,o,none⟩
def CellsAt(w:World)(ds:List D)(cs:List Value):Prop:=
 ds.length=cs.length∧∀(i:Nat) (c:D) (y:Value),ds[i]?=some c→cs[i]?=some y→R (rZ w) [] c y∧y.oneCell'=true∧c.flat=true
def OpenAt(w:World)(d:D)(cs:List Value):Prop:=CellsAt w d.cells cs∧d≠ .any
def Opens(P:Program)(t:TypeId) {α:Type} (f:α→D)(p:α→Prop):Prop:=
 ∀(H:Type) (enc:TypeId×Value→H) (w:World) (spare:Nat→Bool) (held:Bool) (fuel:Nat) (cs:List Value) (x:DataW H×List MemPlace),DataW.trod enc P w 0 spare held fuel t cs=some x→∃a,p a∧OpenAt w (f a) cs
theorem OpenAt.one {w:World} {d:D} {y:Value} (hd:d.cells= [d])(hr:R (rZ w) [] d y)(h1:y.oneCell'=true)(hf:d.flat=true)(ha:d≠ .any):OpenAt w d [y]:=by
 refine⟨⟨by rw [hd];rfl,fun i c z h2 h3=>?_⟩,ha⟩;rw [hd] at h2
 match i with
 | 0=>simp at h2 h3;subst h2;subst h3;exact⟨hr,h1,hf⟩
 | i+1=>simp at h2
section
variable {P:Program} {t:TypeId}
theorem Vr(ht:P.underlying t=some (.int .i64)):Opens P t D.int (fun n=> -9223372036854775808≤n∧n≤9223372036854775807):=by
 intro H enc w spare held fuel cs x h;obtain⟨n,rfl,_,hw⟩:=DataW.trod_int ht h;refine⟨n,?_,.one rfl (.v _ rfl) rfl rfl (by simp)⟩;have h1:IntKind.i64.min= -9223372036854775808:=rfl;have h2:IntKind.i64.max=9223372036854775807:=rfl;simp only [Lit.wf,Bool.and_eq_true,decide_eq_true_eq] at hw;omega
theorem OpenAt.value {w:World} {d:D} {cs:List Value} (h:OpenAt w d cs):∃x:Value,x.cells.toList=cs∧R (rZ w) [] d x:=by
 have gen:d.cells= [d]→∃x:Value,x.cells.toList=cs∧R (rZ w) [] d x:=by
  intro hd;have hl:=h.1.1;rw [hd] at hl;obtain⟨y,rfl⟩:=List.length_eq_one_iff.1 hl.symm;have:=h.1.2 0 d y (by rw [hd];rfl) rfl;exact⟨y,by rw [Value.cells_one this.2.1],this.1⟩
 cases d with
 | agg ds=>
  refine⟨.agg cs.toArray,by simp [Value.cells],.agg ds cs.toArray (by have:=h.1.1;simp [D.cells] at this;simp [this]) (fun i e y a1 a2=>(h.1.2 i e y a1 (by simpa using a2)).1) (fun i y a2=>?_)⟩;have a2':cs[i]?=some y:=by simpa using a2
  have hi:=(List.getElem?_eq_some_iff.1 a2').1;have hl:=h.1.1;have hi2:i<(D.cells (.agg ds)).length:=by omega
  exact(h.1.2 i _ y (List.getElem?_eq_getElem hi2) a2').2.1
 | _=>exact gen rfl
theorem xF {α:Type} {n:Nat} {Q:Nat→α→Prop} (h:∀i,i<n→∃a,Q i a):∃l:List α,l.length=n∧∀i a,l[i]?=some a→Q i a:=by
 induction n with
 | zero=>exact⟨[],rfl,by simp⟩
 | succ n ih =>
  obtain⟨l,hl,hq⟩:=ih (fun i hi=>h i (by omega));obtain⟨a,ha⟩:=h n (by omega);refine⟨l++ [a],by simp [hl],fun i b hb=>?_⟩;by_cases hi:i<l.length
  ·rw [List.getElem?_append_left hi] at hb;exact hq i b hb
  rw [List.getElem?_append_right (by omega)] at hb;have h0:i - l.length=0:=by
   have:=(List.getElem?_eq_some_iff.1 hb).1;simp at this;omega
  rw [h0] at hb;simp at hb;subst hb;rw [show i=n by omega];exact ha
theorem Oh {d:D} :d.ncells=d.cells.length:=by cases d <;> rfl
theorem Ja {e:TypeId} {α:Type} {f:α→D} {p:α→Prop} (ht:P.underlying t=some (.slice e))(h:Opens P e f p)(hk:0<P.cellsOf e):Opens P t (fun l:List α=> .sl false (l.map f)) (fun l=>l.length≤maxLen∧∀a∈l,p a):=by
 intro H enc w spare held fuel cs x hx;rcases DataW.trod_slice ht hx with ⟨rfl,_⟩ | ⟨a,len,cap,elems,rest,n,_,rfl,_,_,hlc,hcm,hlen,hel,_,_⟩
 ·exact⟨[],⟨by simp,by simp⟩,.one rfl (.nil false) rfl rfl (by simp)⟩
 by_cases h0:len=0
 ·subst h0;exact⟨[],⟨by simp,by simp⟩,.one rfl (.emp false a cap hcm) rfl rfl (by simp)⟩
 have each:∀i,i<len→∃b:α×List Value,p b.1∧OpenAt w (f b.1) b.2∧w.cells? 0 (a.add (i * P.cellsOf e)) (P.cellsOf e)=some b.2:=by
  intro i hi;have hi':i<elems.length:=by omega
  have:=hel i hi;rw [List.getElem?_eq_getElem hi',Option.bind_eq_some_iff] at this;obtain⟨ds,h1,h2⟩:=this;obtain⟨b,hb,ho⟩:=h H enc w spare held n ds _ h2;exact⟨(b,ds),hb,ho,h1⟩
 obtain⟨L,hL,hq⟩:=xF each;have each2:∀i,i<len→∃v:Value,∃b,L[i]?=some b∧v.cells.toList=b.2∧R (rZ w) [] (f b.1) v:=by
  intro i hi;have hi':i<L.length:=by omega
  have hb:L[i]?=some L[i]:=List.getElem?_eq_getElem hi';obtain⟨v,h1,h2⟩:=(hq i _ hb).2.1.value;exact⟨v,_,hb,h1,h2⟩
 obtain⟨V,hV,hv⟩:=xF each2;have hspot:a.spot=none:=by
  have hi':0<L.length:=by omega
  have h1:=(hq 0 _ (List.getElem?_eq_getElem hi')).2.2;obtain⟨_,hl,hc⟩:=World.cells?_some h1;have h2:=hc 0 hk;rw [List.getElem?_eq_getElem (by omega)] at h2;simpa [Addr.add] using World.cell?_spot h2
 obtain⟨b,off,spot⟩:=a;simp only at hspot;subst hspot;refine⟨L.map (·.1),⟨by rw [List.length_map,hL];exact Nat.le_trans hlc hcm,fun y hy=>?_⟩,.one rfl ?_ rfl rfl (by simp)⟩
 ·obtain⟨z,hz,rfl⟩:=List.mem_map.1 hy;obtain⟨i,hi⟩:=List.getElem?_of_mem hz;exact(hq i z hi).1
 refine .sl false _ b off len cap (P.cellsOf e) V (by simp [hV,hL]) (by simp [hL]) hk hlc hcm (fun i d x h1 h2=>?_) (fun i d h1=>?_) (fun i x h1=>?_)
 ·obtain⟨z,hz,h3,h4⟩:=hv i x h2;simp only [List.getElem?_map,hz,Option.map_some,Option.some.injEq] at h1;subst h1;exact h4
 ·simp only [List.getElem?_map,Option.map_map,Option.map_eq_some_iff] at h1;obtain⟨z,hz,rfl⟩:=h1;obtain⟨_,h5,h6⟩:=hq i z hz;show(f z.1).ncells=_
  rw [Oh,h5.1.1];exact(World.cells?_some h6).2.1
 obtain⟨z,hz,h3,h4⟩:=hv i x h1;obtain⟨_,h5,h6⟩:=hq i z hz;obtain⟨_,h7,h8⟩:=World.cells?_some h6;have hsz:x.cells.size=P.cellsOf e:=by rw [← h7,← h3,Array.length_toList]
 refine⟨hsz,fun j c hj=>?_⟩;have hjl:j<P.cellsOf e:=by rw [← hsz];exact(Array.getElem?_eq_some_iff.1 hj).1
 have hj2:z.2[j]?=some c:=by rw [← h3];simpa using hj
 have hj3:j<(f z.1).cells.length:=by rw [h5.1.1];omega
 refine⟨(h5.1.2 j _ c (List.getElem?_eq_getElem hj3) hj2).2.1,?_⟩;have:=h8 j hjl;rw [Addr.add_none,Addr.add_none,hj2] at this;show w.cell? _=_
 rw [show off+(i * P.cellsOf e+j)=off+i * P.cellsOf e+j by omega];exact this
theorem CellsAt.append {w:World} {a b:List D} {x y:List Value} (h1:CellsAt w a x)(h2:CellsAt w b y):CellsAt w (a++b) (x++y):=by
 refine⟨by simp [h1.1,h2.1],fun i c v e1 e2=>?_⟩;by_cases hi:i<a.length
 ·rw [List.getElem?_append_left hi] at e1;rw [List.getElem?_append_left (by have:=h1.1;omega)] at e2;exact h1.2 i c v e1 e2
 rw [List.getElem?_append_right (by omega)] at e1;rw [List.getElem?_append_right (by have:=h1.1;omega)] at e2;rw [← h1.1] at e2;exact h2.2 _ c v e1 e2
theorem Opens.map {α β:Type} {f:α→D} {p:α→Prop} {g:β→D} {q:β→Prop} (h:Opens P t f p)(φ:α→β)(hφ:∀a,f a=g (φ a))(hq:∀a,p a→q (φ a)):Opens P t g q:=by
 intro H enc w spare held fuel cs x hx;obtain⟨a,ha,ho⟩:=h H enc w spare held fuel cs x hx;exact⟨φ a,hq a ha,by rw [← hφ];exact ho⟩
theorem Kf {H:Type} {enc:TypeId×Value→H} {α:Type} {f:α→D} {p:α→Prop} {w:World} {spare:Nat→Bool} {held:Bool} {v:Value} {d:DataW H} {ps:List MemPlace} (h:Opens P t f p)(hf:∀a,(f a).cells= [f a])(hv:v.oneCell'=true)(ht:DataW.Trod enc P w 0 spare held t v d ps):
  ∃a,p a∧R (rZ w) [] (f a) v∧∀X h q,Own w (rZ w) [] X h q (f a) v:=by
 obtain⟨fuel,hx⟩:=ht;obtain⟨a,ha,ho⟩:=h H enc w spare held fuel _ _ hx;rw [Value.cells_one hv] at ho;have:=ho.1.2 0 (f a) v (by rw [hf];rfl) rfl;exact⟨a,ha,this.1,fun X h q=> .flat q _ _ this.2.2⟩
theorem aJk {N:FuncId} {ds:List D} {vs:Array Value} {W:World} (hct:Ct P N ds [] (fun r _=>r= .bool true))(hl:vs.size=ds.length)
  (ha:∀(i:Nat) (d:D) (v:Value),ds[i]?=some d→vs[i]?=some v→R (rZ W) [] d v∧∀X h q,Own W (rZ W) [] X h q d v):
  Calls P N vs W fun e W'=>e= .returned (.bool true)∧Below W.heap.size W W':=by
 refine(hct.2 W ⟨rZ W,fun _=>none, [], []⟩ vs hl rfl ⟨fun b o c h=>h,fun b t h=>by simp at h,fun t=>?_,rfl,fun n b cs h=>by simp at h,rfl,fun n b cs h=>by simp at h⟩).mono ?_
 ·show SlotOk W _ t (eA ds t) (bL vs t)
  cases hd:ds[t]? with
  | none=>
   simp only [eA,hd];exact⟨.any _,.flat _ _ _ rfl⟩
  | some d=>
   have hlt:t<vs.size:=by rw [hl];exact(List.getElem?_eq_some_iff.1 hd).1
   have hv:vs[t]?=some vs[t]:=Array.getElem?_eq_getElem hlt;have hvv:bL vs t=vs[t]:=by simp [bL,hlt]
   rw [pG hd,hvv];obtain⟨h1,h2⟩:=ha t d _ hd hv;exact⟨h1,h2 _ _ _⟩
 rintro e W' ⟨r,σ',x,g',rfl,rfl,_,hf,hok⟩;have hs:=hok.slot 0;have hs':R g'.M g'.bs (.bool true) x:=hs.1;exact⟨by rw [hs'.vEq],hf.os,hf.tape,hf.output,hf.size,fun k hk=>(hf.keep k hk rfl).1⟩
end
end Go.Vm
