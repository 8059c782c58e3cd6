import Derived.Test.YtbgfljpnhhdkoaaGreatTeSw
import Derived.Test.YtbgfljpnhhdkoaaGreatTePa
import Derived.Test.YtbgfljpnhhdkoaaGreatVm22
import Derived.ProofKit
set_option linter.all false
set_option maxRecDepth 20000
set_option maxHeartbeats 8000000
open Go.Proofs.Tryz
namespace Go.Proofs.YtbgfljpnhhdkoaaGreat
open Go Go.Vm
variable {i:Int}{par:D}{q:Nat}{v:VN}{x:LK}{σ:List (List D)}
theorem Cx(x:LK)(o:OW)(σ:List (List D))(h1:o.classes.length<=9999)(h2:o.attrs.length<=9999)(h3:o.styles.length<=9999)(hs:Sorted nA o.attrs):Ct prog 35 [Ao x,vX o] σ (fun r σ'=>r=vX (jX x o)/\σ'=σ):=
 have h:Ct prog 35 [Ao x,vX o] σ (fun r σ'=>r=vX (jX x o)/\∃J,σ'=σ++J):=(aGc x o σ h1 h2 h3 hs).strip fun r σ' h=>⟨h.1.1,h.1.2,h.2⟩
 h.trim fun r σ' ⟨hr,J,hs⟩=>⟨σ,J,hs,rfl,by rw [hr];exact aSd _ _,fun n cs h=> .inl h,hr,rfl⟩
theorem aHn(q:Nat)(os:List Nat)(k mv:Nat->Int)(σ:List (List D))(hI:IQ σ q os)(hN:os.length<1000000)(hx:∀x∈os,∃cs,σ[x]?=some cs/\cs[15]?=some (D.int (k x))/\cs[16]?=some (D.int (mv x))):Ct prog 39 [.ref q 0] σ (fun r σ'=>r= .int ((os.countP (fun x=> !(decide (k x=0) && decide (mv x=0))):Nat):Int)/\σ'=σ):=by
 refine zf func39 ?_;refine aZ fun _ _ Z=>?_;simp;apply Z;refine aZ fun _ _ Z=>?_;refine zs 1 fun _ Y=>?_;simp;apply Y;refine aE fun _ Y=>?_;simp;refine bS (aEi hI hN k mv hx) ?_;apply Y;simp;apply Z;apply aD;simp [aJ]
theorem aFc(q:Nat)(os:List Nat)(k:Nat->Int)(σ:List (List D))(hI:IQ σ q os)(hN:os.length<1000000)(hx:∀x∈os,∃cs mv dx dy,σ[x]?=some cs/\cs[15]?=some (D.int (k x))/\cs[16]?=some (D.int mv)/\cs[17]?=some (D.int dx)/\cs[18]?=some (D.int dy)):Ct prog 40 [.ref q 0] σ (fun r σ'=>r= .int ((os.countP (fun x=>ghK (k x)):Nat):Int)/\σ'=σ):=by
 refine zf func40 ?_;refine aZ fun _ _ Z=>?_;simp;apply Z;refine aZ fun _ _ Z=>?_;refine zs 1 fun _ Y=>?_;simp;apply Y;refine aE fun _ Y=>?_;simp;refine bS (aD8 hI hN k hx) ?_;apply Y;simp;apply Z;apply aD;simp [aJ]
theorem aLm (h:σ[q]?=some (itS i v x par [])):IQ σ q [q]:= .mk q _ [] [] h rfl (by decide) rfl fun j h1 _=>absurd h1 (by simp)
theorem fT (h:σ[q]?=some (itS i v x par [])):Ct prog 39 [.ref q 0] σ (fun r σ'=>r=D.int (if x.kind=0/\x.move=0 then 0 else 1)/\σ'=σ):=
 (aHn q [q] (fun _=>x.kind) (fun _=>x.move) σ (aLm h) (by simp) fun y hy=>by obtain rfl:=fG.1 hy;exact⟨_,h,rfl,rfl⟩).mono fun r σ' hr=>⟨by
  rw [hr.1,zY];by_cases h1:x.kind=0 <;> by_cases h2:x.move=0 <;> simp [h1,h2],hr.2⟩
theorem eK (h:σ[q]?=some (itS i v x par [])):Ct prog 40 [.ref q 0] σ (fun r σ'=>r=D.int (if kF x=true then 1 else 0)/\σ'=σ):=
 (aFc q [q] (fun _=>x.kind) σ (aLm h) (by simp) fun y hy=>by obtain rfl:=fG.1 hy;exact⟨_,_,_,_,h,rfl,rfl,rfl,rfl⟩).mono fun r σ' hr=>⟨by
  rw [hr.1,zY,show ghK x.kind=kF x from rfl];cases kF x <;> rfl,hr.2⟩
theorem oX(a:Int)(h:a=(IntKind.i64.wrap (a * 2 ^ min 33 IntKind.i64.bits)).fdiv (2 ^ min 33 IntKind.i64.bits)):wU a=a:=by
 have e:(2:Int) ^ min 33 IntKind.i64.bits=8589934592:=by decide
 rw [e,Qk _ (by decide)] at h;have hw: -9223372036854775808<=IntKind.i64.wrap (a * 8589934592)/\IntKind.i64.wrap (a * 8589934592)<=9223372036854775807:=by
  rw [IntKind.wrap_i64];omega
 generalize IntKind.i64.wrap (a * 8589934592)=w at h hw;have h2:8589934592 * a<=w/\w<8589934592 * a+8589934592:=by omega
 exact Jy ⟨by omega,by omega⟩
theorem aJn(f:FL):VG (gG f):= .mk _ (aJ4 f []) fun k hk=>by cases hk
theorem aCi(f:FL):dL (gG f)=1:=by rw [kA];rfl
theorem Yx(f:FL)(x:LK)(σ:List (List D))(hf:FO f)(hk:(gG f).kind=1):Ct prog 6 [Rk f,Ao x] σ (fun r σ'=>r= .bool true):=by
 refine zf func6 ?_;have hvv:=aJn f;have hcv:=aCi f;refine aZ fun _ _ Z=>?_;simp;apply Z;apply aF;refine aZ fun _ _ Z=>?_;refine aE fun _ Y=>?_;simp;refine Qa (Kj _) ?_;rintro _ σ1 hr9;subst hr9;apply Y;simp;apply Z;refine zI ?_ ?_<;>intro c1<;>try simp at c1
 apply zA;refine aZ fun _ _ Z=>?_;refine zs 2 fun _ Y=>?_;simp;and_intros<;>(try omega);apply Y;refine aE fun _ Y=>?_;simp;refine bS (Xl f _ hf) ?_;apply Y;simp;apply Z;refine aZ fun _ _ Z=>?_;refine aE fun _ Y=>?_;simp;refine Qa (Ga 9 _) ?_;rintro _ τ0 ⟨m,M,l,d,rk,hr9,hx⟩;subst hr9;have hg:=hx.at_;apply Y;simp[hg];apply Z;apply aF;refine aZ fun _ _ Z=>?_;simp[hg];apply Z;refine zI ?_ ?_<;>intro c2<;>try simp at c2
 apply zA;apply aF;refine zk [3,4,5,6] ?_;refine aZ fun _ _ Z=>?_;refine zs 1 fun _ Y=>?_;simp[hg];apply Y;refine aE fun _ Y=>?_;simp[hg];refine Qa (Oy (gG f) 1 1 _ hvv (by omega)) ?_;rintro _ _ ⟨⟨e1,hr9,he1⟩,hs9⟩;subst hr9;subst hs9;apply Y;simp[hg];apply Z;refine zI ?_ ?_<;>intro c3<;>try simp at c3
 .refine aZ fun _ _ Z=>?_;simp[hg];apply Z;apply aD;simp [aJ]
 apply zA;refine aZ fun _ _ Z=>?_;refine zs 2 fun _ Y=>?_;simp[hg];apply Y;refine aE fun _ Y=>?_;simp[hg];refine bS (Tj (gG f) hvv (by omega) _) ?_;apply Y;refine aE fun _ Y=>?_;simp[hg];obtain⟨q,d1,rk1,o1,τ1,hmk,lx1,hoq,hql,hq⟩:=Ox hx hvv (he1 c3) rfl;have hg1:=lx1.at_;have hqf:=hq;simp only [lD] at hq;refine bS (hmk) ?_;apply Y;simp[hg,hg1,hq];apply Z;apply aF;refine zk [3,4,5,6,7,8] ?_;refine iU ⟨[],[],[],[],[]⟩ fun all hall _ Z=>?_;have ga2:aK all 2=some 37:=hall 2;refine zs 3 fun _ Y=>?_;simp[ga2,hg,hg1,hq];apply Y;refine zb 37 ?_ ?_<;>intro g4<;>try simp at g4
 simp[ga2,hg,hg1,hq];apply Z;refine zI ?_ ?_<;>intro c5<;>try simp at c5
 apply zA;apply aF;refine zk [3,4,5,6,7] ?_;refine iU ⟨[],[],[],[],[]⟩ fun all hall _ Z=>?_;have ga3:aK all 3=some 44:=hall 3;have ga11:aK all 11=some 52:=hall 11;refine zs 4 fun _ Y=>?_;simp[ga3,ga11,hg,hg1,hq];apply Y;refine zb 44 ?_ ?_<;>intro g6<;>try simp at g6
 .refine zs 8 fun _ Y=>?_;simp[ga3,ga11,hg,hg1,hq];and_intros<;>(try omega);apply Y;refine zb 52 ?_ ?_<;>intro g7<;>try simp at g7
  .refine zs 8 fun _ Y=>?_;simp[ga3,ga11,hg,hg1,hq];apply Y;simp[ga3,ga11,hg,hg1,hq];apply Z;refine aV (t:=true) (by simp) (fun _=>?_) (fun h=>by cases h);refine zk [3,4,5,6,7] ?_;refine aZ fun _ _ Z=>?_;simp[hg,hg1,hq];apply Z;apply aD;simp [aJ]
  refine zs 8 fun _ Y=>?_;simp[ga3,ga11,hg,hg1,hq];and_intros<;>(try omega);apply Y;simp[ga3,ga11,hg,hg1,hq];apply Z;refine zI ?_ ?_<;>intro c8<;>try simp at c8
  .refine zk [3,4,5,6,7] ?_;refine aZ fun _ _ Z=>?_;simp[hg,hg1,hq];apply Z;apply aD;simp [aJ]
  apply zA;refine zk [3,4,5,6,7] ?_;refine aZ fun _ _ Z=>?_;simp[hg,hg1,hq];apply Z;refine aZ fun _ _ Z=>?_;refine zs 2 fun _ Y=>?_;simp[hg,hg1,hq];apply Y;refine aE fun _ Y=>?_;simp[hg,hg1,hq];obtain⟨o2,τ3,t1,hpa,hg3,hq3,r1,tb1,htk,hW1,hW2⟩:=vS lx1 hoq hql hqf hvv (he1 c3) rfl x (by first | exact fun _=>⟨oX _ g7,oX _ c8⟩ | exact fun e=>absurd e g6);have hqg:=hq3;simp only [itS] at hpa hq3;have nv9:=wC hvv (he1 c3);have z1:=nv9.v.c4;have z2:=nv9.v.a4;have z3:=nv9.v.s4;have hsm:=fun τ=>xR t1 ⟨0,t1.kind,t1.tag,t1.text, [], [], [], []⟩ tb1 (by rw [rC,rC,htk,(hW1 hk).1,(hW1 hk).2.1,(hW1 hk).2.2]) τ;refine bS (hpa) ?_;apply Y;simp only [cX];apply Z;refine zk [3,4,5,6,7] ?_;refine aZ fun _ _ Z=>?_;refine zs 4 fun _ Y=>?_;simp[hg,hg1,hq,hg3,hq3];apply Y;refine aE fun _ Y=>?_;simp[hg,hg1,hq,hg3,hq3];refine bS (r1) ?_;apply Y;simp[hg,hg1,hq,hg3,hq3];apply Z;refine zk [3,4,5,7,9] ?_;refine aZ fun _ _ Z=>?_;refine zs 1 fun _ Y=>?_;simp[hg,hg1,hq,hg3,hq3];apply Y;refine aE fun _ Y=>?_;simp[hg,hg1,hq,hg3,hq3];refine bS (xO (gG f) hvv (by omega) _) ?_;apply Y;simp[hg,hg1,hq,hg3,hq3];apply Z;refine aZ fun _ _ Z=>?_;refine zs 8 fun _ Y=>?_;simp[hg,hg1,hq,hg3,hq3];apply Y;refine aE fun _ Y=>?_;simp[hg,hg1,hq,hg3,hq3];refine bS (Cx x (iX (cC (gG f))) _ (by show(cC (gG f)).classes.length<=_;omega) (by show(cC (gG f)).attrs.length<=_;omega) (by show(cC (gG f)).styles.length<=_;omega) nv9.v.sa) ?_;apply Y;simp[hg,hg1,hq,hg3,hq3];apply Z;apply aF;refine zk [3,4,5,7,9,12] ?_;refine aZ fun _ _ Z=>?_;simp[hg,hg1,hq,hg3,hq3];apply Z;refine zI ?_ ?_<;>intro c9<;>try simp at c9
  .refine mD fun _ _ Z=>?_;simp[hg,hg1,hq,hg3,hq3];apply Z;apply bY;refine aZ fun _ _ Z=>?_;refine zs 1 fun _ Y=>?_;simp[hg,hg1,hq,hg3,hq3];apply Y;refine aE fun _ Y=>?_;simp[hg,hg1,hq,hg3,hq3];refine bS (Ef t1 tb1 _) ?_;apply Y;simp[hg,hg1,hq,hg3,hq3];apply Z;refine zk [3,4,7,12,13] ?_;refine aZ fun _ _ Z=>?_;refine zs 8 fun _ Y=>?_;simp[hg,hg1,hq,hg3,hq3];apply Y;simp[hg,hg1,hq,hg3,hq3];apply Z;refine zk [3,4,7,13,14] ?_;refine aZ fun _ _ Z=>?_;simp[hg,hg1,hq,hg3,hq3];apply Z;apply aF;refine iU ⟨[],[],[],[],[]⟩ fun all hall _ Z=>?_;have ga3:aK all 3=some 111:=hall 3;refine zs 4 fun _ Y=>?_;simp[ga3,hg,hg1,hq,hg3,hq3];apply Y;refine zb 111 ?_ ?_<;>intro g10<;>try simp at g10
   .simp[ga3,hg,hg1,hq,hg3,hq3];apply Z;refine aV (t:=true) (by simp) (fun _=>?_) (fun h=>by cases h);refine zk [3,4,7,13,14,15,16] ?_;refine mD fun _ _ Z=>?_;simp[hg,hg1,hq,hg3,hq3];apply Z;apply bY;apply aF;refine aZ fun _ _ Z=>?_;refine zs 1 fun _ Y=>?_;simp[hg,hg1,hq,hg3,hq3];apply Y;refine aE fun _ Y=>?_;simp[hg,hg1,hq,hg3,hq3];refine bS (iF x _) ?_;apply Y;simp only [cX];apply Z;refine zI ?_ ?_<;>intro c11<;>try simp at c11
    .refine mD fun _ _ Z=>?_;simp[hg,hg1,hq,hg3,hq3];apply Z;apply bY;refine zk [4,7,13,14,15,16] ?_;refine iU ⟨[],[],[],[],[]⟩ fun all hall _ Z=>?_;have ga3:aK all 3=some 121:=hall 3;have ga9:aK all 9=some 127:=hall 9;refine zs 2 fun _ Y=>?_;simp[ga3,ga9,hg,hg1,hq,hg3,hq3];apply Y;refine aE fun _ Y=>?_;simp[ga3,ga9,hg,hg1,hq,hg3,hq3];refine bS (hsm _) ?_;apply Y;refine zs 1 fun _ Y=>?_;simp[ga3,ga9,hg,hg1,hq,hg3,hq3];apply Y;refine zb 121 ?_ ?_<;>intro g12<;>try simp at g12
     refine zs 1 fun _ Y=>?_;simp[ga3,ga9,hg,hg1,hq,hg3,hq3];apply Y;refine zg ga3 fun _ Y=>?_;simp[ga3,ga9,hg,hg1,hq,hg3,hq3];have hbz:=fT hqg;first | rw [aI (by omega)] at hbz | rw [aA (by omega)] at hbz
     refine bS (hbz) ?_;apply Y;refine zs 4 fun _ Y=>?_;simp[ga3,ga9,hg,hg1,hq,hg3,hq3];apply Y;refine zb 127 ?_ ?_<;>intro g13<;>try simp at g13
     refine zs 1 fun _ Y=>?_;simp[ga3,ga9,hg,hg1,hq,hg3,hq3];apply Y;refine zg ga9 fun _ Y=>?_;simp[ga3,ga9,hg,hg1,hq,hg3,hq3];have hgz:=eK hqg;first | rw [aI (by assumption)] at hgz | rw [aA (by simp [*])] at hgz
     refine bS (hgz) ?_;apply Y;simp[ga3,ga9,hg,hg1,hq,hg3,hq3];apply Z;apply aD;simp [aJ]
    apply zA;refine zk [4,7,13,14,15,16] ?_;refine iU ⟨[],[],[],[],[]⟩ fun all hall _ Z=>?_;have ga3:aK all 3=some 121:=hall 3;have ga9:aK all 9=some 127:=hall 9;refine zs 2 fun _ Y=>?_;simp[ga3,ga9,hg,hg1,hq,hg3,hq3];apply Y;refine aE fun _ Y=>?_;simp[ga3,ga9,hg,hg1,hq,hg3,hq3];refine bS (hsm _) ?_;apply Y;refine zs 1 fun _ Y=>?_;simp[ga3,ga9,hg,hg1,hq,hg3,hq3];apply Y;refine zb 121 ?_ ?_<;>intro g14<;>try simp at g14
    refine zs 1 fun _ Y=>?_;simp[ga3,ga9,hg,hg1,hq,hg3,hq3];apply Y;refine zg ga3 fun _ Y=>?_;simp[ga3,ga9,hg,hg1,hq,hg3,hq3];have hbz:=fT hqg;first | rw [aI (by omega)] at hbz | rw [aA (by omega)] at hbz
    refine bS (hbz) ?_;apply Y;refine zs 4 fun _ Y=>?_;simp[ga3,ga9,hg,hg1,hq,hg3,hq3];apply Y;refine zb 127 ?_ ?_<;>intro g15<;>try simp at g15
    refine zs 1 fun _ Y=>?_;simp[ga3,ga9,hg,hg1,hq,hg3,hq3];apply Y;refine zg ga9 fun _ Y=>?_;simp[ga3,ga9,hg,hg1,hq,hg3,hq3];have hgz:=eK hqg;first | rw [aI (by assumption)] at hgz | rw [aA (by simp [*])] at hgz
    refine bS (hgz) ?_;apply Y;simp[ga3,ga9,hg,hg1,hq,hg3,hq3];apply Z;apply aD;simp [aJ]
   simp[ga3,hg,hg1,hq,hg3,hq3];apply Z;refine zI ?_ ?_<;>intro c16<;>try simp at c16
   .refine zk [3,4,7,13,14,15,16] ?_;refine mD fun _ _ Z=>?_;simp[hg,hg1,hq,hg3,hq3];apply Z;apply bY;apply aF;refine aZ fun _ _ Z=>?_;refine zs 1 fun _ Y=>?_;simp[hg,hg1,hq,hg3,hq3];apply Y;refine aE fun _ Y=>?_;simp[hg,hg1,hq,hg3,hq3];refine bS (iF x _) ?_;apply Y;simp only [cX];apply Z;refine zI ?_ ?_<;>intro c17<;>try simp at c17
    .refine mD fun _ _ Z=>?_;simp[hg,hg1,hq,hg3,hq3];apply Z;apply bY;refine zk [4,7,13,14,15,16] ?_;refine iU ⟨[],[],[],[],[]⟩ fun all hall _ Z=>?_;have ga3:aK all 3=some 121:=hall 3;have ga9:aK all 9=some 127:=hall 9;refine zs 2 fun _ Y=>?_;simp[ga3,ga9,hg,hg1,hq,hg3,hq3];apply Y;refine aE fun _ Y=>?_;simp[ga3,ga9,hg,hg1,hq,hg3,hq3];refine bS (hsm _) ?_;apply Y;refine zs 1 fun _ Y=>?_;simp[ga3,ga9,hg,hg1,hq,hg3,hq3];apply Y;refine zb 121 ?_ ?_<;>intro g18<;>try simp at g18
     refine zs 1 fun _ Y=>?_;simp[ga3,ga9,hg,hg1,hq,hg3,hq3];apply Y;refine zg ga3 fun _ Y=>?_;simp[ga3,ga9,hg,hg1,hq,hg3,hq3];have hbz:=fT hqg;first | rw [aI (by omega)] at hbz | rw [aA (by omega)] at hbz
     refine bS (hbz) ?_;apply Y;refine zs 4 fun _ Y=>?_;simp[ga3,ga9,hg,hg1,hq,hg3,hq3];apply Y;refine zb 127 ?_ ?_<;>intro g19<;>try simp at g19
     refine zs 1 fun _ Y=>?_;simp[ga3,ga9,hg,hg1,hq,hg3,hq3];apply Y;refine zg ga9 fun _ Y=>?_;simp[ga3,ga9,hg,hg1,hq,hg3,hq3];have hgz:=eK hqg;first | rw [aI (by assumption)] at hgz | rw [aA (by simp [*])] at hgz
     refine bS (hgz) ?_;apply Y;simp[ga3,ga9,hg,hg1,hq,hg3,hq3];apply Z;apply aD;simp [aJ]
    apply zA;refine zk [4,7,13,14,15,16] ?_;refine iU ⟨[],[],[],[],[]⟩ fun all hall _ Z=>?_;have ga3:aK all 3=some 121:=hall 3;have ga9:aK all 9=some 127:=hall 9;refine zs 2 fun _ Y=>?_;simp[ga3,ga9,hg,hg1,hq,hg3,hq3];apply Y;refine aE fun _ Y=>?_;simp[ga3,ga9,hg,hg1,hq,hg3,hq3];refine bS (hsm _) ?_;apply Y;refine zs 1 fun _ Y=>?_;simp[ga3,ga9,hg,hg1,hq,hg3,hq3];apply Y;refine zb 121 ?_ ?_<;>intro g20<;>try simp at g20
    refine zs 1 fun _ Y=>?_;simp[ga3,ga9,hg,hg1,hq,hg3,hq3];apply Y;refine zg ga3 fun _ Y=>?_;simp[ga3,ga9,hg,hg1,hq,hg3,hq3];have hbz:=fT hqg;first | rw [aI (by omega)] at hbz | rw [aA (by omega)] at hbz
    refine bS (hbz) ?_;apply Y;refine zs 4 fun _ Y=>?_;simp[ga3,ga9,hg,hg1,hq,hg3,hq3];apply Y;refine zb 127 ?_ ?_<;>intro g21<;>try simp at g21
    refine zs 1 fun _ Y=>?_;simp[ga3,ga9,hg,hg1,hq,hg3,hq3];apply Y;refine zg ga9 fun _ Y=>?_;simp[ga3,ga9,hg,hg1,hq,hg3,hq3];have hgz:=eK hqg;first | rw [aI (by assumption)] at hgz | rw [aA (by simp [*])] at hgz
    refine bS (hgz) ?_;apply Y;simp[ga3,ga9,hg,hg1,hq,hg3,hq3];apply Z;apply aD;simp [aJ]
   apply zA;apply aF;refine zk [3,4,7,13,14,15,16] ?_;refine aZ fun _ _ Z=>?_;refine zs 1 fun _ Y=>?_;simp[hg,hg1,hq,hg3,hq3];apply Y;refine aE fun _ Y=>?_;simp[hg,hg1,hq,hg3,hq3];refine bS (iF x _) ?_;apply Y;simp only [cX];apply Z;refine zI ?_ ?_<;>intro c22<;>try simp at c22
   .refine mD fun _ _ Z=>?_;simp[hg,hg1,hq,hg3,hq3];apply Z;apply bY;refine zk [4,7,13,14,15,16] ?_;refine iU ⟨[],[],[],[],[]⟩ fun all hall _ Z=>?_;have ga3:aK all 3=some 121:=hall 3;have ga9:aK all 9=some 127:=hall 9;refine zs 2 fun _ Y=>?_;simp[ga3,ga9,hg,hg1,hq,hg3,hq3];apply Y;refine aE fun _ Y=>?_;simp[ga3,ga9,hg,hg1,hq,hg3,hq3];refine bS (hsm _) ?_;apply Y;refine zs 1 fun _ Y=>?_;simp[ga3,ga9,hg,hg1,hq,hg3,hq3];apply Y;refine zb 121 ?_ ?_<;>intro g23<;>try simp at g23
    refine zs 1 fun _ Y=>?_;simp[ga3,ga9,hg,hg1,hq,hg3,hq3];apply Y;refine zg ga3 fun _ Y=>?_;simp[ga3,ga9,hg,hg1,hq,hg3,hq3];have hbz:=fT hqg;first | rw [aI (by omega)] at hbz | rw [aA (by omega)] at hbz
    refine bS (hbz) ?_;apply Y;refine zs 4 fun _ Y=>?_;simp[ga3,ga9,hg,hg1,hq,hg3,hq3];apply Y;refine zb 127 ?_ ?_<;>intro g24<;>try simp at g24
    refine zs 1 fun _ Y=>?_;simp[ga3,ga9,hg,hg1,hq,hg3,hq3];apply Y;refine zg ga9 fun _ Y=>?_;simp[ga3,ga9,hg,hg1,hq,hg3,hq3];have hgz:=eK hqg;first | rw [aI (by assumption)] at hgz | rw [aA (by simp [*])] at hgz
    refine bS (hgz) ?_;apply Y;simp[ga3,ga9,hg,hg1,hq,hg3,hq3];apply Z;apply aD;simp [aJ]
   apply zA;refine zk [4,7,13,14,15,16] ?_;refine iU ⟨[],[],[],[],[]⟩ fun all hall _ Z=>?_;have ga3:aK all 3=some 121:=hall 3;have ga9:aK all 9=some 127:=hall 9;refine zs 2 fun _ Y=>?_;simp[ga3,ga9,hg,hg1,hq,hg3,hq3];apply Y;refine aE fun _ Y=>?_;simp[ga3,ga9,hg,hg1,hq,hg3,hq3];refine bS (hsm _) ?_;apply Y;refine zs 1 fun _ Y=>?_;simp[ga3,ga9,hg,hg1,hq,hg3,hq3];apply Y;refine zb 121 ?_ ?_<;>intro g25<;>try simp at g25
   refine zs 1 fun _ Y=>?_;simp[ga3,ga9,hg,hg1,hq,hg3,hq3];apply Y;refine zg ga3 fun _ Y=>?_;simp[ga3,ga9,hg,hg1,hq,hg3,hq3];have hbz:=fT hqg;first | rw [aI (by omega)] at hbz | rw [aA (by omega)] at hbz
   refine bS (hbz) ?_;apply Y;refine zs 4 fun _ Y=>?_;simp[ga3,ga9,hg,hg1,hq,hg3,hq3];apply Y;refine zb 127 ?_ ?_<;>intro g26<;>try simp at g26
   refine zs 1 fun _ Y=>?_;simp[ga3,ga9,hg,hg1,hq,hg3,hq3];apply Y;refine zg ga9 fun _ Y=>?_;simp[ga3,ga9,hg,hg1,hq,hg3,hq3];have hgz:=eK hqg;first | rw [aI (by assumption)] at hgz | rw [aA (by simp [*])] at hgz
   refine bS (hgz) ?_;apply Y;simp[ga3,ga9,hg,hg1,hq,hg3,hq3];apply Z;apply aD;simp [aJ]
  exact absurd hk (by assumption)
 refine zs 8 fun _ Y=>?_;simp[ga3,ga11,hg,hg1,hq];and_intros<;>(try omega);apply Y;refine zs 8 fun _ Y=>?_;simp[ga3,ga11,hg,hg1,hq];and_intros<;>(try omega);apply Y;simp[ga3,ga11,hg,hg1,hq];apply Z;refine aV (t:=false) (by simp) (fun h=>by cases h) (fun _=>?_);apply zA;refine zk [3,4,5,6,7] ?_;refine aZ fun _ _ Z=>?_;simp[hg,hg1,hq];apply Z;refine aZ fun _ _ Z=>?_;refine zs 2 fun _ Y=>?_;simp[hg,hg1,hq];apply Y;refine aE fun _ Y=>?_;simp[hg,hg1,hq];obtain⟨o2,τ3,t1,hpa,hg3,hq3,r1,tb1,htk,hW1,hW2⟩:=vS lx1 hoq hql hqf hvv (he1 c3) rfl x (by first | exact fun _=>⟨oX _ g7,oX _ c8⟩ | exact fun e=>absurd e g6);have hqg:=hq3;simp only [itS] at hpa hq3;have nv9:=wC hvv (he1 c3);have z1:=nv9.v.c4;have z2:=nv9.v.a4;have z3:=nv9.v.s4;have hsm:=fun τ=>xR t1 ⟨0,t1.kind,t1.tag,t1.text, [], [], [], []⟩ tb1 (by rw [rC,rC,htk,(hW1 hk).1,(hW1 hk).2.1,(hW1 hk).2.2]) τ;refine bS (hpa) ?_;apply Y;simp only [cX];apply Z;refine zk [3,4,5,6,7] ?_;refine aZ fun _ _ Z=>?_;refine zs 4 fun _ Y=>?_;simp[hg,hg1,hq,hg3,hq3];apply Y;refine aE fun _ Y=>?_;simp[hg,hg1,hq,hg3,hq3];refine bS (r1) ?_;apply Y;simp[hg,hg1,hq,hg3,hq3];apply Z;refine zk [3,4,5,7,9] ?_;refine aZ fun _ _ Z=>?_;refine zs 1 fun _ Y=>?_;simp[hg,hg1,hq,hg3,hq3];apply Y;refine aE fun _ Y=>?_;simp[hg,hg1,hq,hg3,hq3];refine bS (xO (gG f) hvv (by omega) _) ?_;apply Y;simp[hg,hg1,hq,hg3,hq3];apply Z;refine aZ fun _ _ Z=>?_;refine zs 8 fun _ Y=>?_;simp[hg,hg1,hq,hg3,hq3];apply Y;refine aE fun _ Y=>?_;simp[hg,hg1,hq,hg3,hq3];refine bS (Cx x (iX (cC (gG f))) _ (by show(cC (gG f)).classes.length<=_;omega) (by show(cC (gG f)).attrs.length<=_;omega) (by show(cC (gG f)).styles.length<=_;omega) nv9.v.sa) ?_;apply Y;simp[hg,hg1,hq,hg3,hq3];apply Z;apply aF;refine zk [3,4,5,7,9,12] ?_;refine aZ fun _ _ Z=>?_;simp[hg,hg1,hq,hg3,hq3];apply Z;refine zI ?_ ?_<;>intro c27<;>try simp at c27
 .refine mD fun _ _ Z=>?_;simp[hg,hg1,hq,hg3,hq3];apply Z;apply bY;refine aZ fun _ _ Z=>?_;refine zs 1 fun _ Y=>?_;simp[hg,hg1,hq,hg3,hq3];apply Y;refine aE fun _ Y=>?_;simp[hg,hg1,hq,hg3,hq3];refine bS (Ef t1 tb1 _) ?_;apply Y;simp[hg,hg1,hq,hg3,hq3];apply Z;refine zk [3,4,7,12,13] ?_;refine aZ fun _ _ Z=>?_;refine zs 8 fun _ Y=>?_;simp[hg,hg1,hq,hg3,hq3];apply Y;simp[hg,hg1,hq,hg3,hq3];apply Z;refine zk [3,4,7,13,14] ?_;refine aZ fun _ _ Z=>?_;simp[hg,hg1,hq,hg3,hq3];apply Z;apply aF;refine iU ⟨[],[],[],[],[]⟩ fun all hall _ Z=>?_;have ga3:aK all 3=some 111:=hall 3;refine zs 4 fun _ Y=>?_;simp[ga3,hg,hg1,hq,hg3,hq3];apply Y;refine zb 111 ?_ ?_<;>intro g28<;>try simp at g28
  .simp[ga3,hg,hg1,hq,hg3,hq3];apply Z;refine aV (t:=true) (by simp) (fun _=>?_) (fun h=>by cases h);refine zk [3,4,7,13,14,15,16] ?_;refine mD fun _ _ Z=>?_;simp[hg,hg1,hq,hg3,hq3];apply Z;apply bY;apply aF;refine aZ fun _ _ Z=>?_;refine zs 1 fun _ Y=>?_;simp[hg,hg1,hq,hg3,hq3];apply Y;refine aE fun _ Y=>?_;simp[hg,hg1,hq,hg3,hq3];refine bS (iF x _) ?_;apply Y;simp only [cX];apply Z;refine zI ?_ ?_<;>intro c29<;>try simp at c29
   .refine mD fun _ _ Z=>?_;simp[hg,hg1,hq,hg3,hq3];apply Z;apply bY;refine zk [4,7,13,14,15,16] ?_;refine iU ⟨[],[],[],[],[]⟩ fun all hall _ Z=>?_;have ga3:aK all 3=some 121:=hall 3;have ga9:aK all 9=some 127:=hall 9;refine zs 2 fun _ Y=>?_;simp[ga3,ga9,hg,hg1,hq,hg3,hq3];apply Y;refine aE fun _ Y=>?_;simp[ga3,ga9,hg,hg1,hq,hg3,hq3];refine bS (hsm _) ?_;apply Y;refine zs 1 fun _ Y=>?_;simp[ga3,ga9,hg,hg1,hq,hg3,hq3];apply Y;refine zb 121 ?_ ?_<;>intro g30<;>try simp at g30
    refine zs 1 fun _ Y=>?_;simp[ga3,ga9,hg,hg1,hq,hg3,hq3];apply Y;refine zg ga3 fun _ Y=>?_;simp[ga3,ga9,hg,hg1,hq,hg3,hq3];have hbz:=fT hqg;first | rw [aI (by omega)] at hbz | rw [aA (by omega)] at hbz
    refine bS (hbz) ?_;apply Y;refine zs 4 fun _ Y=>?_;simp[ga3,ga9,hg,hg1,hq,hg3,hq3];apply Y;refine zb 127 ?_ ?_<;>intro g31<;>try simp at g31
    refine zs 1 fun _ Y=>?_;simp[ga3,ga9,hg,hg1,hq,hg3,hq3];apply Y;refine zg ga9 fun _ Y=>?_;simp[ga3,ga9,hg,hg1,hq,hg3,hq3];have hgz:=eK hqg;first | rw [aI (by assumption)] at hgz | rw [aA (by simp [*])] at hgz
    refine bS (hgz) ?_;apply Y;simp[ga3,ga9,hg,hg1,hq,hg3,hq3];apply Z;apply aD;simp [aJ]
   apply zA;refine zk [4,7,13,14,15,16] ?_;refine iU ⟨[],[],[],[],[]⟩ fun all hall _ Z=>?_;have ga3:aK all 3=some 121:=hall 3;have ga9:aK all 9=some 127:=hall 9;refine zs 2 fun _ Y=>?_;simp[ga3,ga9,hg,hg1,hq,hg3,hq3];apply Y;refine aE fun _ Y=>?_;simp[ga3,ga9,hg,hg1,hq,hg3,hq3];refine bS (hsm _) ?_;apply Y;refine zs 1 fun _ Y=>?_;simp[ga3,ga9,hg,hg1,hq,hg3,hq3];apply Y;refine zb 121 ?_ ?_<;>intro g32<;>try simp at g32
   refine zs 1 fun _ Y=>?_;simp[ga3,ga9,hg,hg1,hq,hg3,hq3];apply Y;refine zg ga3 fun _ Y=>?_;simp[ga3,ga9,hg,hg1,hq,hg3,hq3];have hbz:=fT hqg;first | rw [aI (by omega)] at hbz | rw [aA (by omega)] at hbz
   refine bS (hbz) ?_;apply Y;refine zs 4 fun _ Y=>?_;simp[ga3,ga9,hg,hg1,hq,hg3,hq3];apply Y;refine zb 127 ?_ ?_<;>intro g33<;>try simp at g33
   refine zs 1 fun _ Y=>?_;simp[ga3,ga9,hg,hg1,hq,hg3,hq3];apply Y;refine zg ga9 fun _ Y=>?_;simp[ga3,ga9,hg,hg1,hq,hg3,hq3];have hgz:=eK hqg;first | rw [aI (by assumption)] at hgz | rw [aA (by simp [*])] at hgz
   refine bS (hgz) ?_;apply Y;simp[ga3,ga9,hg,hg1,hq,hg3,hq3];apply Z;apply aD;simp [aJ]
  simp[ga3,hg,hg1,hq,hg3,hq3];apply Z;refine zI ?_ ?_<;>intro c34<;>try simp at c34
  .refine zk [3,4,7,13,14,15,16] ?_;refine mD fun _ _ Z=>?_;simp[hg,hg1,hq,hg3,hq3];apply Z;apply bY;apply aF;refine aZ fun _ _ Z=>?_;refine zs 1 fun _ Y=>?_;simp[hg,hg1,hq,hg3,hq3];apply Y;refine aE fun _ Y=>?_;simp[hg,hg1,hq,hg3,hq3];refine bS (iF x _) ?_;apply Y;simp only [cX];apply Z;refine zI ?_ ?_<;>intro c35<;>try simp at c35
   .refine mD fun _ _ Z=>?_;simp[hg,hg1,hq,hg3,hq3];apply Z;apply bY;refine zk [4,7,13,14,15,16] ?_;refine iU ⟨[],[],[],[],[]⟩ fun all hall _ Z=>?_;have ga3:aK all 3=some 121:=hall 3;have ga9:aK all 9=some 127:=hall 9;refine zs 2 fun _ Y=>?_;simp[ga3,ga9,hg,hg1,hq,hg3,hq3];apply Y;refine aE fun _ Y=>?_;simp[ga3,ga9,hg,hg1,hq,hg3,hq3];refine bS (hsm _) ?_;apply Y;refine zs 1 fun _ Y=>?_;simp[ga3,ga9,hg,hg1,hq,hg3,hq3];apply Y;refine zb 121 ?_ ?_<;>intro g36<;>try simp at g36
    refine zs 1 fun _ Y=>?_;simp[ga3,ga9,hg,hg1,hq,hg3,hq3];apply Y;refine zg ga3 fun _ Y=>?_;simp[ga3,ga9,hg,hg1,hq,hg3,hq3];have hbz:=fT hqg;first | rw [aI (by omega)] at hbz | rw [aA (by omega)] at hbz
    refine bS (hbz) ?_;apply Y;refine zs 4 fun _ Y=>?_;simp[ga3,ga9,hg,hg1,hq,hg3,hq3];apply Y;refine zb 127 ?_ ?_<;>intro g37<;>try simp at g37
    refine zs 1 fun _ Y=>?_;simp[ga3,ga9,hg,hg1,hq,hg3,hq3];apply Y;refine zg ga9 fun _ Y=>?_;simp[ga3,ga9,hg,hg1,hq,hg3,hq3];have hgz:=eK hqg;first | rw [aI (by assumption)] at hgz | rw [aA (by simp [*])] at hgz
    refine bS (hgz) ?_;apply Y;simp[ga3,ga9,hg,hg1,hq,hg3,hq3];apply Z;apply aD;simp [aJ]
   apply zA;refine zk [4,7,13,14,15,16] ?_;refine iU ⟨[],[],[],[],[]⟩ fun all hall _ Z=>?_;have ga3:aK all 3=some 121:=hall 3;have ga9:aK all 9=some 127:=hall 9;refine zs 2 fun _ Y=>?_;simp[ga3,ga9,hg,hg1,hq,hg3,hq3];apply Y;refine aE fun _ Y=>?_;simp[ga3,ga9,hg,hg1,hq,hg3,hq3];refine bS (hsm _) ?_;apply Y;refine zs 1 fun _ Y=>?_;simp[ga3,ga9,hg,hg1,hq,hg3,hq3];apply Y;refine zb 121 ?_ ?_<;>intro g38<;>try simp at g38
   refine zs 1 fun _ Y=>?_;simp[ga3,ga9,hg,hg1,hq,hg3,hq3];apply Y;refine zg ga3 fun _ Y=>?_;simp[ga3,ga9,hg,hg1,hq,hg3,hq3];have hbz:=fT hqg;first | rw [aI (by omega)] at hbz | rw [aA (by omega)] at hbz
   refine bS (hbz) ?_;apply Y;refine zs 4 fun _ Y=>?_;simp[ga3,ga9,hg,hg1,hq,hg3,hq3];apply Y;refine zb 127 ?_ ?_<;>intro g39<;>try simp at g39
   refine zs 1 fun _ Y=>?_;simp[ga3,ga9,hg,hg1,hq,hg3,hq3];apply Y;refine zg ga9 fun _ Y=>?_;simp[ga3,ga9,hg,hg1,hq,hg3,hq3];have hgz:=eK hqg;first | rw [aI (by assumption)] at hgz | rw [aA (by simp [*])] at hgz
   refine bS (hgz) ?_;apply Y;simp[ga3,ga9,hg,hg1,hq,hg3,hq3];apply Z;apply aD;simp [aJ]
  apply zA;apply aF;refine zk [3,4,7,13,14,15,16] ?_;refine aZ fun _ _ Z=>?_;refine zs 1 fun _ Y=>?_;simp[hg,hg1,hq,hg3,hq3];apply Y;refine aE fun _ Y=>?_;simp[hg,hg1,hq,hg3,hq3];refine bS (iF x _) ?_;apply Y;simp only [cX];apply Z;refine zI ?_ ?_<;>intro c40<;>try simp at c40
  .refine mD fun _ _ Z=>?_;simp[hg,hg1,hq,hg3,hq3];apply Z;apply bY;refine zk [4,7,13,14,15,16] ?_;refine iU ⟨[],[],[],[],[]⟩ fun all hall _ Z=>?_;have ga3:aK all 3=some 121:=hall 3;have ga9:aK all 9=some 127:=hall 9;refine zs 2 fun _ Y=>?_;simp[ga3,ga9,hg,hg1,hq,hg3,hq3];apply Y;refine aE fun _ Y=>?_;simp[ga3,ga9,hg,hg1,hq,hg3,hq3];refine bS (hsm _) ?_;apply Y;refine zs 1 fun _ Y=>?_;simp[ga3,ga9,hg,hg1,hq,hg3,hq3];apply Y;refine zb 121 ?_ ?_<;>intro g41<;>try simp at g41
   refine zs 1 fun _ Y=>?_;simp[ga3,ga9,hg,hg1,hq,hg3,hq3];apply Y;refine zg ga3 fun _ Y=>?_;simp[ga3,ga9,hg,hg1,hq,hg3,hq3];have hbz:=fT hqg;first | rw [aI (by omega)] at hbz | rw [aA (by omega)] at hbz
   refine bS (hbz) ?_;apply Y;refine zs 4 fun _ Y=>?_;simp[ga3,ga9,hg,hg1,hq,hg3,hq3];apply Y;refine zb 127 ?_ ?_<;>intro g42<;>try simp at g42
   refine zs 1 fun _ Y=>?_;simp[ga3,ga9,hg,hg1,hq,hg3,hq3];apply Y;refine zg ga9 fun _ Y=>?_;simp[ga3,ga9,hg,hg1,hq,hg3,hq3];have hgz:=eK hqg;first | rw [aI (by assumption)] at hgz | rw [aA (by simp [*])] at hgz
   refine bS (hgz) ?_;apply Y;simp[ga3,ga9,hg,hg1,hq,hg3,hq3];apply Z;apply aD;simp [aJ]
  apply zA;refine zk [4,7,13,14,15,16] ?_;refine iU ⟨[],[],[],[],[]⟩ fun all hall _ Z=>?_;have ga3:aK all 3=some 121:=hall 3;have ga9:aK all 9=some 127:=hall 9;refine zs 2 fun _ Y=>?_;simp[ga3,ga9,hg,hg1,hq,hg3,hq3];apply Y;refine aE fun _ Y=>?_;simp[ga3,ga9,hg,hg1,hq,hg3,hq3];refine bS (hsm _) ?_;apply Y;refine zs 1 fun _ Y=>?_;simp[ga3,ga9,hg,hg1,hq,hg3,hq3];apply Y;refine zb 121 ?_ ?_<;>intro g43<;>try simp at g43
  refine zs 1 fun _ Y=>?_;simp[ga3,ga9,hg,hg1,hq,hg3,hq3];apply Y;refine zg ga3 fun _ Y=>?_;simp[ga3,ga9,hg,hg1,hq,hg3,hq3];have hbz:=fT hqg;first | rw [aI (by omega)] at hbz | rw [aA (by omega)] at hbz
  refine bS (hbz) ?_;apply Y;refine zs 4 fun _ Y=>?_;simp[ga3,ga9,hg,hg1,hq,hg3,hq3];apply Y;refine zb 127 ?_ ?_<;>intro g44<;>try simp at g44
  refine zs 1 fun _ Y=>?_;simp[ga3,ga9,hg,hg1,hq,hg3,hq3];apply Y;refine zg ga9 fun _ Y=>?_;simp[ga3,ga9,hg,hg1,hq,hg3,hq3];have hgz:=eK hqg;first | rw [aI (by assumption)] at hgz | rw [aA (by simp [*])] at hgz
  refine bS (hgz) ?_;apply Y;simp[ga3,ga9,hg,hg1,hq,hg3,hq3];apply Z;apply aD;simp [aJ]
 exact absurd hk (by assumption)
theorem Ya(f:FL)(x:LK)(σ:List (List D))(hf:FO f)(hk:¬(gG f).kind=1):Ct prog 6 [Rk f,Ao x] σ (fun r σ'=>r= .bool true):=by
 refine zf func6 ?_;have hvv:=aJn f;have hcv:=aCi f;refine aZ fun _ _ Z=>?_;simp;apply Z;apply aF;refine aZ fun _ _ Z=>?_;refine aE fun _ Y=>?_;simp;refine Qa (Kj _) ?_;rintro _ σ1 hr9;subst hr9;apply Y;simp;apply Z;refine zI ?_ ?_<;>intro c1<;>try simp at c1
 apply zA;refine aZ fun _ _ Z=>?_;refine zs 2 fun _ Y=>?_;simp;and_intros<;>(try omega);apply Y;refine aE fun _ Y=>?_;simp;refine bS (Xl f _ hf) ?_;apply Y;simp;apply Z;refine aZ fun _ _ Z=>?_;refine aE fun _ Y=>?_;simp;refine Qa (Ga 9 _) ?_;rintro _ τ0 ⟨m,M,l,d,rk,hr9,hx⟩;subst hr9;have hg:=hx.at_;apply Y;simp[hg];apply Z;apply aF;refine aZ fun _ _ Z=>?_;simp[hg];apply Z;refine zI ?_ ?_<;>intro c2<;>try simp at c2
 apply zA;apply aF;refine zk [3,4,5,6] ?_;refine aZ fun _ _ Z=>?_;refine zs 1 fun _ Y=>?_;simp[hg];apply Y;refine aE fun _ Y=>?_;simp[hg];refine Qa (Oy (gG f) 1 1 _ hvv (by omega)) ?_;rintro _ _ ⟨⟨e1,hr9,he1⟩,hs9⟩;subst hr9;subst hs9;apply Y;simp[hg];apply Z;refine zI ?_ ?_<;>intro c3<;>try simp at c3
 .refine aZ fun _ _ Z=>?_;simp[hg];apply Z;apply aD;simp [aJ]
 apply zA;refine aZ fun _ _ Z=>?_;refine zs 2 fun _ Y=>?_;simp[hg];apply Y;refine aE fun _ Y=>?_;simp[hg];refine bS (Tj (gG f) hvv (by omega) _) ?_;apply Y;refine aE fun _ Y=>?_;simp[hg];obtain⟨q,d1,rk1,o1,τ1,hmk,lx1,hoq,hql,hq⟩:=Ox hx hvv (he1 c3) rfl;have hg1:=lx1.at_;have hqf:=hq;simp only [lD] at hq;refine bS (hmk) ?_;apply Y;simp[hg,hg1,hq];apply Z;apply aF;refine zk [3,4,5,6,7,8] ?_;refine iU ⟨[],[],[],[],[]⟩ fun all hall _ Z=>?_;have ga2:aK all 2=some 37:=hall 2;refine zs 3 fun _ Y=>?_;simp[ga2,hg,hg1,hq];apply Y;refine zb 37 ?_ ?_<;>intro g4<;>try simp at g4
 simp[ga2,hg,hg1,hq];apply Z;refine zI ?_ ?_<;>intro c5<;>try simp at c5
 apply zA;apply aF;refine zk [3,4,5,6,7] ?_;refine iU ⟨[],[],[],[],[]⟩ fun all hall _ Z=>?_;have ga3:aK all 3=some 44:=hall 3;have ga11:aK all 11=some 52:=hall 11;refine zs 4 fun _ Y=>?_;simp[ga3,ga11,hg,hg1,hq];apply Y;refine zb 44 ?_ ?_<;>intro g6<;>try simp at g6
 .refine zs 8 fun _ Y=>?_;simp[ga3,ga11,hg,hg1,hq];and_intros<;>(try omega);apply Y;refine zb 52 ?_ ?_<;>intro g7<;>try simp at g7
  .refine zs 8 fun _ Y=>?_;simp[ga3,ga11,hg,hg1,hq];apply Y;simp[ga3,ga11,hg,hg1,hq];apply Z;refine aV (t:=true) (by simp) (fun _=>?_) (fun h=>by cases h);refine zk [3,4,5,6,7] ?_;refine aZ fun _ _ Z=>?_;simp[hg,hg1,hq];apply Z;apply aD;simp [aJ]
  refine zs 8 fun _ Y=>?_;simp[ga3,ga11,hg,hg1,hq];and_intros<;>(try omega);apply Y;simp[ga3,ga11,hg,hg1,hq];apply Z;refine zI ?_ ?_<;>intro c8<;>try simp at c8
  .refine zk [3,4,5,6,7] ?_;refine aZ fun _ _ Z=>?_;simp[hg,hg1,hq];apply Z;apply aD;simp [aJ]
  apply zA;refine zk [3,4,5,6,7] ?_;refine aZ fun _ _ Z=>?_;simp[hg,hg1,hq];apply Z;refine aZ fun _ _ Z=>?_;refine zs 2 fun _ Y=>?_;simp[hg,hg1,hq];apply Y;refine aE fun _ Y=>?_;simp[hg,hg1,hq];obtain⟨o2,τ3,t1,hpa,hg3,hq3,r1,tb1,htk,hW1,hW2⟩:=vS lx1 hoq hql hqf hvv (he1 c3) rfl x (by first | exact fun _=>⟨oX _ g7,oX _ c8⟩ | exact fun e=>absurd e g6);have hqg:=hq3;simp only [itS] at hpa hq3;have nv9:=wC hvv (he1 c3);have z1:=nv9.v.c4;have z2:=nv9.v.a4;have z3:=nv9.v.s4;have hsm:=fun τ=>xR t1 ⟨0,t1.kind,t1.tag,t1.text,(jX x (iX (cC (gG f)))).classes,(jX x (iX (cC (gG f)))).attrs,(jX x (iX (cC (gG f)))).styles, []⟩ tb1 (by rw [rC,rC,htk,(hW2 hk).1,(hW2 hk).2.1,(hW2 hk).2.2]) τ;refine bS (hpa) ?_;apply Y;simp only [cX];apply Z;refine zk [3,4,5,6,7] ?_;refine aZ fun _ _ Z=>?_;refine zs 4 fun _ Y=>?_;simp[hg,hg1,hq,hg3,hq3];apply Y;refine aE fun _ Y=>?_;simp[hg,hg1,hq,hg3,hq3];refine bS (r1) ?_;apply Y;simp[hg,hg1,hq,hg3,hq3];apply Z;refine zk [3,4,5,7,9] ?_;refine aZ fun _ _ Z=>?_;refine zs 1 fun _ Y=>?_;simp[hg,hg1,hq,hg3,hq3];apply Y;refine aE fun _ Y=>?_;simp[hg,hg1,hq,hg3,hq3];refine bS (xO (gG f) hvv (by omega) _) ?_;apply Y;simp[hg,hg1,hq,hg3,hq3];apply Z;refine aZ fun _ _ Z=>?_;refine zs 8 fun _ Y=>?_;simp[hg,hg1,hq,hg3,hq3];apply Y;refine aE fun _ Y=>?_;simp[hg,hg1,hq,hg3,hq3];refine bS (Cx x (iX (cC (gG f))) _ (by show(cC (gG f)).classes.length<=_;omega) (by show(cC (gG f)).attrs.length<=_;omega) (by show(cC (gG f)).styles.length<=_;omega) nv9.v.sa) ?_;apply Y;simp[hg,hg1,hq,hg3,hq3];apply Z;apply aF;refine zk [3,4,5,7,9,12] ?_;refine aZ fun _ _ Z=>?_;simp[hg,hg1,hq,hg3,hq3];apply Z;refine zI ?_ ?_<;>intro c9<;>try simp at c9
  .exact absurd (by assumption) hk
  apply zA;refine aZ fun _ _ Z=>?_;refine zs 1 fun _ Y=>?_;simp[hg,hg1,hq,hg3,hq3];apply Y;refine aE fun _ Y=>?_;simp[hg,hg1,hq,hg3,hq3];refine bS (Ef t1 tb1 _) ?_;apply Y;simp[hg,hg1,hq,hg3,hq3];apply Z;refine zk [3,4,7,12,13] ?_;refine aZ fun _ _ Z=>?_;refine zs 8 fun _ Y=>?_;simp[hg,hg1,hq,hg3,hq3];apply Y;simp[hg,hg1,hq,hg3,hq3];apply Z;refine zk [3,4,7,13,14] ?_;refine aZ fun _ _ Z=>?_;simp[hg,hg1,hq,hg3,hq3];apply Z;apply aF;refine iU ⟨[],[],[],[],[]⟩ fun all hall _ Z=>?_;have ga3:aK all 3=some 111:=hall 3;refine zs 4 fun _ Y=>?_;simp[ga3,hg,hg1,hq,hg3,hq3];apply Y;refine zb 111 ?_ ?_<;>intro g10<;>try simp at g10
  .simp[ga3,hg,hg1,hq,hg3,hq3];apply Z;refine aV (t:=true) (by simp) (fun _=>?_) (fun h=>by cases h);refine zk [3,4,7,13,14,15,16] ?_;refine mD fun _ _ Z=>?_;simp[hg,hg1,hq,hg3,hq3];apply Z;apply bY;apply aF;refine aZ fun _ _ Z=>?_;refine zs 1 fun _ Y=>?_;simp[hg,hg1,hq,hg3,hq3];apply Y;refine aE fun _ Y=>?_;simp[hg,hg1,hq,hg3,hq3];refine bS (iF x _) ?_;apply Y;simp only [cX];apply Z;refine zI ?_ ?_<;>intro c11<;>try simp at c11
   .refine mD fun _ _ Z=>?_;simp[hg,hg1,hq,hg3,hq3];apply Z;apply bY;refine zk [4,7,13,14,15,16] ?_;refine iU ⟨[],[],[],[],[]⟩ fun all hall _ Z=>?_;have ga3:aK all 3=some 121:=hall 3;have ga9:aK all 9=some 127:=hall 9;refine zs 2 fun _ Y=>?_;simp[ga3,ga9,hg,hg1,hq,hg3,hq3];apply Y;refine aE fun _ Y=>?_;simp[ga3,ga9,hg,hg1,hq,hg3,hq3];refine bS (hsm _) ?_;apply Y;refine zs 1 fun _ Y=>?_;simp[ga3,ga9,hg,hg1,hq,hg3,hq3];apply Y;refine zb 121 ?_ ?_<;>intro g12<;>try simp at g12
    refine zs 1 fun _ Y=>?_;simp[ga3,ga9,hg,hg1,hq,hg3,hq3];apply Y;refine zg ga3 fun _ Y=>?_;simp[ga3,ga9,hg,hg1,hq,hg3,hq3];have hbz:=fT hqg;first | rw [aI (by omega)] at hbz | rw [aA (by omega)] at hbz
    refine bS (hbz) ?_;apply Y;refine zs 4 fun _ Y=>?_;simp[ga3,ga9,hg,hg1,hq,hg3,hq3];apply Y;refine zb 127 ?_ ?_<;>intro g13<;>try simp at g13
    refine zs 1 fun _ Y=>?_;simp[ga3,ga9,hg,hg1,hq,hg3,hq3];apply Y;refine zg ga9 fun _ Y=>?_;simp[ga3,ga9,hg,hg1,hq,hg3,hq3];have hgz:=eK hqg;first | rw [aI (by assumption)] at hgz | rw [aA (by simp [*])] at hgz
    refine bS (hgz) ?_;apply Y;simp[ga3,ga9,hg,hg1,hq,hg3,hq3];apply Z;apply aD;simp [aJ]
   apply zA;refine zk [4,7,13,14,15,16] ?_;refine iU ⟨[],[],[],[],[]⟩ fun all hall _ Z=>?_;have ga3:aK all 3=some 121:=hall 3;have ga9:aK all 9=some 127:=hall 9;refine zs 2 fun _ Y=>?_;simp[ga3,ga9,hg,hg1,hq,hg3,hq3];apply Y;refine aE fun _ Y=>?_;simp[ga3,ga9,hg,hg1,hq,hg3,hq3];refine bS (hsm _) ?_;apply Y;refine zs 1 fun _ Y=>?_;simp[ga3,ga9,hg,hg1,hq,hg3,hq3];apply Y;refine zb 121 ?_ ?_<;>intro g14<;>try simp at g14
   refine zs 1 fun _ Y=>?_;simp[ga3,ga9,hg,hg1,hq,hg3,hq3];apply Y;refine zg ga3 fun _ Y=>?_;simp[ga3,ga9,hg,hg1,hq,hg3,hq3];have hbz:=fT hqg;first | rw [aI (by omega)] at hbz | rw [aA (by omega)] at hbz
   refine bS (hbz) ?_;apply Y;refine zs 4 fun _ Y=>?_;simp[ga3,ga9,hg,hg1,hq,hg3,hq3];apply Y;refine zb 127 ?_ ?_<;>intro g15<;>try simp at g15
   refine zs 1 fun _ Y=>?_;simp[ga3,ga9,hg,hg1,hq,hg3,hq3];apply Y;refine zg ga9 fun _ Y=>?_;simp[ga3,ga9,hg,hg1,hq,hg3,hq3];have hgz:=eK hqg;first | rw [aI (by assumption)] at hgz | rw [aA (by simp [*])] at hgz
   refine bS (hgz) ?_;apply Y;simp[ga3,ga9,hg,hg1,hq,hg3,hq3];apply Z;apply aD;simp [aJ]
  simp[ga3,hg,hg1,hq,hg3,hq3];apply Z;refine zI ?_ ?_<;>intro c16<;>try simp at c16
  .refine zk [3,4,7,13,14,15,16] ?_;refine mD fun _ _ Z=>?_;simp[hg,hg1,hq,hg3,hq3];apply Z;apply bY;apply aF;refine aZ fun _ _ Z=>?_;refine zs 1 fun _ Y=>?_;simp[hg,hg1,hq,hg3,hq3];apply Y;refine aE fun _ Y=>?_;simp[hg,hg1,hq,hg3,hq3];refine bS (iF x _) ?_;apply Y;simp only [cX];apply Z;refine zI ?_ ?_<;>intro c17<;>try simp at c17
   .refine mD fun _ _ Z=>?_;simp[hg,hg1,hq,hg3,hq3];apply Z;apply bY;refine zk [4,7,13,14,15,16] ?_;refine iU ⟨[],[],[],[],[]⟩ fun all hall _ Z=>?_;have ga3:aK all 3=some 121:=hall 3;have ga9:aK all 9=some 127:=hall 9;refine zs 2 fun _ Y=>?_;simp[ga3,ga9,hg,hg1,hq,hg3,hq3];apply Y;refine aE fun _ Y=>?_;simp[ga3,ga9,hg,hg1,hq,hg3,hq3];refine bS (hsm _) ?_;apply Y;refine zs 1 fun _ Y=>?_;simp[ga3,ga9,hg,hg1,hq,hg3,hq3];apply Y;refine zb 121 ?_ ?_<;>intro g18<;>try simp at g18
    refine zs 1 fun _ Y=>?_;simp[ga3,ga9,hg,hg1,hq,hg3,hq3];apply Y;refine zg ga3 fun _ Y=>?_;simp[ga3,ga9,hg,hg1,hq,hg3,hq3];have hbz:=fT hqg;first | rw [aI (by omega)] at hbz | rw [aA (by omega)] at hbz
    refine bS (hbz) ?_;apply Y;refine zs 4 fun _ Y=>?_;simp[ga3,ga9,hg,hg1,hq,hg3,hq3];apply Y;refine zb 127 ?_ ?_<;>intro g19<;>try simp at g19
    refine zs 1 fun _ Y=>?_;simp[ga3,ga9,hg,hg1,hq,hg3,hq3];apply Y;refine zg ga9 fun _ Y=>?_;simp[ga3,ga9,hg,hg1,hq,hg3,hq3];have hgz:=eK hqg;first | rw [aI (by assumption)] at hgz | rw [aA (by simp [*])] at hgz
    refine bS (hgz) ?_;apply Y;simp[ga3,ga9,hg,hg1,hq,hg3,hq3];apply Z;apply aD;simp [aJ]
   apply zA;refine zk [4,7,13,14,15,16] ?_;refine iU ⟨[],[],[],[],[]⟩ fun all hall _ Z=>?_;have ga3:aK all 3=some 121:=hall 3;have ga9:aK all 9=some 127:=hall 9;refine zs 2 fun _ Y=>?_;simp[ga3,ga9,hg,hg1,hq,hg3,hq3];apply Y;refine aE fun _ Y=>?_;simp[ga3,ga9,hg,hg1,hq,hg3,hq3];refine bS (hsm _) ?_;apply Y;refine zs 1 fun _ Y=>?_;simp[ga3,ga9,hg,hg1,hq,hg3,hq3];apply Y;refine zb 121 ?_ ?_<;>intro g20<;>try simp at g20
   refine zs 1 fun _ Y=>?_;simp[ga3,ga9,hg,hg1,hq,hg3,hq3];apply Y;refine zg ga3 fun _ Y=>?_;simp[ga3,ga9,hg,hg1,hq,hg3,hq3];have hbz:=fT hqg;first | rw [aI (by omega)] at hbz | rw [aA (by omega)] at hbz
   refine bS (hbz) ?_;apply Y;refine zs 4 fun _ Y=>?_;simp[ga3,ga9,hg,hg1,hq,hg3,hq3];apply Y;refine zb 127 ?_ ?_<;>intro g21<;>try simp at g21
   refine zs 1 fun _ Y=>?_;simp[ga3,ga9,hg,hg1,hq,hg3,hq3];apply Y;refine zg ga9 fun _ Y=>?_;simp[ga3,ga9,hg,hg1,hq,hg3,hq3];have hgz:=eK hqg;first | rw [aI (by assumption)] at hgz | rw [aA (by simp [*])] at hgz
   refine bS (hgz) ?_;apply Y;simp[ga3,ga9,hg,hg1,hq,hg3,hq3];apply Z;apply aD;simp [aJ]
  apply zA;apply aF;refine zk [3,4,7,13,14,15,16] ?_;refine aZ fun _ _ Z=>?_;refine zs 1 fun _ Y=>?_;simp[hg,hg1,hq,hg3,hq3];apply Y;refine aE fun _ Y=>?_;simp[hg,hg1,hq,hg3,hq3];refine bS (iF x _) ?_;apply Y;simp only [cX];apply Z;refine zI ?_ ?_<;>intro c22<;>try simp at c22
  .refine mD fun _ _ Z=>?_;simp[hg,hg1,hq,hg3,hq3];apply Z;apply bY;refine zk [4,7,13,14,15,16] ?_;refine iU ⟨[],[],[],[],[]⟩ fun all hall _ Z=>?_;have ga3:aK all 3=some 121:=hall 3;have ga9:aK all 9=some 127:=hall 9;refine zs 2 fun _ Y=>?_;simp[ga3,ga9,hg,hg1,hq,hg3,hq3];apply Y;refine aE fun _ Y=>?_;simp[ga3,ga9,hg,hg1,hq,hg3,hq3];refine bS (hsm _) ?_;apply Y;refine zs 1 fun _ Y=>?_;simp[ga3,ga9,hg,hg1,hq,hg3,hq3];apply Y;refine zb 121 ?_ ?_<;>intro g23<;>try simp at g23
   refine zs 1 fun _ Y=>?_;simp[ga3,ga9,hg,hg1,hq,hg3,hq3];apply Y;refine zg ga3 fun _ Y=>?_;simp[ga3,ga9,hg,hg1,hq,hg3,hq3];have hbz:=fT hqg;first | rw [aI (by omega)] at hbz | rw [aA (by omega)] at hbz
   refine bS (hbz) ?_;apply Y;refine zs 4 fun _ Y=>?_;simp[ga3,ga9,hg,hg1,hq,hg3,hq3];apply Y;refine zb 127 ?_ ?_<;>intro g24<;>try simp at g24
   refine zs 1 fun _ Y=>?_;simp[ga3,ga9,hg,hg1,hq,hg3,hq3];apply Y;refine zg ga9 fun _ Y=>?_;simp[ga3,ga9,hg,hg1,hq,hg3,hq3];have hgz:=eK hqg;first | rw [aI (by assumption)] at hgz | rw [aA (by simp [*])] at hgz
   refine bS (hgz) ?_;apply Y;simp[ga3,ga9,hg,hg1,hq,hg3,hq3];apply Z;apply aD;simp [aJ]
  apply zA;refine zk [4,7,13,14,15,16] ?_;refine iU ⟨[],[],[],[],[]⟩ fun all hall _ Z=>?_;have ga3:aK all 3=some 121:=hall 3;have ga9:aK all 9=some 127:=hall 9;refine zs 2 fun _ Y=>?_;simp[ga3,ga9,hg,hg1,hq,hg3,hq3];apply Y;refine aE fun _ Y=>?_;simp[ga3,ga9,hg,hg1,hq,hg3,hq3];refine bS (hsm _) ?_;apply Y;refine zs 1 fun _ Y=>?_;simp[ga3,ga9,hg,hg1,hq,hg3,hq3];apply Y;refine zb 121 ?_ ?_<;>intro g25<;>try simp at g25
  refine zs 1 fun _ Y=>?_;simp[ga3,ga9,hg,hg1,hq,hg3,hq3];apply Y;refine zg ga3 fun _ Y=>?_;simp[ga3,ga9,hg,hg1,hq,hg3,hq3];have hbz:=fT hqg;first | rw [aI (by omega)] at hbz | rw [aA (by omega)] at hbz
  refine bS (hbz) ?_;apply Y;refine zs 4 fun _ Y=>?_;simp[ga3,ga9,hg,hg1,hq,hg3,hq3];apply Y;refine zb 127 ?_ ?_<;>intro g26<;>try simp at g26
  refine zs 1 fun _ Y=>?_;simp[ga3,ga9,hg,hg1,hq,hg3,hq3];apply Y;refine zg ga9 fun _ Y=>?_;simp[ga3,ga9,hg,hg1,hq,hg3,hq3];have hgz:=eK hqg;first | rw [aI (by assumption)] at hgz | rw [aA (by simp [*])] at hgz
  refine bS (hgz) ?_;apply Y;simp[ga3,ga9,hg,hg1,hq,hg3,hq3];apply Z;apply aD;simp [aJ]
 refine zs 8 fun _ Y=>?_;simp[ga3,ga11,hg,hg1,hq];and_intros<;>(try omega);apply Y;refine zs 8 fun _ Y=>?_;simp[ga3,ga11,hg,hg1,hq];and_intros<;>(try omega);apply Y;simp[ga3,ga11,hg,hg1,hq];apply Z;refine aV (t:=false) (by simp) (fun h=>by cases h) (fun _=>?_);apply zA;refine zk [3,4,5,6,7] ?_;refine aZ fun _ _ Z=>?_;simp[hg,hg1,hq];apply Z;refine aZ fun _ _ Z=>?_;refine zs 2 fun _ Y=>?_;simp[hg,hg1,hq];apply Y;refine aE fun _ Y=>?_;simp[hg,hg1,hq];obtain⟨o2,τ3,t1,hpa,hg3,hq3,r1,tb1,htk,hW1,hW2⟩:=vS lx1 hoq hql hqf hvv (he1 c3) rfl x (by first | exact fun _=>⟨oX _ g7,oX _ c8⟩ | exact fun e=>absurd e g6);have hqg:=hq3;simp only [itS] at hpa hq3;have nv9:=wC hvv (he1 c3);have z1:=nv9.v.c4;have z2:=nv9.v.a4;have z3:=nv9.v.s4;have hsm:=fun τ=>xR t1 ⟨0,t1.kind,t1.tag,t1.text,(jX x (iX (cC (gG f)))).classes,(jX x (iX (cC (gG f)))).attrs,(jX x (iX (cC (gG f)))).styles, []⟩ tb1 (by rw [rC,rC,htk,(hW2 hk).1,(hW2 hk).2.1,(hW2 hk).2.2]) τ;refine bS (hpa) ?_;apply Y;simp only [cX];apply Z;refine zk [3,4,5,6,7] ?_;refine aZ fun _ _ Z=>?_;refine zs 4 fun _ Y=>?_;simp[hg,hg1,hq,hg3,hq3];apply Y;refine aE fun _ Y=>?_;simp[hg,hg1,hq,hg3,hq3];refine bS (r1) ?_;apply Y;simp[hg,hg1,hq,hg3,hq3];apply Z;refine zk [3,4,5,7,9] ?_;refine aZ fun _ _ Z=>?_;refine zs 1 fun _ Y=>?_;simp[hg,hg1,hq,hg3,hq3];apply Y;refine aE fun _ Y=>?_;simp[hg,hg1,hq,hg3,hq3];refine bS (xO (gG f) hvv (by omega) _) ?_;apply Y;simp[hg,hg1,hq,hg3,hq3];apply Z;refine aZ fun _ _ Z=>?_;refine zs 8 fun _ Y=>?_;simp[hg,hg1,hq,hg3,hq3];apply Y;refine aE fun _ Y=>?_;simp[hg,hg1,hq,hg3,hq3];refine bS (Cx x (iX (cC (gG f))) _ (by show(cC (gG f)).classes.length<=_;omega) (by show(cC (gG f)).attrs.length<=_;omega) (by show(cC (gG f)).styles.length<=_;omega) nv9.v.sa) ?_;apply Y;simp[hg,hg1,hq,hg3,hq3];apply Z;apply aF;refine zk [3,4,5,7,9,12] ?_;refine aZ fun _ _ Z=>?_;simp[hg,hg1,hq,hg3,hq3];apply Z;refine zI ?_ ?_<;>intro c27<;>try simp at c27
 .exact absurd (by assumption) hk
 apply zA;refine aZ fun _ _ Z=>?_;refine zs 1 fun _ Y=>?_;simp[hg,hg1,hq,hg3,hq3];apply Y;refine aE fun _ Y=>?_;simp[hg,hg1,hq,hg3,hq3];refine bS (Ef t1 tb1 _) ?_;apply Y;simp[hg,hg1,hq,hg3,hq3];apply Z;refine zk [3,4,7,12,13] ?_;refine aZ fun _ _ Z=>?_;refine zs 8 fun _ Y=>?_;simp[hg,hg1,hq,hg3,hq3];apply Y;simp[hg,hg1,hq,hg3,hq3];apply Z;refine zk [3,4,7,13,14] ?_;refine aZ fun _ _ Z=>?_;simp[hg,hg1,hq,hg3,hq3];apply Z;apply aF;refine iU ⟨[],[],[],[],[]⟩ fun all hall _ Z=>?_;have ga3:aK all 3=some 111:=hall 3;refine zs 4 fun _ Y=>?_;simp[ga3,hg,hg1,hq,hg3,hq3];apply Y;refine zb 111 ?_ ?_<;>intro g28<;>try simp at g28
 .simp[ga3,hg,hg1,hq,hg3,hq3];apply Z;refine aV (t:=true) (by simp) (fun _=>?_) (fun h=>by cases h);refine zk [3,4,7,13,14,15,16] ?_;refine mD fun _ _ Z=>?_;simp[hg,hg1,hq,hg3,hq3];apply Z;apply bY;apply aF;refine aZ fun _ _ Z=>?_;refine zs 1 fun _ Y=>?_;simp[hg,hg1,hq,hg3,hq3];apply Y;refine aE fun _ Y=>?_;simp[hg,hg1,hq,hg3,hq3];refine bS (iF x _) ?_;apply Y;simp only [cX];apply Z;refine zI ?_ ?_<;>intro c29<;>try simp at c29
  .refine mD fun _ _ Z=>?_;simp[hg,hg1,hq,hg3,hq3];apply Z;apply bY;refine zk [4,7,13,14,15,16] ?_;refine iU ⟨[],[],[],[],[]⟩ fun all hall _ Z=>?_;have ga3:aK all 3=some 121:=hall 3;have ga9:aK all 9=some 127:=hall 9;refine zs 2 fun _ Y=>?_;simp[ga3,ga9,hg,hg1,hq,hg3,hq3];apply Y;refine aE fun _ Y=>?_;simp[ga3,ga9,hg,hg1,hq,hg3,hq3];refine bS (hsm _) ?_;apply Y;refine zs 1 fun _ Y=>?_;simp[ga3,ga9,hg,hg1,hq,hg3,hq3];apply Y;refine zb 121 ?_ ?_<;>intro g30<;>try simp at g30
   refine zs 1 fun _ Y=>?_;simp[ga3,ga9,hg,hg1,hq,hg3,hq3];apply Y;refine zg ga3 fun _ Y=>?_;simp[ga3,ga9,hg,hg1,hq,hg3,hq3];have hbz:=fT hqg;first | rw [aI (by omega)] at hbz | rw [aA (by omega)] at hbz
   refine bS (hbz) ?_;apply Y;refine zs 4 fun _ Y=>?_;simp[ga3,ga9,hg,hg1,hq,hg3,hq3];apply Y;refine zb 127 ?_ ?_<;>intro g31<;>try simp at g31
   refine zs 1 fun _ Y=>?_;simp[ga3,ga9,hg,hg1,hq,hg3,hq3];apply Y;refine zg ga9 fun _ Y=>?_;simp[ga3,ga9,hg,hg1,hq,hg3,hq3];have hgz:=eK hqg;first | rw [aI (by assumption)] at hgz | rw [aA (by simp [*])] at hgz
   refine bS (hgz) ?_;apply Y;simp[ga3,ga9,hg,hg1,hq,hg3,hq3];apply Z;apply aD;simp [aJ]
  apply zA;refine zk [4,7,13,14,15,16] ?_;refine iU ⟨[],[],[],[],[]⟩ fun all hall _ Z=>?_;have ga3:aK all 3=some 121:=hall 3;have ga9:aK all 9=some 127:=hall 9;refine zs 2 fun _ Y=>?_;simp[ga3,ga9,hg,hg1,hq,hg3,hq3];apply Y;refine aE fun _ Y=>?_;simp[ga3,ga9,hg,hg1,hq,hg3,hq3];refine bS (hsm _) ?_;apply Y;refine zs 1 fun _ Y=>?_;simp[ga3,ga9,hg,hg1,hq,hg3,hq3];apply Y;refine zb 121 ?_ ?_<;>intro g32<;>try simp at g32
  refine zs 1 fun _ Y=>?_;simp[ga3,ga9,hg,hg1,hq,hg3,hq3];apply Y;refine zg ga3 fun _ Y=>?_;simp[ga3,ga9,hg,hg1,hq,hg3,hq3];have hbz:=fT hqg;first | rw [aI (by omega)] at hbz | rw [aA (by omega)] at hbz
  refine bS (hbz) ?_;apply Y;refine zs 4 fun _ Y=>?_;simp[ga3,ga9,hg,hg1,hq,hg3,hq3];apply Y;refine zb 127 ?_ ?_<;>intro g33<;>try simp at g33
  refine zs 1 fun _ Y=>?_;simp[ga3,ga9,hg,hg1,hq,hg3,hq3];apply Y;refine zg ga9 fun _ Y=>?_;simp[ga3,ga9,hg,hg1,hq,hg3,hq3];have hgz:=eK hqg;first | rw [aI (by assumption)] at hgz | rw [aA (by simp [*])] at hgz
  refine bS (hgz) ?_;apply Y;simp[ga3,ga9,hg,hg1,hq,hg3,hq3];apply Z;apply aD;simp [aJ]
 simp[ga3,hg,hg1,hq,hg3,hq3];apply Z;refine zI ?_ ?_<;>intro c34<;>try simp at c34
 .refine zk [3,4,7,13,14,15,16] ?_;refine mD fun _ _ Z=>?_;simp[hg,hg1,hq,hg3,hq3];apply Z;apply bY;apply aF;refine aZ fun _ _ Z=>?_;refine zs 1 fun _ Y=>?_;simp[hg,hg1,hq,hg3,hq3];apply Y;refine aE fun _ Y=>?_;simp[hg,hg1,hq,hg3,hq3];refine bS (iF x _) ?_;apply Y;simp only [cX];apply Z;refine zI ?_ ?_<;>intro c35<;>try simp at c35
  .refine mD fun _ _ Z=>?_;simp[hg,hg1,hq,hg3,hq3];apply Z;apply bY;refine zk [4,7,13,14,15,16] ?_;refine iU ⟨[],[],[],[],[]⟩ fun all hall _ Z=>?_;have ga3:aK all 3=some 121:=hall 3;have ga9:aK all 9=some 127:=hall 9;refine zs 2 fun _ Y=>?_;simp[ga3,ga9,hg,hg1,hq,hg3,hq3];apply Y;refine aE fun _ Y=>?_;simp[ga3,ga9,hg,hg1,hq,hg3,hq3];refine bS (hsm _) ?_;apply Y;refine zs 1 fun _ Y=>?_;simp[ga3,ga9,hg,hg1,hq,hg3,hq3];apply Y;refine zb 121 ?_ ?_<;>intro g36<;>try simp at g36
   refine zs 1 fun _ Y=>?_;simp[ga3,ga9,hg,hg1,hq,hg3,hq3];apply Y;refine zg ga3 fun _ Y=>?_;simp[ga3,ga9,hg,hg1,hq,hg3,hq3];have hbz:=fT hqg;first | rw [aI (by omega)] at hbz | rw [aA (by omega)] at hbz
   refine bS (hbz) ?_;apply Y;refine zs 4 fun _ Y=>?_;simp[ga3,ga9,hg,hg1,hq,hg3,hq3];apply Y;refine zb 127 ?_ ?_<;>intro g37<;>try simp at g37
   refine zs 1 fun _ Y=>?_;simp[ga3,ga9,hg,hg1,hq,hg3,hq3];apply Y;refine zg ga9 fun _ Y=>?_;simp[ga3,ga9,hg,hg1,hq,hg3,hq3];have hgz:=eK hqg;first | rw [aI (by assumption)] at hgz | rw [aA (by simp [*])] at hgz
   refine bS (hgz) ?_;apply Y;simp[ga3,ga9,hg,hg1,hq,hg3,hq3];apply Z;apply aD;simp [aJ]
  apply zA;refine zk [4,7,13,14,15,16] ?_;refine iU ⟨[],[],[],[],[]⟩ fun all hall _ Z=>?_;have ga3:aK all 3=some 121:=hall 3;have ga9:aK all 9=some 127:=hall 9;refine zs 2 fun _ Y=>?_;simp[ga3,ga9,hg,hg1,hq,hg3,hq3];apply Y;refine aE fun _ Y=>?_;simp[ga3,ga9,hg,hg1,hq,hg3,hq3];refine bS (hsm _) ?_;apply Y;refine zs 1 fun _ Y=>?_;simp[ga3,ga9,hg,hg1,hq,hg3,hq3];apply Y;refine zb 121 ?_ ?_<;>intro g38<;>try simp at g38
  refine zs 1 fun _ Y=>?_;simp[ga3,ga9,hg,hg1,hq,hg3,hq3];apply Y;refine zg ga3 fun _ Y=>?_;simp[ga3,ga9,hg,hg1,hq,hg3,hq3];have hbz:=fT hqg;first | rw [aI (by omega)] at hbz | rw [aA (by omega)] at hbz
  refine bS (hbz) ?_;apply Y;refine zs 4 fun _ Y=>?_;simp[ga3,ga9,hg,hg1,hq,hg3,hq3];apply Y;refine zb 127 ?_ ?_<;>intro g39<;>try simp at g39
  refine zs 1 fun _ Y=>?_;simp[ga3,ga9,hg,hg1,hq,hg3,hq3];apply Y;refine zg ga9 fun _ Y=>?_;simp[ga3,ga9,hg,hg1,hq,hg3,hq3];have hgz:=eK hqg;first | rw [aI (by assumption)] at hgz | rw [aA (by simp [*])] at hgz
  refine bS (hgz) ?_;apply Y;simp[ga3,ga9,hg,hg1,hq,hg3,hq3];apply Z;apply aD;simp [aJ]
 apply zA;apply aF;refine zk [3,4,7,13,14,15,16] ?_;refine aZ fun _ _ Z=>?_;refine zs 1 fun _ Y=>?_;simp[hg,hg1,hq,hg3,hq3];apply Y;refine aE fun _ Y=>?_;simp[hg,hg1,hq,hg3,hq3];refine bS (iF x _) ?_;apply Y;simp only [cX];apply Z;refine zI ?_ ?_<;>intro c40<;>try simp at c40
 .refine mD fun _ _ Z=>?_;simp[hg,hg1,hq,hg3,hq3];apply Z;apply bY;refine zk [4,7,13,14,15,16] ?_;refine iU ⟨[],[],[],[],[]⟩ fun all hall _ Z=>?_;have ga3:aK all 3=some 121:=hall 3;have ga9:aK all 9=some 127:=hall 9;refine zs 2 fun _ Y=>?_;simp[ga3,ga9,hg,hg1,hq,hg3,hq3];apply Y;refine aE fun _ Y=>?_;simp[ga3,ga9,hg,hg1,hq,hg3,hq3];refine bS (hsm _) ?_;apply Y;refine zs 1 fun _ Y=>?_;simp[ga3,ga9,hg,hg1,hq,hg3,hq3];apply Y;refine zb 121 ?_ ?_<;>intro g41<;>try simp at g41
  refine zs 1 fun _ Y=>?_;simp[ga3,ga9,hg,hg1,hq,hg3,hq3];apply Y;refine zg ga3 fun _ Y=>?_;simp[ga3,ga9,hg,hg1,hq,hg3,hq3];have hbz:=fT hqg;first | rw [aI (by omega)] at hbz | rw [aA (by omega)] at hbz
  refine bS (hbz) ?_;apply Y;refine zs 4 fun _ Y=>?_;simp[ga3,ga9,hg,hg1,hq,hg3,hq3];apply Y;refine zb 127 ?_ ?_<;>intro g42<;>try simp at g42
  refine zs 1 fun _ Y=>?_;simp[ga3,ga9,hg,hg1,hq,hg3,hq3];apply Y;refine zg ga9 fun _ Y=>?_;simp[ga3,ga9,hg,hg1,hq,hg3,hq3];have hgz:=eK hqg;first | rw [aI (by assumption)] at hgz | rw [aA (by simp [*])] at hgz
  refine bS (hgz) ?_;apply Y;simp[ga3,ga9,hg,hg1,hq,hg3,hq3];apply Z;apply aD;simp [aJ]
 apply zA;refine zk [4,7,13,14,15,16] ?_;refine iU ⟨[],[],[],[],[]⟩ fun all hall _ Z=>?_;have ga3:aK all 3=some 121:=hall 3;have ga9:aK all 9=some 127:=hall 9;refine zs 2 fun _ Y=>?_;simp[ga3,ga9,hg,hg1,hq,hg3,hq3];apply Y;refine aE fun _ Y=>?_;simp[ga3,ga9,hg,hg1,hq,hg3,hq3];refine bS (hsm _) ?_;apply Y;refine zs 1 fun _ Y=>?_;simp[ga3,ga9,hg,hg1,hq,hg3,hq3];apply Y;refine zb 121 ?_ ?_<;>intro g43<;>try simp at g43
 refine zs 1 fun _ Y=>?_;simp[ga3,ga9,hg,hg1,hq,hg3,hq3];apply Y;refine zg ga3 fun _ Y=>?_;simp[ga3,ga9,hg,hg1,hq,hg3,hq3];have hbz:=fT hqg;first | rw [aI (by omega)] at hbz | rw [aA (by omega)] at hbz
 refine bS (hbz) ?_;apply Y;refine zs 4 fun _ Y=>?_;simp[ga3,ga9,hg,hg1,hq,hg3,hq3];apply Y;refine zb 127 ?_ ?_<;>intro g44<;>try simp at g44
 refine zs 1 fun _ Y=>?_;simp[ga3,ga9,hg,hg1,hq,hg3,hq3];apply Y;refine zg ga9 fun _ Y=>?_;simp[ga3,ga9,hg,hg1,hq,hg3,hq3];have hgz:=eK hqg;first | rw [aI (by assumption)] at hgz | rw [aA (by simp [*])] at hgz
 refine bS (hgz) ?_;apply Y;simp[ga3,ga9,hg,hg1,hq,hg3,hq3];apply Z;apply aD;simp [aJ]
theorem To(f:FL)(x:LK)(σ:List (List D))(hf:FO f):Ct prog 6 [Rk f,Ao x] σ (fun r _=>r= .bool true):=if hk:(gG f).kind=1 then Yx f x σ hf hk else Ya f x σ hf hk
end Go.Proofs.YtbgfljpnhhdkoaaGreat
namespace Go.Vm
open Go Go.RowKit
variable {fs:Array Field}{n:Nat}{w:World}{α:Type}
def xU(w:World):Mem:=fun b o=>w.cell? ⟨b,o,none⟩
def CellsAt(w:World)(ds:List D)(cs:List Value):Prop:=
 ds.length=cs.length/\∀(i:Nat) (c:D) (y:Value),ds[i]?=some c->cs[i]?=some y->R (xU w) [] c y/\y.oneCell'=true/\c.flat=true
def OpenAt(w:World)(d:D)(cs:List Value):Prop:=CellsAt w d.cells cs/\d≠ .any
def Opens(P:Program)(t:TypeId) {α:Type} (f:α->D)(p:α->Prop):Prop:=
 ∀(H:Type) (enc:TypeId×Value->H) (w:World) (spare:Nat->Bool) (held:Bool) (fuel:Nat) (cs:List Value) (x:DataW H×List MemPlace),DataW.trod enc P w 0 spare held fuel t cs=some x->∃a,p a/\OpenAt w (f a) cs
theorem OpenAt.one {d:D} {y:Value} (hd:d.cells= [d])(hr:R (xU w) [] d y)(h1:y.oneCell'=true)(hf:d.flat=true)(ha:d≠ .any):OpenAt w d [y]:=by
 refine⟨⟨by rw [hd];rfl,fun i c z h2 h3=>?_⟩,ha⟩;rw [hd] at h2
 match i with
 | 0=>simp at h2 h3;subst h2;subst h3;exact⟨hr,h1,hf⟩
 | i+1=>simp at h2
section
variable {P:Program} {t:TypeId}
theorem Xw(ht:P.underlying t=some .bool):Opens P t D.bool (fun _=>True):=by
 intro H enc w spare held fuel cs x h;obtain⟨b,rfl,_⟩:=DataW.trod_bool ht h;exact⟨b,trivial,.one rfl (.v _ rfl) rfl rfl (by simp)⟩
theorem aFe(ht:P.underlying t=some (.int .i64)):Opens P t D.int (fun n=> -9223372036854775808<=n/\n<=9223372036854775807):=by
 intro H enc w spare held fuel cs x h;obtain⟨n,rfl,_,hw⟩:=DataW.trod_int ht h;refine⟨n,?_,.one rfl (.v _ rfl) rfl rfl (by simp)⟩;have h1:IntKind.i64.min= -9223372036854775808:=rfl;have h2:IntKind.i64.max=9223372036854775807:=rfl;simp only [Lit.wf,gH,fF] at hw;omega
theorem aG2(ht:P.underlying t=some .string):Opens P t D.str (fun s=>s.size<=maxLen):=by
 intro H enc w spare held fuel cs x h;obtain⟨s,rfl,_,hw⟩:=DataW.trod_string ht h;exact⟨s,hw,.one rfl (.v _ rfl) rfl rfl (by simp)⟩
theorem OpenAt.value {d:D} {cs:List Value} (h:OpenAt w d cs):∃x:Value,x.cells.toList=cs/\R (xU w) [] d x:=by
 have gen:d.cells= [d]->∃x:Value,x.cells.toList=cs/\R (xU w) [] d x:=by
  intro hd;have hl:=h.1.1;rw [hd] at hl;obtain⟨y,rfl⟩:=List.length_eq_one_iff.1 hl.symm;have:=h.1.2 0 d y (by rw [hd];rfl) rfl;exact⟨y,by rw [Value.cells_one this.2.1],this.1⟩
 cases d with
 | agg ds=>
  refine⟨.agg cs.toArray,by simp [Value.cells],.agg ds cs.toArray (by have:=h.1.1;simp [D.cells] at this;simp [this]) (fun i e y a1 a2=>(h.1.2 i e y a1 (by simpa using a2)).1) (fun i y a2=>?_)⟩;have a2':cs[i]?=some y:=by simpa using a2
  have hi:=(aO.1 a2').1;have hl:=h.1.1;have hi2:i<(D.cells (.agg ds)).length:=by omega
  exact(h.1.2 i _ y (aU hi2) a2').2.1
 | _=>exact gen rfl
theorem Ic {Q:Nat->α->Prop} (h:∀i,i<n->∃a,Q i a):∃l:List α,l.length=n/\∀i a,l[i]?=some a->Q i a:=by
 induction n with
 | zero=>exact⟨[],rfl,by simp⟩
 | succ n ih =>
  obtain⟨l,hl,hq⟩:=ih (fun i hi=>h i (by omega));obtain⟨a,ha⟩:=h n (by omega);refine⟨l++ [a],by simp [hl],fun i b hb=>?_⟩;by_cases hi:i<l.length
  .rw [bC hi] at hb;exact hq i b hb
  rw [bW (by omega)] at hb;have h0:i - l.length=0:=by
   have:=(aO.1 hb).1;simp at this;omega
  rw [h0] at hb;simp at hb;subst hb;rw [show i=n by omega];exact ha
theorem Yr {d:D} :d.ncells=d.cells.length:=by cases d <;> rfl
theorem xC {e:TypeId} {f:α->D} {p:α->Prop} (ht:P.underlying t=some (.slice e))(h:Opens P e f p)(hk:0<P.cellsOf e):Opens P t (fun l:List α=> .sl false (l.map f)) (fun l=>l.length<=maxLen/\∀a∈l,p a):=by
 intro H enc w spare held fuel cs x hx;rcases DataW.trod_slice ht hx with ⟨rfl,_⟩ | ⟨a,len,cap,elems,rest,n,_,rfl,_,_,hlc,hcm,hlen,hel,_,_⟩
 .exact⟨[],⟨by simp,by simp⟩,.one rfl (.nil false) rfl rfl (by simp)⟩
 by_cases h0:len=0
 .subst h0;exact⟨[],⟨by simp,by simp⟩,.one rfl (.emp false a cap hcm) rfl rfl (by simp)⟩
 have each:∀i,i<len->∃b:α×List Value,p b.1/\OpenAt w (f b.1) b.2/\w.cells? 0 (a.add (i * P.cellsOf e)) (P.cellsOf e)=some b.2:=by
  intro i hi;have hi':i<elems.length:=by omega
  have:=hel i hi;rw [aU hi',mL] at this;obtain⟨ds,h1,h2⟩:=this;obtain⟨b,hb,ho⟩:=h H enc w spare held n ds _ h2;exact⟨(b,ds),hb,ho,h1⟩
 obtain⟨L,hL,hq⟩:=Ic each;have each2:∀i,i<len->∃v:Value,∃b,L[i]?=some b/\v.cells.toList=b.2/\R (xU w) [] (f b.1) v:=by
  intro i hi;have hi':i<L.length:=by omega
  have hb:L[i]?=some L[i]:=aU hi';obtain⟨v,h1,h2⟩:=(hq i _ hb).2.1.value;exact⟨v,_,hb,h1,h2⟩
 obtain⟨V,hV,hv⟩:=Ic each2;have hspot:a.spot=none:=by
  have hi':0<L.length:=by omega
  have h1:=(hq 0 _ (aU hi')).2.2;obtain⟨_,hl,hc⟩:=World.cells?_some h1;have h2:=hc 0 hk;rw [aU (by omega)] at h2;simpa [Addr.add] using World.cell?_spot h2
 obtain⟨b,off,spot⟩:=a;simp only at hspot;subst hspot;refine⟨L.map (·.1),⟨by rw [bU,hL];exact qB hlc hcm,fun y hy=>?_⟩,.one rfl ?_ rfl rfl (by simp)⟩
 .obtain⟨z,hz,rfl⟩:=aX.1 hy;obtain⟨i,hi⟩:=eW hz;exact(hq i z hi).1
 refine .sl false _ b off len cap (P.cellsOf e) V (by simp [hV,hL]) (by simp [hL]) hk hlc hcm (fun i d x h1 h2=>?_) (fun i d h1=>?_) (fun i x h1=>?_)
 .obtain⟨z,hz,h3,h4⟩:=hv i x h2;simp only [cO,hz,gM,bF] at h1;subst h1;exact h4
 .simp only [cO,Option.map_map,dV] at h1;obtain⟨z,hz,rfl⟩:=h1;obtain⟨_,h5,h6⟩:=hq i z hz;show(f z.1).ncells=_
  rw [Yr,h5.1.1];exact(World.cells?_some h6).2.1
 obtain⟨z,hz,h3,h4⟩:=hv i x h1;obtain⟨_,h5,h6⟩:=hq i z hz;obtain⟨_,h7,h8⟩:=World.cells?_some h6;have hsz:x.cells.size=P.cellsOf e:=by rw [<- h7,<- h3,cB]
 refine⟨hsz,fun j c hj=>?_⟩;have hjl:j<P.cellsOf e:=by rw [<- hsz];exact(dQ.1 hj).1
 have hj2:z.2[j]?=some c:=by rw [<- h3];simpa using hj
 have hj3:j<(f z.1).cells.length:=by rw [h5.1.1];omega
 refine⟨(h5.1.2 j _ c (aU hj3) hj2).2.1,?_⟩;have:=h8 j hjl;rw [Addr.add_none,Addr.add_none,hj2] at this;show w.cell? _=_
 rw [show off+(i * P.cellsOf e+j)=off+i * P.cellsOf e+j by omega];exact this
theorem CellsAt.append {a b:List D} {x y:List Value} (h1:CellsAt w a x)(h2:CellsAt w b y):CellsAt w (a++b) (x++y):=by
 refine⟨by simp [h1.1,h2.1],fun i c v e1 e2=>?_⟩;by_cases hi:i<a.length
 .rw [bC hi] at e1;rw [bC (by have:=h1.1;omega)] at e2;exact h1.2 i c v e1 e2
 rw [bW (by omega)] at e1;rw [bW (by have:=h1.1;omega)] at e2;rw [<- h1.1] at e2;exact h2.2 _ c v e1 e2
def Rb(P:Program)(fs:List Field)(k n:Nat) {α:Type} (f:α->List D)(p:α->Prop):Prop:=
 ∀(H:Type) (enc:TypeId×Value->H) (w:World) (spare:Nat->Bool) (held:Bool) (fuel:Nat) (cs:List Value),cs.length=n->
  (∀fl∈fs,∃x:DataW H×List MemPlace,DataW.trod enc P w 0 spare held fuel fl.type ((cs.drop fl.offset).take (P.cellsOf fl.type))=some x)->∃a,p a/\CellsAt w (f a) (cs.drop k)
theorem sU :Rb P [] n n (fun _:Unit=> []) (fun _=>True):=by
 intro H enc w spare held fuel cs hn _;refine⟨(),trivial,?_,fun i c y h=>by simp at h⟩;rw [uY (by omega)];rfl
theorem dS {fl:Field} {fs:List Field} {k m:Nat} {β:Type} {f:α->D} {p:α->Prop} {g:β->List D} {q:β->Prop} (ho:fl.offset=k)(hc:P.cellsOf fl.type=m)(h1:Opens P fl.type f p)(h2:Rb P fs (k+m) n g q):
  Rb P (fl::fs) k n (fun ab:α×β=>(f ab.1).cells++g ab.2) (fun ab=>p ab.1/\q ab.2):=by
 intro H enc w spare held fuel cs hn hall;obtain⟨x,hx⟩:=hall fl (by simp);obtain⟨a,ha,hoa⟩:=h1 H enc w spare held fuel _ x hx;obtain⟨b,hb,hob⟩:=h2 H enc w spare held fuel cs hn (fun fl' h'=>hall fl' (by simp [h']));refine⟨(a,b),⟨ha,hb⟩,?_⟩;have e:cs.drop k=(cs.drop k).take m++cs.drop (k+m):=by
  rw [<- List.drop_drop];exact(fH m _).symm
 rw [e];rw [ho,hc] at hoa;exact hoa.1.append hob
theorem pN {f:α->List D} {p:α->Prop} (ht:P.underlying t=some (.struct fs))(h:Rb P fs.toList 0 (P.cellsOf t) f p):Opens P t (fun a=> .agg (f a)) p:=by
 intro H enc w spare held fuel cs x hx;obtain⟨xs,n,_,_,hl,hxl,hall⟩:=DataW.trod_struct ht hx;obtain⟨a,ha,hc⟩:=h H enc w spare held n cs hl (fun fl hfl=>by
  obtain⟨i,hi⟩:=eW hfl;rw [dM] at hi;have h1:=hall i fl hi;have hi2:i<xs.length:=by rw [hxl];exact(dQ.1 hi).1
  rw [aU hi2] at h1;exact⟨_,h1⟩)
 rw [zW] at hc;exact⟨a,ha,hc,by simp⟩
theorem Opens.map {β:Type} {f:α->D} {p:α->Prop} {g:β->D} {q:β->Prop} (h:Opens P t f p)(φ:α->β)(hφ:∀a,f a=g (φ a))(hq:∀a,p a->q (φ a)):Opens P t g q:=by
 intro H enc w spare held fuel cs x hx;obtain⟨a,ha,ho⟩:=h H enc w spare held fuel cs x hx;exact⟨φ a,hq a ha,by rw [<- hφ];exact ho⟩
theorem xP {r:Reach} {base:Nat} {v:Value} (ht:P.underlying t=some (.struct fs))(h:Value.okWide P w r base t v):∃cs,v= .agg cs:=by
 simp only [Value.okWide,ht] at h;obtain⟨cs,h1,_⟩:=h;exact⟨cs,h1⟩
theorem Oe {H:Type} {enc:TypeId×Value->H} {f:α->D} {p:α->Prop} {spare:Nat->Bool} {held:Bool} {cs:Array Value} {d:DataW H} {ps:List MemPlace} (h:Opens P t f p)(hf:∀a,∃ds,f a= .agg ds)(ht:DataW.Trod enc P w 0 spare held t (.agg cs) d ps):
  ∃a,p a/\R (xU w) [] (f a) (.agg cs)/\∀X h q,Own w (xU w) [] X h q (f a) (.agg cs):=by
 obtain⟨fuel,hx⟩:=ht;obtain⟨a,ha,ho⟩:=h H enc w spare held fuel _ _ hx;obtain⟨ds,hd⟩:=hf a;refine⟨a,ha,?_⟩;rw [hd] at ho |-;obtain⟨⟨hl,hc⟩,_⟩:=ho;have hl':cs.size=ds.length:=by simpa [D.cells,Value.cells] using hl.symm
 have hc':∀(i:Nat) (c:D) (y:Value),ds[i]?=some c->cs[i]?=some y->R (xU w) [] c y/\y.oneCell'=true/\c.flat=true:=fun i c y h1 h2=>hc i c y h1 (by simpa [Value.cells] using h2);refine⟨.agg ds cs hl' (fun i d x h1 h2=>(hc' i d x h1 h2).1) (fun i x h2=>?_),fun X h q=> .agg q ds cs fun i d x h1 h2=> .flat _ _ _ (hc' i d x h1 h2).2.2⟩;have hi:=(dQ.1 h2).1;exact(hc' i _ x (aU (by omega)) h2).2.1
theorem aSz {N:FuncId} {ds:List D} {vs:Array Value} {W:World} (hct:Ct P N ds [] (fun r _=>r= .bool true))(hl:vs.size=ds.length)
  (ha:∀(i:Nat) (d:D) (v:Value),ds[i]?=some d->vs[i]?=some v->R (xU W) [] d v/\∀X h q,Own W (xU W) [] X h q d v):
  Calls P N vs W fun e W'=>e= .returned (.bool true)/\Below W.heap.size W W':=by
 refine(hct.2 W ⟨xU W,fun _=>none, [], []⟩ vs hl rfl ⟨fun b o c h=>h,fun b t h=>by simp at h,fun t=>?_,rfl,fun n b cs h=>by simp at h,rfl,fun n b cs h=>by simp at h⟩).mono ?_
 .show SlotOk W _ t (fW ds t) (cL vs t)
  cases hd:ds[t]? with
  | none=>
   simp only [fW,hd];exact⟨.any _,.flat _ _ _ rfl⟩
  | some d=>
   have hlt:t<vs.size:=by rw [hl];exact(aO.1 hd).1
   have hv:vs[t]?=some vs[t]:=bO hlt;have hvv:cL vs t=vs[t]:=by simp [cL,hlt]
   rw [wM hd,hvv];obtain⟨h1,h2⟩:=ha t d _ hd hv;exact⟨h1,h2 _ _ _⟩
 rintro e W' ⟨r,σ',x,g',rfl,rfl,_,hf,hok⟩;have hs:=hok.slot 0;have hs':R g'.M g'.bs (.bool true) x:=hs.1;exact⟨by rw [hs'.vEq],hf.os,hf.tape,hf.output,hf.size,fun k hk=>(hf.keep k hk rfl).1⟩
end
end Go.Vm
