import Derived.Test.YtbgfljpnhhdkoaaGreatPaRun
import Derived.Test.YtbgfljpnhhdkoaaGreatWkPa1
open Go.Proofs.Tryz
namespace Go.Proofs.YtbgfljpnhhdkoaaGreat
open Go Go.Vm
set_option maxRecDepth 20000
set_option linter.all false
set_option maxHeartbeats 8000000
theorem aC4(k m M l:Nat)(d:DS)(rk:Int→Nat)(x:RD)(ops:List TOp)(p i:Int)(σ:List (List D))(h:LX k m M l d rk x ops σ)(hk:k≤300):Ct prog 63 [.ref l 0,D.int p,D.int i] σ (fun r σ'=>r= .bool (iQ d.l (bJ d.l rk) p i)∧σ'=σ):=by
 refine zf (rs:=[.tmp 6]) func63 ntmps63 results63 ?_;simp only [aN];have hg:=h.at_;have hnb:=h.ix.iv.ip.NB (by omega);refine aW fun all K Z=>?_;simp(maxSteps:=1000000) (disch:=first | omega | assumption) [hg]
 and_intros
 all_goals first | omega | exact rfl | skip
 apply Z;clear Z K;clear all;refine aW fun all K Z=>?_;refine bZ 5 fun K' Y=>?_;simp(maxSteps:=1000000) (disch:=first | omega | assumption) [hg]
 and_intros
 all_goals first | omega | exact rfl | skip
 apply Y;clear Y K';simp only [List.drop_succ_cons,List.drop_zero];refine aE fun K' Y=>?_;simp(maxSteps:=1000000) (disch:=first | omega | assumption) [hg];refine bX (zM m M d i _ h.ix.iv.ho hnb) ?_;apply Y;clear Y K';simp(maxSteps:=1000000) (disch:=first | omega | assumption) [hg]
 and_intros
 all_goals first | omega | exact rfl | skip
 apply Z;clear Z K;clear all;refine zk [0,1,2,6,7,8] ?_;refine kX ⟨[],[],[],[],[]⟩ fun all hall K Z=>?_;have ga1:aO all 1=some 19:=hall 1;have ga5:aO all 5=some 23:=hall 5;have ga10:aO all 10=some 28:=hall 10;clear hall;refine bZ 2 fun K' Y=>?_;simp(maxSteps:=1000000) (disch:=first | omega | assumption) [hg,ga1,ga5,ga10]
 and_intros
 all_goals first | omega | exact rfl | skip
 apply Y;clear Y K';simp only [List.drop_succ_cons,List.drop_zero];refine aS 19 (by simp <;> rfl) ?_;refine⟨fun g1=>?_,fun g1=>?_⟩
 ·try simp at g1
  refine bZ 4 fun K' Y=>?_;simp(maxSteps:=1000000) (disch:=first | omega | assumption) [hg,ga1,ga5,ga10]
  and_intros
  all_goals first | omega | exact rfl | skip
  apply Y;clear Y K';simp only [List.drop_succ_cons,List.drop_zero];refine aS 23 (by simp <;> rfl) ?_;refine⟨fun g2=>?_,fun g2=>?_⟩
  ·try simp at g2
   refine bZ 5 fun K' Y=>?_;simp(maxSteps:=1000000) (disch:=first | omega | assumption) [hg,ga1,ga5,ga10]
   and_intros
   all_goals first | omega | exact rfl | skip
   apply Y;clear Y K';simp only [List.drop_succ_cons,List.drop_zero];refine aS 28 (by simp <;> rfl) ?_;refine⟨fun g3=>?_,fun g3=>?_⟩
   ·try simp at g3
    refine bZ 6 fun K' Y=>?_;simp(maxSteps:=1000000) (disch:=first | omega | assumption) [hg,ga1,ga5,ga10]
    and_intros
    all_goals first | omega | exact rfl | skip
    apply Y;clear Y K';simp only [List.drop_succ_cons,List.drop_zero];refine zg ga10 fun K' Y=>?_;simp(maxSteps:=1000000) (disch:=first | omega | assumption) [hg,ga1,ga5,ga10];refine bX (Ej m M d rk p i _ h.ix.iv.ho h.ix.iv.wt) ?_;apply Y;clear Y K';simp(maxSteps:=1000000) (disch:=first | omega | assumption) [hg,ga1,ga5,ga10]
    and_intros
    all_goals first | omega | exact rfl | skip
    apply Z;clear Z K;clear ga1 ga5 ga10;clear all;apply aC;simp [aK,iQ,g1,g2,g3]
   try simp at g3
   refine bZ 8 fun K' Y=>?_;simp(maxSteps:=1000000) (disch:=first | omega | assumption) [hg,ga1,ga5,ga10]
   and_intros
   all_goals first | omega | exact rfl | skip
   apply Y;clear Y K';simp only [List.drop_succ_cons,List.drop_zero];simp(maxSteps:=1000000) (disch:=first | omega | assumption) [hg,ga1,ga5,ga10]
   and_intros
   all_goals first | omega | exact rfl | skip
   apply Z;clear Z K;clear ga1 ga5 ga10;clear all;apply aC;simp [aK,iQ,g1,g2]
   intros;omega
  try simp at g2
  refine bZ 5 fun K' Y=>?_;simp(maxSteps:=1000000) (disch:=first | omega | assumption) [hg,ga1,ga5,ga10]
  and_intros
  all_goals first | omega | exact rfl | skip
  apply Y;clear Y K';simp only [List.drop_succ_cons,List.drop_zero];refine bZ 8 fun K' Y=>?_;simp(maxSteps:=1000000) (disch:=first | omega | assumption) [hg,ga1,ga5,ga10]
  and_intros
  all_goals first | omega | exact rfl | skip
  apply Y;clear Y K';simp only [List.drop_succ_cons,List.drop_zero];simp(maxSteps:=1000000) (disch:=first | omega | assumption) [hg,ga1,ga5,ga10]
  and_intros
  all_goals first | omega | exact rfl | skip
  apply Z;clear Z K;clear ga1 ga5 ga10;clear all;apply aC;simp [aK,iQ,g1,g2]
 try simp at g1
 refine bZ 4 fun K' Y=>?_;simp(maxSteps:=1000000) (disch:=first | omega | assumption) [hg,ga1,ga5,ga10]
 and_intros
 all_goals first | omega | exact rfl | skip
 apply Y;clear Y K';simp only [List.drop_succ_cons,List.drop_zero];refine bZ 5 fun K' Y=>?_;simp(maxSteps:=1000000) (disch:=first | omega | assumption) [hg,ga1,ga5,ga10]
 and_intros
 all_goals first | omega | exact rfl | skip
 apply Y;clear Y K';simp only [List.drop_succ_cons,List.drop_zero];refine bZ 8 fun K' Y=>?_;simp(maxSteps:=1000000) (disch:=first | omega | assumption) [hg,ga1,ga5,ga10]
 and_intros
 all_goals first | omega | exact rfl | skip
 apply Y;clear Y K';simp only [List.drop_succ_cons,List.drop_zero];simp(maxSteps:=1000000) (disch:=first | omega | assumption) [hg,ga1,ga5,ga10]
 and_intros
 all_goals first | omega | exact rfl | skip
 apply Z;clear Z K;clear ga1 ga5 ga10;clear all;apply aC;simp [aK,iQ,g1]
@[simp] abbrev qPa21:Cfg:=⟨[6,10,42,76,86],[],[],[],[]⟩
theorem aAg(x:RD)(bel:Int→List Int)(rk:Int→Nat)(p:Int)(to:List Int)(σ:List (List D))(hx:NB x.l)(ht:Tr x.l bel rk)(hto:to.length≤1000):Ct prog 18 [dS x,D.int p,.sl false (to.map D.int)] σ (fun r σ'=>(∃o c,r= .tup [.sl true (o.map gX),D.int c]∧RK x bel p (eX (aG x.l p).kids to) o c)∧σ'=σ):=by
 refine zf (rs:=[.tmp 6,.tmp 7]) func18 ntmps18 results18 ?_;simp only [aN];have hfk:=hx.fk p;obtain⟨S,hS⟩:∃S,eX (aG x.l p).kids to=S:=⟨_,rfl⟩;have hSk:=xQ (aG x.l p).kids to;have hSl:=Aq (aG x.l p).kids to;rw [hS] at hSk hSl;refine zr qPa21 fun _ _ Z=>?_;simp(disch:=omega)[hS];apply Z;refine zr qPa21 fun _ _ Z=>?_;refine zs 2 fun _ Y=>?_;simp(disch:=omega)[hS];apply Y;refine aE fun _ Y=>?_;simp(disch:=omega)[hS];refine bX (fV x p _ hx) ?_;apply Y;simp(disch:=omega)[hS];apply Z;apply aB;refine zr qPa21 fun _ _ Z=>?_;simp(disch:=omega)[hS];apply Z;refine zi ?_;refine⟨fun c1=>?_,fun c1=>?_⟩
 ·try simp at c1
  refine zk [1,2,3,6,7,8] ?_;refine zr qPa21 fun _ _ Z=>?_;simp(disch:=omega)[hS];apply Z;apply aC;apply aI;have hrk:RK x bel p S [] 11:= .inl ⟨c1,rfl,rfl⟩;simp [aK,hS];exact⟨[],_,⟨rfl,rfl⟩,hrk⟩
 try simp at c1
 apply aD;apply aA;apply aB;refine zk [1,2,3,6,7,8] ?_;refine zr qPa21 fun _ _ Z=>?_;simp(disch:=omega)[hS];apply Z;refine zi ?_;refine⟨fun c2=>?_,fun c2=>?_⟩
 ·try simp at c2
  refine zr qPa21 fun _ _ Z=>?_;simp(disch:=omega)[hS];apply Z;apply aC;apply aI;have hrk:RK x bel p S [] 14:= .inr (.inl ⟨c1,c2,rfl,rfl⟩);simp [aK,hS];exact⟨[],_,⟨rfl,rfl⟩,hrk⟩
 try simp at c2
 apply aD;apply aA;refine zr qPa21 fun _ _ Z=>?_;simp(disch:=omega)[hS];and_intros<;>(try omega);apply Z;apply aB;refine zr qPa21 fun _ _ Z=>?_;refine zs 3 fun _ Y=>?_;simp(disch:=omega)[hS];apply Y;refine aE fun _ Y=>?_;simp(disch:=omega)[hS];refine bX (Me (aG x.l p).kids to _ (by omega) (by omega)) ?_;rw [hS];apply Y;simp(disch:=omega)[hS];and_intros<;>(try omega);apply Z;apply aF;refine zk [1,3,6,7,10,30,31,32] ?_;refine bA (fun(k:Nat)=> [(32,.d (.v (.int .i64 (k:Int)))),(10,.d (.sl true ((yE p S k).map gX))),(12,.d (.any)),(13,.d (.any)),(14,.d (.any)),(50,.d (.any))]) [6,7,10,12,13,14,32,33,34,35,36,37,38,39,40,41,42,43,44,45,46,47,48,49,50,51,52,53,54,55,56,57,58,59,60,61,62,63,64,65,66,67,68,69,70,71,72,73,74,75,76,77,78,79,80,81,82,83,84,85] (fun(k:Nat)=>k≤S.length∧∀s∈S.take k,¬qB x.l bel p s) (fun(k:Nat)=>S.length - k) (0) (by simp <;> rfl) ?_ ?_ ?_
 ·simp [yE]
 ·simp
 rintro k ⟨hk,hh⟩;simp only [List.cons_append,List.nil_append];have hol:=Xo p S k hk;refine zr qPa21 fun _ _ Z=>?_;simp(disch:=omega)[hS];apply Z;apply aB;refine zi ?_;refine⟨fun c3=>?_,fun c3=>?_⟩
 ·try simp at c3
  have hkind:=hSk S[k] (List.getElem_mem c3);apply aD;apply aA;apply aB;apply aF;refine zr qPa21 fun _ _ Z=>?_;simp(disch:=omega)[hS];and_intros<;>(try omega);apply Z;apply aB;refine zk [1,3,10,12,13,14,30,31,32,50] ?_;refine zr qPa21 fun _ _ Z=>?_;simp(disch:=omega)[hS];apply Z;refine zi ?_;refine⟨fun c4=>?_,fun c4=>?_⟩
  ·try simp at c4
   refine zk [1,3,10,12,13,14,30,31,32,50] ?_;refine zr qPa21 fun _ _ Z=>?_;simp(disch:=omega)[hS];apply Z;apply aC;apply aI;apply aP;apply aI;apply dF;apply aP;apply aI;have hrk:RK x bel p S [] 1:= .inr (.inr ⟨c1,c2,.inl ⟨⟨S[k],List.getElem_mem c3,.inl c4⟩,rfl,rfl⟩⟩);simp [aK,hS];exact⟨[],_,⟨rfl,rfl⟩,hrk⟩
  try simp at c4
  apply aD;apply aA;apply aB;refine zk [1,3,10,12,13,14,30,31,32,50] ?_;refine zr qPa21 fun _ _ Z=>?_;simp(disch:=omega)[hS];apply Z;refine zi ?_;refine⟨fun c5=>?_,fun c5=>?_⟩
  ·try simp at c5
   have hfine:=Bj (bel:=bel) (p:=p) (l:=x.l) c4 (by omega);have hmt:yE p S (k+1)=yE p S k++ [⟨4,S[k].ID,S[k].at_,0,⟨#[]⟩,⟨#[]⟩⟩]:=by rw [Ed p c3];unfold xM;rw [if_neg (by omega)]
   refine zk [1,3,10,12,13,14,30,31,32,50] ?_;refine zr qPa21 fun _ _ Z=>?_;refine zs 8 fun _ Y=>?_;simp(disch:=omega)[hS];and_intros<;>(try omega);apply Y;simp(disch:=omega)[hS];apply Z;apply aY;apply aX;apply aR;apply aA;refine zk [1,3,10,12,13,14,30,31,32,50] ?_;refine zt qPa21 fun _ _ Z=>?_;simp(disch:=omega)[hS];and_intros<;>(try omega);apply Z;refine zq (k+1) ?_ ?_ ?_
   ·exact⟨by omega,Hi (by omega) hh hfine⟩
   ·try dsimp only
    omega
   simp(disch:=omega)[hmt,hS]
  try simp at c5
  have hk2:S[k].kind=2:=by omega
  apply aD;apply aA;refine zk [1,3,10,12,13,14,30,31,32,50] ?_;refine zr qPa21 fun _ _ Z=>?_;refine zs 3 fun _ Y=>?_;simp(disch:=omega)[hS];apply Y;refine aE fun _ Y=>?_;simp(disch:=omega)[hS];refine bX (fV x S[k].ID _ hx) ?_;apply Y;simp(disch:=omega)[hS];apply Z;apply aB;refine zk [1,3,10,12,13,14,30,31,32,50] ?_;refine kX qPa21 fun all hall _ Z=>?_;have ga2:aO all 2=some 59:=hall 2;have ga7:aO all 7=some 64:=hall 7;have ga12:aO all 12=some 69:=hall 12;refine zs 3 fun _ Y=>?_;simp(disch:=omega)[ga2,ga7,ga12,hS];apply Y;refine aS 59 (by simp <;> rfl) ?_;refine⟨fun g6=>?_,fun g6=>?_⟩
  ·try simp at g6
   refine zs 5 fun _ Y=>?_;simp(disch:=omega)[ga2,ga7,ga12,hS];apply Y;refine zs 5 fun _ Y=>?_;simp(disch:=omega)[ga2,ga7,ga12,hS];apply Y;simp(disch:=omega)[ga2,ga7,ga12,hS];apply Z;refine bD (t:=true) (by simp) (fun _=>?_) (fun h=>by cases h);refine zk [1,3,10,12,13,14,30,31,32,50] ?_;refine zr qPa21 fun _ _ Z=>?_;simp(disch:=omega)[hS];apply Z;apply aC;apply aI;apply aP;apply aI;apply dF;apply aP;apply aI;have hrk:RK x bel p S [] 1:= .inr (.inr ⟨c1,c2,.inl ⟨⟨S[k],List.getElem_mem c3,uV hk2 (rR fun q=>by simp [g6] at q)⟩,rfl,rfl⟩⟩);simp [aK,hS];exact⟨[],_,⟨rfl,rfl⟩,hrk⟩
  try simp at g6
  refine zs 5 fun _ Y=>?_;simp(disch:=omega)[ga2,ga7,ga12,hS];apply Y;refine aS 64 (by simp <;> rfl) ?_;refine⟨fun g7=>?_,fun g7=>?_⟩
  ·try simp at g7
   refine zs 5 fun _ Y=>?_;simp(disch:=omega)[ga2,ga7,ga12,hS];apply Y;simp(disch:=omega)[ga2,ga7,ga12,hS];apply Z;refine bD (t:=true) (by simp) (fun _=>?_) (fun h=>by cases h);refine zk [1,3,10,12,13,14,30,31,32,50] ?_;refine zr qPa21 fun _ _ Z=>?_;simp(disch:=omega)[hS];apply Z;apply aC;apply aI;apply aP;apply aI;apply dF;apply aP;apply aI;have hrk:RK x bel p S [] 1:= .inr (.inr ⟨c1,c2,.inl ⟨⟨S[k],List.getElem_mem c3,uV hk2 (rR fun q=>q.2.1 g7)⟩,rfl,rfl⟩⟩);simp [aK,hS];exact⟨[],_,⟨rfl,rfl⟩,hrk⟩
  try simp at g7
  refine zs 5 fun _ Y=>?_;simp(disch:=omega)[ga2,ga7,ga12,hS];apply Y;refine aS 69 (by simp <;> rfl) ?_;refine⟨fun g8=>?_,fun g8=>?_⟩
  ·try simp at g8
   simp(disch:=omega)[ga2,ga7,ga12,hS];apply Z;refine bD (t:=true) (by simp) (fun _=>?_) (fun h=>by cases h);refine zk [1,3,10,12,13,14,30,31,32,50] ?_;refine zr qPa21 fun _ _ Z=>?_;simp(disch:=omega)[hS];apply Z;apply aC;apply aI;apply aP;apply aI;apply dF;apply aP;apply aI;have hrk:RK x bel p S [] 1:= .inr (.inr ⟨c1,c2,.inl ⟨⟨S[k],List.getElem_mem c3,uV hk2 (rR fun q=>by omega)⟩,rfl,rfl⟩⟩);simp [aK,hS];exact⟨[],_,⟨rfl,rfl⟩,hrk⟩
  try simp at g8
  refine zs 4 fun _ Y=>?_;simp(disch:=omega)[ga2,ga7,ga12,hS];apply Y;refine zg ga12 fun _ Y=>?_;simp(disch:=omega)[ga2,ga7,ga12,hS];refine bX (Ab x p S[k].ID bel rk _ hx ht) ?_;apply Y;simp(disch:=omega)[ga2,ga7,ga12,hS];apply Z;refine zi ?_;refine⟨fun c9=>?_,fun c9=>?_⟩
  ·try simp at c9
   refine zk [1,3,10,12,13,14,30,31,32,50] ?_;refine zr qPa21 fun _ _ Z=>?_;simp(disch:=omega)[hS];apply Z;apply aC;apply aI;apply aP;apply aI;apply dF;apply aP;apply aI;have hrk:RK x bel p S [] 1:= .inr (.inr ⟨c1,c2,.inl ⟨⟨S[k],List.getElem_mem c3,uV hk2 (rR fun q=>by simp [c9] at q)⟩,rfl,rfl⟩⟩);simp [aK,hS];exact⟨[],_,⟨rfl,rfl⟩,hrk⟩
  try simp at c9
  have hfine:=tV hk2 (wR.2 ⟨g6,g7,by omega,c9⟩);have hmt:yE p S (k+1)=yE p S k++ [⟨3,p,S[k].at_,S[k].ID,⟨#[]⟩,⟨#[]⟩⟩]:=by rw [Ed p c3];unfold xM;rw [if_pos hk2]
  apply aD;apply aA;refine zk [1,3,10,12,13,14,30,31,32,50] ?_;refine zt qPa21 fun _ _ Z=>?_;refine zs 8 fun _ Y=>?_;simp(disch:=omega)[hS];and_intros<;>(try omega);apply Y;simp(disch:=omega)[hS];and_intros<;>(try omega);apply Z;apply aH;apply aA;refine zk [1,3,10,12,13,14,30,31,32,50] ?_;refine zt qPa21 fun _ _ Z=>?_;simp(disch:=omega)[hS];and_intros<;>(try omega);apply Z;refine zq (k+1) ?_ ?_ ?_
  ·exact⟨by omega,Hi (by omega) hh hfine⟩
  ·try dsimp only
   omega
  simp(disch:=omega)[hmt,hS]
 try simp at c3
 obtain rfl:k=S.length:=by omega
 rw [Yq];rw [List.take_length] at hh;apply aY;apply aX;apply aZ;apply aR;apply aA;refine zr qPa21 fun _ _ Z=>?_;simp(disch:=omega)[hS];apply Z;apply aC;have hrk:RK x bel p S (S.map (xM p)) 0:= .inr (.inr ⟨c1,c2,.inr ⟨hh,rfl,rfl⟩⟩);simp [aK,hS];exact⟨_,_,⟨by simp,rfl⟩,hrk⟩
theorem Ge(k m M l:Nat)(d:DS)(rk:Int→Nat)(x:RD)(ops:List TOp)(p:Int)(to:List Int)(σ:List (List D))(h:LX k m M l d rk x ops σ)(hk:k≤300)(hto:to.length≤100):Ct prog 14 [.ref l 0,D.int p,.sl false (to.map D.int)] σ (fun r σ'=>∃c k' d' rk' y ops',r=D.int c∧k'≤2 * k+1+to.length∧LX k' m M l d' rk' y ops' σ'∧Pv d rk x ops p (eX (aG d.l p).kids to) c y ops'∧Oth m (· =l) d d' σ σ'):=by
 refine zf (rs:=[.tmp 6]) func14 ntmps14 results14 ?_;simp only [aN];have hg:=h.at_;have hnb:=h.ix.iv.ip.NB (by omega);have hfk:=hnb.fk p;have hfl:=aDz h.ix.iv p;obtain⟨S,hS⟩:∃S,eX (aG d.l p).kids to=S:=⟨_,rfl⟩;have hSk:=xQ (aG d.l p).kids to;have hSl:=Aq (aG d.l p).kids to;rw [hS] at hSk hSl;refine aW fun all K Z=>?_;simp(maxSteps:=1000000) (disch:=first | omega | assumption) [hg,hS]
 and_intros
 all_goals first | omega | exact rfl | skip
 apply Z;clear Z K;clear all;refine aW fun all K Z=>?_;refine bZ 5 fun K' Y=>?_;simp(maxSteps:=1000000) (disch:=first | omega | assumption) [hg,hS]
 and_intros
 all_goals first | omega | exact rfl | skip
 apply Y;clear Y K';simp only [List.drop_succ_cons,List.drop_zero];refine aE fun K' Y=>?_;simp(maxSteps:=1000000) (disch:=first | omega | assumption) [hg,hS];refine bX (zM m M d p _ h.ix.iv.ho hnb) ?_;apply Y;clear Y K';simp(maxSteps:=1000000) (disch:=first | omega | assumption) [hg,hS]
 and_intros
 all_goals first | omega | exact rfl | skip
 apply Z;clear Z K;clear all;apply aB;apply aF;refine zk [0,1,2,6,7,8] ?_;refine aW fun all K Z=>?_;simp(maxSteps:=1000000) (disch:=first | omega | assumption) [hg,hS]
 and_intros
 all_goals first | omega | exact rfl | skip
 apply Z;clear Z K;clear all;refine zi ?_;refine⟨fun c1=>?_,fun c1=>?_⟩
 ·try simp at c1
  refine aW fun all K Z=>?_;simp(maxSteps:=1000000) (disch:=first | omega | assumption) [hg,hS]
  and_intros
  all_goals first | omega | exact rfl | skip
  apply Z;clear Z K;clear all;apply aC;apply aP;apply aI;simp [aK,hS];exact⟨k,by omega,d,rk,x,ops,h,.inl ⟨c1,rfl,rfl,rfl⟩,Oth.refl _ _ _ _⟩
 try simp at c1
 refine aW fun all K Z=>?_;simp(maxSteps:=1000000) (disch:=first | omega | assumption) [hg,hS]
 and_intros
 all_goals first | omega | exact rfl | skip
 apply Z;clear Z K;clear all;refine zi ?_;refine⟨fun c2=>?_,fun c2=>?_⟩
 ·try simp at c2
  refine zk [0,1,2,6,7] ?_;refine aW fun all K Z=>?_;simp(maxSteps:=1000000) (disch:=first | omega | assumption) [hg,hS]
  and_intros
  all_goals first | omega | exact rfl | skip
  apply Z;clear Z K;clear all;apply aC;apply aP;apply aI;simp [aK,hS];exact⟨k,by omega,d,rk,x,ops,h,.inr (.inl ⟨c1,c2,rfl,rfl,rfl⟩),Oth.refl _ _ _ _⟩
 try simp at c2
 apply aD;apply aH;apply aA;refine zk [0,1,2,6,7] ?_;refine aW fun all K Z=>?_;refine bZ 3 fun K' Y=>?_;simp(maxSteps:=1000000) (disch:=first | omega | assumption) [hg,hS]
 and_intros
 all_goals first | omega | exact rfl | skip
 apply Y;clear Y K';simp only [List.drop_succ_cons,List.drop_zero];refine aE fun K' Y=>?_;simp(maxSteps:=1000000) (disch:=first | omega | assumption) [hg,hS];refine bX (Xu (aG d.l p).kids to _ (by omega) (by omega)) ?_;rw [hS];apply Y;clear Y K';simp(maxSteps:=1000000) (disch:=first | omega | assumption) [hg,hS]
 and_intros
 all_goals first | omega | exact rfl | skip
 apply Z;clear Z K;clear all;apply aB;refine aW fun all K Z=>?_;simp(maxSteps:=1000000) (disch:=first | omega | assumption) [hg,hS]
 and_intros
 all_goals first | omega | exact rfl | skip
 apply Z;clear Z K;clear all;apply aF;refine zk [0,1,6,9,34,35,36] ?_;refine bA (fun(j:Nat)=> [(36,.d (.v (.int .i64 (j:Int)))),(11,.d (.any))]) [6,11,36,37,38,39,40,41,42,43,44,45,46,47,48,49,50,51,52,53,54,55,56] (fun(j:Nat)=>j≤S.length∧∀s∈S.take j,¬qB d.l (bJ d.l rk) p s) (fun(j:Nat)=>S.length - j) (0) (by simp <;> rfl) ?_ ?_ ?_
 ·simp
 ·simp
 rintro j ⟨hj,hh⟩;simp only [List.cons_append,List.nil_append];refine aW fun all K Z=>?_;simp(maxSteps:=1000000) (disch:=first | omega | assumption) [hg,hS]
 and_intros
 all_goals first | omega | exact rfl | skip
 apply Z;clear Z K;clear all;apply aB;refine zi ?_;refine⟨fun c3=>?_,fun c3=>?_⟩
 ·try simp at c3
  apply aD;apply aA;apply aB;apply aF;refine aW fun all K Z=>?_;simp(maxSteps:=1000000) (disch:=first | omega | assumption) [hg,hS]
  and_intros
  all_goals first | omega | exact rfl | skip
  apply Z;clear Z K;clear all;refine zk [0,1,9,11,34,35,36] ?_;refine kX ⟨[],[],[],[],[]⟩ fun all hall K Z=>?_;have ga3:aO all 3=some 43:=hall 3;have ga7:aO all 7=some 47:=hall 7;clear hall;refine bZ 4 fun K' Y=>?_;simp(maxSteps:=1000000) (disch:=first | omega | assumption) [hg,ga3,ga7,hS]
  and_intros
  all_goals first | omega | exact rfl | skip
  apply Y;clear Y K';simp only [List.drop_succ_cons,List.drop_zero];refine aS 43 (by simp <;> rfl) ?_;refine⟨fun g4=>?_,fun g4=>?_⟩
  ·try simp at g4
   refine bZ 8 fun K' Y=>?_;simp(maxSteps:=1000000) (disch:=first | omega | assumption) [hg,ga3,ga7,hS]
   and_intros
   all_goals first | omega | exact rfl | skip
   apply Y;clear Y K';simp only [List.drop_succ_cons,List.drop_zero];simp(maxSteps:=1000000) (disch:=first | omega | assumption) [hg,ga3,ga7,hS]
   and_intros
   all_goals first | omega | exact rfl | skip
   apply Z;clear Z K;clear ga3 ga7;clear all;refine bD (t:=true) (by simp) (fun _=>?_) (fun h=>by cases h);refine zk [0,1,9,11,34,35,36] ?_;refine aW fun all K Z=>?_;simp(maxSteps:=1000000) (disch:=first | omega | assumption) [hg,hS]
   and_intros
   all_goals first | omega | exact rfl | skip
   apply Z;clear Z K;clear all;apply aC;apply aP;apply aI;apply dF;apply aP;apply aI;simp [aK,hS];exact⟨k,by omega,d,rk,x,ops,h,.inr (.inr ⟨c1,c2,.inl ⟨⟨S[j],List.getElem_mem c3,.inl g4⟩,rfl,rfl,rfl⟩⟩),Oth.refl _ _ _ _⟩
  try simp at g4
  refine bZ 4 fun K' Y=>?_;simp(maxSteps:=1000000) (disch:=first | omega | assumption) [hg,ga3,ga7,hS]
  and_intros
  all_goals first | omega | exact rfl | skip
  apply Y;clear Y K';simp only [List.drop_succ_cons,List.drop_zero];refine aS 47 (by simp <;> rfl) ?_;refine⟨fun g5=>?_,fun g5=>?_⟩
  ·try simp at g5
   refine bZ 4 fun K' Y=>?_;simp(maxSteps:=1000000) (disch:=first | omega | assumption) [hg,ga3,ga7,hS]
   and_intros
   all_goals first | omega | exact rfl | skip
   apply Y;clear Y K';simp only [List.drop_succ_cons,List.drop_zero];refine zg ga7 fun K' Y=>?_;simp(maxSteps:=1000000) (disch:=first | omega | assumption) [hg,ga3,ga7,hS];refine bX (aC4 k m M l d rk x ops p S[j].ID _ h hk) ?_;apply Y;clear Y K';simp(maxSteps:=1000000) (disch:=first | omega | assumption) [hg,ga3,ga7,hS]
   and_intros
   all_goals first | omega | exact rfl | skip
   apply Z;clear Z K;clear ga3 ga7;clear all;refine zi ?_;refine⟨fun c6=>?_,fun c6=>?_⟩
   ·try simp at c6
    refine zk [0,1,9,11,34,35,36] ?_;refine aW fun all K Z=>?_;simp(maxSteps:=1000000) (disch:=first | omega | assumption) [hg,hS]
    and_intros
    all_goals first | omega | exact rfl | skip
    apply Z;clear Z K;clear all;apply aC;apply aP;apply aI;apply dF;apply aP;apply aI;simp [aK,hS];exact⟨k,by omega,d,rk,x,ops,h,.inr (.inr ⟨c1,c2,.inl ⟨⟨S[j],List.getElem_mem c3,uV g5 c6⟩,rfl,rfl,rfl⟩⟩),Oth.refl _ _ _ _⟩
   try simp at c6
   have hfine:=tV (l:=d.l) (bel:=bJ d.l rk) (p:=p) g5 c6;apply aD;apply aH;apply aA;refine zk [0,1,9,11,34,35,36] ?_;refine pP fun all K Z=>?_;simp(maxSteps:=1000000) (disch:=first | omega | assumption) [hg,hS]
   and_intros
   all_goals first | omega | exact rfl | skip
   apply Z;clear Z K;clear all;refine zq (j+1) ?_ ?_ ?_
   ·exact⟨by omega,Hi (by omega) hh hfine⟩
   ·try dsimp only
    omega
   simp(maxSteps:=1000000) (disch:=first | omega | assumption) [hg,hS]
  try simp at g5
  have hfine:=Bj (l:=d.l) (bel:=bJ d.l rk) (p:=p) g4 g5;simp(maxSteps:=1000000) (disch:=first | omega | assumption) [hg,ga3,ga7,hS]
  and_intros
  all_goals first | omega | exact rfl | skip
  apply Z;clear Z K;clear ga3 ga7;clear all;refine bD (t:=false) (by simp) (fun h=>by cases h) (fun _=>?_);apply aD;apply aH;apply aA;refine zk [0,1,9,11,34,35,36] ?_;refine pP fun all K Z=>?_;simp(maxSteps:=1000000) (disch:=first | omega | assumption) [hg,hS]
  and_intros
  all_goals first | omega | exact rfl | skip
  apply Z;clear Z K;clear all;refine zq (j+1) ?_ ?_ ?_
  ·exact⟨by omega,Hi (by omega) hh hfine⟩
  ·try dsimp only
   omega
  simp(maxSteps:=1000000) (disch:=first | omega | assumption) [hg,hS]
 try simp at c3
 obtain rfl:j=S.length:=by omega
 rw [List.take_length] at hh;apply aY;apply aX;apply aZ;apply aR;apply aA;apply aB;refine aW fun all K Z=>?_;simp(maxSteps:=1000000) (disch:=first | omega | assumption) [hg,hS]
 and_intros
 all_goals first | omega | exact rfl | skip
 apply Z;clear Z K;clear all;apply aF;refine zk [0,1,57,58,59] ?_;refine jT (fun(q:Nat×DS×(Int→Nat)×RD×List TOp×List (List D))=> [(59,.d (.v (.int .i64 (q.1:Int)))),(13,.d (.any))]) (fun(q:Nat×DS×(Int→Nat)×RD×List TOp×List (List D))=> [[.v (.int .i64 ((aG d.l p).ID)),.v (.int .i64 ((aG d.l p).kind)),.v (.string ((aG d.l p).tag)),.v (.string ((aG d.l p).text)),.sl false (((aG d.l p).classes).map D.str),.sl false (((aG d.l p).attrs).map cY),.sl false (((aG d.l p).styles).map cV),.v (.int .i64 ((aG d.l p).parent)),.sl false (((aG d.l p).kids).map D.int)]]) (fun(q:Nat×DS×(Int→Nat)×RD×List TOp×List (List D))=>q.2.2.2.2.2) [13,59,60,61,62,63,64,65,66,67,68,69,70,71,72,73,74,75,76,77,78,79] (fun(q:Nat×DS×(Int→Nat)×RD×List TOp×List (List D))=>q.1≤S.length∧LX (k+q.1) m M l q.2.1 q.2.2.1 q.2.2.2.1 q.2.2.2.2.1 q.2.2.2.2.2∧KR p (S.take q.1) x ops q.2.2.2.1 q.2.2.2.2.1∧Oth m (· =l) d q.2.1 σ q.2.2.2.2.2) (fun(q:Nat×DS×(Int→Nat)×RD×List TOp×List (List D))=>S.length - q.1) ((0,d,rk,x,ops,σ)) (by simp <;> rfl) ?_ (by simp) (by simp) ?_ ?_
 ·simp
 ·exact⟨Nat.zero_le _,h,.nil x ops,Oth.refl _ _ _ _⟩
 rintro⟨j,d1,rk1,y,ops1,σ1⟩ ⟨hj,hlx,hkr,hot⟩;simp only [List.cons_append,List.nil_append];dsimp only at hj hlx hkr hot;try dsimp only
 refine aW fun all K Z=>?_;simp(maxSteps:=1000000) (disch:=first | omega | assumption) [hg,hS]
 and_intros
 all_goals first | omega | exact rfl | skip
 apply Z;clear Z K;clear all;apply aB;refine zi ?_;refine⟨fun c7=>?_,fun c7=>?_⟩
 ·try simp at c7
  apply aD;apply aA;apply aB;apply aF;refine aW fun all K Z=>?_;simp(maxSteps:=1000000) (disch:=first | omega | assumption) [hg,hS]
  and_intros
  all_goals first | omega | exact rfl | skip
  apply Z;clear Z K;clear all;refine aW fun all K Z=>?_;simp(maxSteps:=1000000) (disch:=first | omega | assumption) [hg,hS]
  and_intros
  all_goals first | omega | exact rfl | skip
  apply Z;clear Z K;clear all;refine zi ?_;refine⟨fun c8=>?_,fun c8=>?_⟩
  ·try simp at c8
   have hop:xM p S[j]=⟨3,p,S[j].at_,S[j].ID,⟨#[]⟩,⟨#[]⟩⟩:=by unfold xM;rw [if_pos c8]
   refine zk [0,1,13,57,58,59] ?_;refine pP fun all K Z=>?_;refine bZ 6 fun K' Y=>?_;simp(maxSteps:=1000000) (disch:=first | omega | assumption) [hg,hS]
   and_intros
   all_goals first | omega | exact rfl | skip
   apply Y;clear Y K';simp only [List.drop_succ_cons,List.drop_zero];refine aE fun K' Y=>?_;simp(maxSteps:=1000000) (disch:=first | omega | assumption) [hg,hS];obtain⟨d2,rk2,y2,cc,σ2,hc2,hx2,hD2,hr2,ho2⟩:=aIv hlx (by omega) p S[j].at_ S[j].ID;rw [← hop] at hx2 hD2 hr2;refine bX (hc2) ?_;apply Y;clear Y K';simp only [dP];apply Z;clear Z K;clear all;apply aH;apply aA;refine zk [0,1,13,57,58,59] ?_;refine pP fun all K Z=>?_;simp(maxSteps:=1000000) (disch:=first | omega | assumption) [hg,hS]
   and_intros
   all_goals first | omega | exact rfl | skip
   apply Z;clear Z K;clear all;refine zq ((j+1,d2,rk2,y2,Lg ops1 cc (xM p S[j]),σ2)) ?_ ?_ ?_
   ·exact⟨by dsimp only;omega,hx2,hkr.step (by omega) hD2 hr2,hot.trans ho2⟩
   ·dsimp only;omega
   simp(maxSteps:=1000000) (disch:=first | omega | assumption) [hg,hS]
  try simp at c8
  have hop:xM p S[j]=⟨4,S[j].ID,S[j].at_,0,⟨#[]⟩,⟨#[]⟩⟩:=by unfold xM;rw [if_neg c8]
  refine zk [0,1,13,57,58,59] ?_;refine pP fun all K Z=>?_;refine bZ 5 fun K' Y=>?_;simp(maxSteps:=1000000) (disch:=first | omega | assumption) [hg,hS]
  and_intros
  all_goals first | omega | exact rfl | skip
  apply Y;clear Y K';simp only [List.drop_succ_cons,List.drop_zero];refine aE fun K' Y=>?_;simp(maxSteps:=1000000) (disch:=first | omega | assumption) [hg,hS];obtain⟨d2,rk2,y2,cc,σ2,hc2,hx2,hD2,hr2,ho2⟩:=aJo hlx (by omega) S[j].ID S[j].at_;rw [← hop] at hx2 hD2 hr2;refine bX (hc2) ?_;apply Y;clear Y K';simp only [dP];apply Z;clear Z K;clear all;apply aH;apply aA;refine zk [0,1,13,57,58,59] ?_;refine pP fun all K Z=>?_;simp(maxSteps:=1000000) (disch:=first | omega | assumption) [hg,hS]
  and_intros
  all_goals first | omega | exact rfl | skip
  apply Z;clear Z K;clear all;refine zq ((j+1,d2,rk2,y2,Lg ops1 cc (xM p S[j]),σ2)) ?_ ?_ ?_
  ·exact⟨by dsimp only;omega,hx2,hkr.step (by omega) hD2 hr2,hot.trans ho2⟩
  ·dsimp only;omega
  simp(maxSteps:=1000000) (disch:=first | omega | assumption) [hg,hS]
 try simp at c7
 obtain rfl:j=S.length:=by omega
 rw [List.take_length] at hkr;apply aY;apply aX;apply aZ;apply aR;apply aA;refine aW fun all K Z=>?_;simp(maxSteps:=1000000) (disch:=first | omega | assumption) [hg,hS]
 and_intros
 all_goals first | omega | exact rfl | skip
 apply Z;clear Z K;clear all;apply aC;simp [aK,hS];exact⟨_,by omega,_,_,_,_,hlx,.inr (.inr ⟨c1,c2,.inr ⟨hh,rfl,hkr⟩⟩),hot⟩
end Go.Proofs.YtbgfljpnhhdkoaaGreat
