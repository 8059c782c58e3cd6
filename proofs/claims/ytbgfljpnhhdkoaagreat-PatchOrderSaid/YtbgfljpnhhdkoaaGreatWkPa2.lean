import Derived.Test.YtbgfljpnhhdkoaaGreatPaRun
import Derived.Test.YtbgfljpnhhdkoaaGreatWkPa1
open Go.Proofs.Tryz
namespace Go.Proofs.YtbgfljpnhhdkoaaGreat
open Go Go.Vm
set_option maxRecDepth 20000
set_option linter.all false
set_option maxHeartbeats 8000000
theorem Wi(k m M l:Nat)(d:DS)(rk:Int→Nat)(x:RD)(ops:List TOp)(p i:Int)(σ:List (List D))(h:LX k m M l d rk x ops σ)(hk:k≤300):Ct prog 63 [.ref l 0,D.int p,D.int i] σ (fun r σ'=>r= .bool (jP d.l (bN d.l rk) p i)∧σ'=σ):=by
 refine zf (rs:=[.tmp 6]) func63 ntmps63 results63 ?_;simp only [aN];have hg:=h.at_;have hnb:=h.ix.iv.ip.NB (by omega);refine aY fun all K Z=>?_;simp(maxSteps:=1000000) (disch:=first | omega | assumption) [hg]
 and_intros
 all_goals first | omega | exact rfl | skip
 apply Z;clear Z K;clear all;refine aY fun all K Z=>?_;refine bZ 5 fun K' Y=>?_;simp(maxSteps:=1000000) (disch:=first | omega | assumption) [hg]
 and_intros
 all_goals first | omega | exact rfl | skip
 apply Y;clear Y K';simp only [List.drop_succ_cons,List.drop_zero];refine aD fun K' Y=>?_;simp(maxSteps:=1000000) (disch:=first | omega | assumption) [hg];refine cH (yX m M d i _ h.ix.iv.ho hnb) ?_;apply Y;clear Y K';simp(maxSteps:=1000000) (disch:=first | omega | assumption) [hg]
 and_intros
 all_goals first | omega | exact rfl | skip
 apply Z;clear Z K;clear all;refine zk [0,1,2,6,7,8] ?_;refine mY ⟨[],[],[],[],[]⟩ fun all hall K Z=>?_;have ga1:aR all 1=some 19:=hall 1;have ga5:aR all 5=some 23:=hall 5;have ga10:aR all 10=some 28:=hall 10;clear hall;refine bZ 2 fun K' Y=>?_;simp(maxSteps:=1000000) (disch:=first | omega | assumption) [hg,ga1,ga5,ga10]
 and_intros
 all_goals first | omega | exact rfl | skip
 apply Y;clear Y K';simp only [List.drop_succ_cons,List.drop_zero];refine aU 19 (by simp <;> rfl) ?_;refine⟨fun g1=>?_,fun g1=>?_⟩
 ·try simp at g1
  refine bZ 4 fun K' Y=>?_;simp(maxSteps:=1000000) (disch:=first | omega | assumption) [hg,ga1,ga5,ga10]
  and_intros
  all_goals first | omega | exact rfl | skip
  apply Y;clear Y K';simp only [List.drop_succ_cons,List.drop_zero];refine aU 23 (by simp <;> rfl) ?_;refine⟨fun g2=>?_,fun g2=>?_⟩
  ·try simp at g2
   refine bZ 5 fun K' Y=>?_;simp(maxSteps:=1000000) (disch:=first | omega | assumption) [hg,ga1,ga5,ga10]
   and_intros
   all_goals first | omega | exact rfl | skip
   apply Y;clear Y K';simp only [List.drop_succ_cons,List.drop_zero];refine aU 28 (by simp <;> rfl) ?_;refine⟨fun g3=>?_,fun g3=>?_⟩
   ·try simp at g3
    refine bZ 6 fun K' Y=>?_;simp(maxSteps:=1000000) (disch:=first | omega | assumption) [hg,ga1,ga5,ga10]
    and_intros
    all_goals first | omega | exact rfl | skip
    apply Y;clear Y K';simp only [List.drop_succ_cons,List.drop_zero];refine zg ga10 fun K' Y=>?_;simp(maxSteps:=1000000) (disch:=first | omega | assumption) [hg,ga1,ga5,ga10];refine cH (Cj m M d rk p i _ h.ix.iv.ho h.ix.iv.wt) ?_;apply Y;clear Y K';simp(maxSteps:=1000000) (disch:=first | omega | assumption) [hg,ga1,ga5,ga10]
    and_intros
    all_goals first | omega | exact rfl | skip
    apply Z;clear Z K;clear ga1 ga5 ga10;clear all;apply aB;simp [aL,jP,g1,g2,g3]
   try simp at g3
   refine bZ 8 fun K' Y=>?_;simp(maxSteps:=1000000) (disch:=first | omega | assumption) [hg,ga1,ga5,ga10]
   and_intros
   all_goals first | omega | exact rfl | skip
   apply Y;clear Y K';simp only [List.drop_succ_cons,List.drop_zero];simp(maxSteps:=1000000) (disch:=first | omega | assumption) [hg,ga1,ga5,ga10]
   and_intros
   all_goals first | omega | exact rfl | skip
   apply Z;clear Z K;clear ga1 ga5 ga10;clear all;apply aB;simp [aL,jP,g1,g2]
   intros;omega
  try simp at g2
  refine bZ 5 fun K' Y=>?_;simp(maxSteps:=1000000) (disch:=first | omega | assumption) [hg,ga1,ga5,ga10]
  and_intros
  all_goals first | omega | exact rfl | skip
  apply Y;clear Y K';simp only [List.drop_succ_cons,List.drop_zero];refine bZ 8 fun K' Y=>?_;simp(maxSteps:=1000000) (disch:=first | omega | assumption) [hg,ga1,ga5,ga10]
  and_intros
  all_goals first | omega | exact rfl | skip
  apply Y;clear Y K';simp only [List.drop_succ_cons,List.drop_zero];simp(maxSteps:=1000000) (disch:=first | omega | assumption) [hg,ga1,ga5,ga10]
  and_intros
  all_goals first | omega | exact rfl | skip
  apply Z;clear Z K;clear ga1 ga5 ga10;clear all;apply aB;simp [aL,jP,g1,g2]
 try simp at g1
 refine bZ 4 fun K' Y=>?_;simp(maxSteps:=1000000) (disch:=first | omega | assumption) [hg,ga1,ga5,ga10]
 and_intros
 all_goals first | omega | exact rfl | skip
 apply Y;clear Y K';simp only [List.drop_succ_cons,List.drop_zero];refine bZ 5 fun K' Y=>?_;simp(maxSteps:=1000000) (disch:=first | omega | assumption) [hg,ga1,ga5,ga10]
 and_intros
 all_goals first | omega | exact rfl | skip
 apply Y;clear Y K';simp only [List.drop_succ_cons,List.drop_zero];refine bZ 8 fun K' Y=>?_;simp(maxSteps:=1000000) (disch:=first | omega | assumption) [hg,ga1,ga5,ga10]
 and_intros
 all_goals first | omega | exact rfl | skip
 apply Y;clear Y K';simp only [List.drop_succ_cons,List.drop_zero];simp(maxSteps:=1000000) (disch:=first | omega | assumption) [hg,ga1,ga5,ga10]
 and_intros
 all_goals first | omega | exact rfl | skip
 apply Z;clear Z K;clear ga1 ga5 ga10;clear all;apply aB;simp [aL,jP,g1]
theorem yE(k m M l:Nat)(d:DS)(rk:Int→Nat)(x:RD)(ops:List TOp)(p:Int)(to:List Int)(σ:List (List D))(h:LX k m M l d rk x ops σ)(hk:k≤300)(hto:to.length≤100):Ct prog 14 [.ref l 0,D.int p,.sl false (to.map D.int)] σ (fun r σ'=>∃c k' d' rk' y ops',r=D.int c∧k'≤2 * k+1+to.length∧LX k' m M l d' rk' y ops' σ'∧Ia d rk x ops p (eJ (aF d.l p).kids to) c y ops'∧Oth m (· =l) d d' σ σ'):=by
 refine zf (rs:=[.tmp 6]) func14 ntmps14 results14 ?_;simp only [aN];have hg:=h.at_;have hnb:=h.ix.iv.ip.NB (by omega);have hfk:=hnb.fk p;have hfl:=Qv h.ix.iv p;obtain⟨S,hS⟩:∃S,eJ (aF d.l p).kids to=S:=⟨_,rfl⟩;have hSk:=Kw (aF d.l p).kids to;have hSl:=Ng (aF d.l p).kids to;rw [hS] at hSk hSl;refine aY fun all K Z=>?_;simp(maxSteps:=1000000) (disch:=first | omega | assumption) [hg,hS]
 and_intros
 all_goals first | omega | exact rfl | skip
 apply Z;clear Z K;clear all;refine aY fun all K Z=>?_;refine bZ 5 fun K' Y=>?_;simp(maxSteps:=1000000) (disch:=first | omega | assumption) [hg,hS]
 and_intros
 all_goals first | omega | exact rfl | skip
 apply Y;clear Y K';simp only [List.drop_succ_cons,List.drop_zero];refine aD fun K' Y=>?_;simp(maxSteps:=1000000) (disch:=first | omega | assumption) [hg,hS];refine cH (yX m M d p _ h.ix.iv.ho hnb) ?_;apply Y;clear Y K';simp(maxSteps:=1000000) (disch:=first | omega | assumption) [hg,hS]
 and_intros
 all_goals first | omega | exact rfl | skip
 apply Z;clear Z K;clear all;apply aC;apply aG;refine zk [0,1,2,6,7,8] ?_;refine aY fun all K Z=>?_;simp(maxSteps:=1000000) (disch:=first | omega | assumption) [hg,hS]
 and_intros
 all_goals first | omega | exact rfl | skip
 apply Z;clear Z K;clear all;refine zi ?_;refine⟨fun c1=>?_,fun c1=>?_⟩
 ·try simp at c1
  refine aY fun all K Z=>?_;simp(maxSteps:=1000000) (disch:=first | omega | assumption) [hg,hS]
  and_intros
  all_goals first | omega | exact rfl | skip
  apply Z;clear Z K;clear all;apply aB;apply aQ;apply aJ;simp [aL,hS];exact⟨k,by omega,d,rk,x,ops,h,.inl ⟨c1,rfl,rfl,rfl⟩,Oth.refl _ _ _ _⟩
 try simp at c1
 refine aY fun all K Z=>?_;simp(maxSteps:=1000000) (disch:=first | omega | assumption) [hg,hS]
 and_intros
 all_goals first | omega | exact rfl | skip
 apply Z;clear Z K;clear all;refine zi ?_;refine⟨fun c2=>?_,fun c2=>?_⟩
 ·try simp at c2
  refine zk [0,1,2,6,7] ?_;refine aY fun all K Z=>?_;simp(maxSteps:=1000000) (disch:=first | omega | assumption) [hg,hS]
  and_intros
  all_goals first | omega | exact rfl | skip
  apply Z;clear Z K;clear all;apply aB;apply aQ;apply aJ;simp [aL,hS];exact⟨k,by omega,d,rk,x,ops,h,.inr (.inl ⟨c1,c2,rfl,rfl,rfl⟩),Oth.refl _ _ _ _⟩
 try simp at c2
 apply aE;apply aK;apply aA;refine zk [0,1,2,6,7] ?_;refine aY fun all K Z=>?_;refine bZ 3 fun K' Y=>?_;simp(maxSteps:=1000000) (disch:=first | omega | assumption) [hg,hS]
 and_intros
 all_goals first | omega | exact rfl | skip
 apply Y;clear Y K';simp only [List.drop_succ_cons,List.drop_zero];refine aD fun K' Y=>?_;simp(maxSteps:=1000000) (disch:=first | omega | assumption) [hg,hS];refine cH (Zr (aF d.l p).kids to _ (by omega) (by omega)) ?_;rw [hS];apply Y;clear Y K';simp(maxSteps:=1000000) (disch:=first | omega | assumption) [hg,hS]
 and_intros
 all_goals first | omega | exact rfl | skip
 apply Z;clear Z K;clear all;apply aC;refine aY fun all K Z=>?_;simp(maxSteps:=1000000) (disch:=first | omega | assumption) [hg,hS]
 and_intros
 all_goals first | omega | exact rfl | skip
 apply Z;clear Z K;clear all;apply aG;refine zk [0,1,6,9,34,35,36] ?_;refine bI (fun(j:Nat)=> [(36,.d (.v (.int .i64 (j:Int)))),(11,.d (.any))]) [6,11,36,37,38,39,40,41,42,43,44,45,46,47,48,49,50,51,52,53,54,55,56] (fun(j:Nat)=>j≤S.length∧∀s∈S.take j,¬sG d.l (bN d.l rk) p s) (fun(j:Nat)=>S.length - j) (0) (by simp <;> rfl) ?_ ?_ ?_
 ·simp
 ·simp
 rintro j ⟨hj,hh⟩;simp only [List.cons_append,List.nil_append];refine aY fun all K Z=>?_;simp(maxSteps:=1000000) (disch:=first | omega | assumption) [hg,hS]
 and_intros
 all_goals first | omega | exact rfl | skip
 apply Z;clear Z K;clear all;apply aC;refine zi ?_;refine⟨fun c3=>?_,fun c3=>?_⟩
 ·try simp at c3
  apply aE;apply aA;apply aC;apply aG;refine aY fun all K Z=>?_;simp(maxSteps:=1000000) (disch:=first | omega | assumption) [hg,hS]
  and_intros
  all_goals first | omega | exact rfl | skip
  apply Z;clear Z K;clear all;refine zk [0,1,9,11,34,35,36] ?_;refine mY ⟨[],[],[],[],[]⟩ fun all hall K Z=>?_;have ga3:aR all 3=some 43:=hall 3;have ga7:aR all 7=some 47:=hall 7;clear hall;refine bZ 4 fun K' Y=>?_;simp(maxSteps:=1000000) (disch:=first | omega | assumption) [hg,ga3,ga7,hS]
  and_intros
  all_goals first | omega | exact rfl | skip
  apply Y;clear Y K';simp only [List.drop_succ_cons,List.drop_zero];refine aU 43 (by simp <;> rfl) ?_;refine⟨fun g4=>?_,fun g4=>?_⟩
  ·try simp at g4
   refine bZ 8 fun K' Y=>?_;simp(maxSteps:=1000000) (disch:=first | omega | assumption) [hg,ga3,ga7,hS]
   and_intros
   all_goals first | omega | exact rfl | skip
   apply Y;clear Y K';simp only [List.drop_succ_cons,List.drop_zero];simp(maxSteps:=1000000) (disch:=first | omega | assumption) [hg,ga3,ga7,hS]
   and_intros
   all_goals first | omega | exact rfl | skip
   apply Z;clear Z K;clear ga3 ga7;clear all;refine bM (t:=true) (by simp) (fun _=>?_) (fun h=>by cases h);refine zk [0,1,9,11,34,35,36] ?_;refine aY fun all K Z=>?_;simp(maxSteps:=1000000) (disch:=first | omega | assumption) [hg,hS]
   and_intros
   all_goals first | omega | exact rfl | skip
   apply Z;clear Z K;clear all;apply aB;apply aQ;apply aJ;apply fD;apply aQ;apply aJ;simp [aL,hS];exact⟨k,by omega,d,rk,x,ops,h,.inr (.inr ⟨c1,c2,.inl ⟨⟨S[j],List.getElem_mem c3,.inl g4⟩,rfl,rfl,rfl⟩⟩),Oth.refl _ _ _ _⟩
  try simp at g4
  refine bZ 4 fun K' Y=>?_;simp(maxSteps:=1000000) (disch:=first | omega | assumption) [hg,ga3,ga7,hS]
  and_intros
  all_goals first | omega | exact rfl | skip
  apply Y;clear Y K';simp only [List.drop_succ_cons,List.drop_zero];refine aU 47 (by simp <;> rfl) ?_;refine⟨fun g5=>?_,fun g5=>?_⟩
  ·try simp at g5
   refine bZ 4 fun K' Y=>?_;simp(maxSteps:=1000000) (disch:=first | omega | assumption) [hg,ga3,ga7,hS]
   and_intros
   all_goals first | omega | exact rfl | skip
   apply Y;clear Y K';simp only [List.drop_succ_cons,List.drop_zero];refine zg ga7 fun K' Y=>?_;simp(maxSteps:=1000000) (disch:=first | omega | assumption) [hg,ga3,ga7,hS];refine cH (Wi k m M l d rk x ops p S[j].ID _ h hk) ?_;apply Y;clear Y K';simp(maxSteps:=1000000) (disch:=first | omega | assumption) [hg,ga3,ga7,hS]
   and_intros
   all_goals first | omega | exact rfl | skip
   apply Z;clear Z K;clear ga3 ga7;clear all;refine zi ?_;refine⟨fun c6=>?_,fun c6=>?_⟩
   ·try simp at c6
    refine zk [0,1,9,11,34,35,36] ?_;refine aY fun all K Z=>?_;simp(maxSteps:=1000000) (disch:=first | omega | assumption) [hg,hS]
    and_intros
    all_goals first | omega | exact rfl | skip
    apply Z;clear Z K;clear all;apply aB;apply aQ;apply aJ;apply fD;apply aQ;apply aJ;simp [aL,hS];exact⟨k,by omega,d,rk,x,ops,h,.inr (.inr ⟨c1,c2,.inl ⟨⟨S[j],List.getElem_mem c3,aF4 g5 c6⟩,rfl,rfl,rfl⟩⟩),Oth.refl _ _ _ _⟩
   try simp at c6
   have hfine:=Av (l:=d.l) (bel:=bN d.l rk) (p:=p) g5 c6;apply aE;apply aK;apply aA;refine zk [0,1,9,11,34,35,36] ?_;refine yL fun all K Z=>?_;simp(maxSteps:=1000000) (disch:=first | omega | assumption) [hg,hS]
   and_intros
   all_goals first | omega | exact rfl | skip
   apply Z;clear Z K;clear all;refine zq (j+1) ?_ ?_ ?_
   ·exact⟨by omega,Zx (by omega) hh hfine⟩
   ·try dsimp only
    omega
   simp(maxSteps:=1000000) (disch:=first | omega | assumption) [hg,hS]
  try simp at g5
  have hfine:=zH (l:=d.l) (bel:=bN d.l rk) (p:=p) g4 g5;simp(maxSteps:=1000000) (disch:=first | omega | assumption) [hg,ga3,ga7,hS]
  and_intros
  all_goals first | omega | exact rfl | skip
  apply Z;clear Z K;clear ga3 ga7;clear all;refine bM (t:=false) (by simp) (fun h=>by cases h) (fun _=>?_);apply aE;apply aK;apply aA;refine zk [0,1,9,11,34,35,36] ?_;refine yL fun all K Z=>?_;simp(maxSteps:=1000000) (disch:=first | omega | assumption) [hg,hS]
  and_intros
  all_goals first | omega | exact rfl | skip
  apply Z;clear Z K;clear all;refine zq (j+1) ?_ ?_ ?_
  ·exact⟨by omega,Zx (by omega) hh hfine⟩
  ·try dsimp only
   omega
  simp(maxSteps:=1000000) (disch:=first | omega | assumption) [hg,hS]
 try simp at c3
 obtain rfl:j=S.length:=by omega
 rw [List.take_length] at hh;apply bC;apply bB;apply bD;apply aX;apply aA;apply aC;refine aY fun all K Z=>?_;simp(maxSteps:=1000000) (disch:=first | omega | assumption) [hg,hS]
 and_intros
 all_goals first | omega | exact rfl | skip
 apply Z;clear Z K;clear all;apply aG;refine zk [0,1,57,58,59] ?_;refine jR (fun(q:Nat×DS×(Int→Nat)×RD×List TOp×List (List D))=> [(59,.d (.v (.int .i64 (q.1:Int)))),(13,.d (.any))]) (fun(q:Nat×DS×(Int→Nat)×RD×List TOp×List (List D))=> [[.v (.int .i64 ((aF d.l p).ID)),.v (.int .i64 ((aF d.l p).kind)),.v (.string ((aF d.l p).tag)),.v (.string ((aF d.l p).text)),.sl false (((aF d.l p).classes).map D.str),.sl false (((aF d.l p).attrs).map cZ),.sl false (((aF d.l p).styles).map cX),.v (.int .i64 ((aF d.l p).parent)),.sl false (((aF d.l p).kids).map D.int)]]) (fun(q:Nat×DS×(Int→Nat)×RD×List TOp×List (List D))=>q.2.2.2.2.2) [13,59,60,61,62,63,64,65,66,67,68,69,70,71,72,73,74,75,76,77,78,79] (fun(q:Nat×DS×(Int→Nat)×RD×List TOp×List (List D))=>q.1≤S.length∧LX (k+q.1) m M l q.2.1 q.2.2.1 q.2.2.2.1 q.2.2.2.2.1 q.2.2.2.2.2∧KR p (S.take q.1) x ops q.2.2.2.1 q.2.2.2.2.1∧Oth m (· =l) d q.2.1 σ q.2.2.2.2.2) (fun(q:Nat×DS×(Int→Nat)×RD×List TOp×List (List D))=>S.length - q.1) ((0,d,rk,x,ops,σ)) (by simp <;> rfl) ?_ (by simp) (by simp) ?_ ?_
 ·simp
 ·exact⟨Nat.zero_le _,h,.nil x ops,Oth.refl _ _ _ _⟩
 rintro⟨j,d1,rk1,y,ops1,σ1⟩ ⟨hj,hlx,hkr,hot⟩;simp only [List.cons_append,List.nil_append];dsimp only at hj hlx hkr hot;try dsimp only
 refine aY fun all K Z=>?_;simp(maxSteps:=1000000) (disch:=first | omega | assumption) [hg,hS]
 and_intros
 all_goals first | omega | exact rfl | skip
 apply Z;clear Z K;clear all;apply aC;refine zi ?_;refine⟨fun c7=>?_,fun c7=>?_⟩
 ·try simp at c7
  apply aE;apply aA;apply aC;apply aG;refine aY fun all K Z=>?_;simp(maxSteps:=1000000) (disch:=first | omega | assumption) [hg,hS]
  and_intros
  all_goals first | omega | exact rfl | skip
  apply Z;clear Z K;clear all;refine aY fun all K Z=>?_;simp(maxSteps:=1000000) (disch:=first | omega | assumption) [hg,hS]
  and_intros
  all_goals first | omega | exact rfl | skip
  apply Z;clear Z K;clear all;refine zi ?_;refine⟨fun c8=>?_,fun c8=>?_⟩
  ·try simp at c8
   have hop:Gr p S[j]=⟨3,p,S[j].at_,S[j].ID,⟨#[]⟩,⟨#[]⟩⟩:=by unfold Gr;rw [if_pos c8]
   refine zk [0,1,13,57,58,59] ?_;refine yL fun all K Z=>?_;refine bZ 6 fun K' Y=>?_;simp(maxSteps:=1000000) (disch:=first | omega | assumption) [hg,hS]
   and_intros
   all_goals first | omega | exact rfl | skip
   apply Y;clear Y K';simp only [List.drop_succ_cons,List.drop_zero];refine aD fun K' Y=>?_;simp(maxSteps:=1000000) (disch:=first | omega | assumption) [hg,hS];obtain⟨d2,rk2,y2,cc,σ2,hc2,hx2,hD2,hr2,ho2⟩:=aH2 hlx (by omega) p S[j].at_ S[j].ID;rw [← hop] at hx2 hD2 hr2;refine cH (hc2) ?_;apply Y;clear Y K';simp only [dV];apply Z;clear Z K;clear all;apply aK;apply aA;refine zk [0,1,13,57,58,59] ?_;refine yL fun all K Z=>?_;simp(maxSteps:=1000000) (disch:=first | omega | assumption) [hg,hS]
   and_intros
   all_goals first | omega | exact rfl | skip
   apply Z;clear Z K;clear all;refine zq ((j+1,d2,rk2,y2,La ops1 cc (Gr p S[j]),σ2)) ?_ ?_ ?_
   ·exact⟨by dsimp only;omega,hx2,hkr.step (by omega) hD2 hr2,hot.trans ho2⟩
   ·dsimp only;omega
   simp(maxSteps:=1000000) (disch:=first | omega | assumption) [hg,hS]
  try simp at c8
  have hop:Gr p S[j]=⟨4,S[j].ID,S[j].at_,0,⟨#[]⟩,⟨#[]⟩⟩:=by unfold Gr;rw [if_neg c8]
  refine zk [0,1,13,57,58,59] ?_;refine yL fun all K Z=>?_;refine bZ 5 fun K' Y=>?_;simp(maxSteps:=1000000) (disch:=first | omega | assumption) [hg,hS]
  and_intros
  all_goals first | omega | exact rfl | skip
  apply Y;clear Y K';simp only [List.drop_succ_cons,List.drop_zero];refine aD fun K' Y=>?_;simp(maxSteps:=1000000) (disch:=first | omega | assumption) [hg,hS];obtain⟨d2,rk2,y2,cc,σ2,hc2,hx2,hD2,hr2,ho2⟩:=aJc hlx (by omega) S[j].ID S[j].at_;rw [← hop] at hx2 hD2 hr2;refine cH (hc2) ?_;apply Y;clear Y K';simp only [dV];apply Z;clear Z K;clear all;apply aK;apply aA;refine zk [0,1,13,57,58,59] ?_;refine yL fun all K Z=>?_;simp(maxSteps:=1000000) (disch:=first | omega | assumption) [hg,hS]
  and_intros
  all_goals first | omega | exact rfl | skip
  apply Z;clear Z K;clear all;refine zq ((j+1,d2,rk2,y2,La ops1 cc (Gr p S[j]),σ2)) ?_ ?_ ?_
  ·exact⟨by dsimp only;omega,hx2,hkr.step (by omega) hD2 hr2,hot.trans ho2⟩
  ·dsimp only;omega
  simp(maxSteps:=1000000) (disch:=first | omega | assumption) [hg,hS]
 try simp at c7
 obtain rfl:j=S.length:=by omega
 rw [List.take_length] at hkr;apply bC;apply bB;apply bD;apply aX;apply aA;refine aY fun all K Z=>?_;simp(maxSteps:=1000000) (disch:=first | omega | assumption) [hg,hS]
 and_intros
 all_goals first | omega | exact rfl | skip
 apply Z;clear Z K;clear all;apply aB;simp [aL,hS];exact⟨_,by omega,_,_,_,_,hlx,.inr (.inr ⟨c1,c2,.inr ⟨hh,rfl,hkr⟩⟩),hot⟩
end Go.Proofs.YtbgfljpnhhdkoaaGreat
