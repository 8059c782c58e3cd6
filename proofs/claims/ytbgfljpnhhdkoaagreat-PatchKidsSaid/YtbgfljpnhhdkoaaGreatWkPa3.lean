import Derived.Test.YtbgfljpnhhdkoaaGreatWkPa2
open Go.Proofs.Tryz
set_option linter.all false
namespace Go.Proofs.YtbgfljpnhhdkoaaGreat
open Go Go.Vm
set_option maxHeartbeats 1000000
theorem WT.permP {a b:List ND} {rk:Int→Nat} (h:a.Perm b)(hw:WT b rk):WT a rk:=by
 have hm:∀n,n∈a↔n∈b:=fun n=>h.mem_iff;refine⟨(h.map ND.ID).nodup_iff.2 hw.nd,fun n hn k hk=>?_,fun n hn=>?_,fun n hn=>hw.nn n ((hm n).1 hn),fun n hn=>hw.kn n ((hm n).1 hn),fun n hn=>hw.dec n ((hm n).1 hn)⟩
 ·obtain⟨c,h1,h2⟩:=hw.kids n ((hm n).1 hn) k hk;exact⟨c,(hm c).2 h1,h2⟩
 rcases hw.par n ((hm n).1 hn)with h1 | ⟨p,h1,h2⟩
 ·exact .inl h1
 exact .inr ⟨p,(hm p).2 h1,h2⟩
variable {k m M l:Nat} {d:DS} {rk:Int→Nat} {x y:RD} {σ:List (List D)} {ops' o:List TOp} {p c co:Int} {to:List Int}
theorem Ic(h:IX k m M d rk x σ):qB x.l=qB d.l:=by
 funext b p s;unfold qB iQ;rw [h.xp.fd,h.xp.il,h.xp.wb]
theorem aE8(h:IX k m M d rk x σ):aG x.l=aG d.l:=h.xp.fd
theorem Un(h:IX k m M d rk x σ):cZ x.l=cZ d.l:=h.xp.il
theorem aNb(h:IX k m M d rk x σ):WT x.l rk:=h.iv.wt.permP h.xp.l
theorem aKa(h:IX k m M d rk x σ):bJ x.l rk=bJ d.l rk:=nO h.xp.fd rk
theorem Fm(h:IX k m M d rk x σ) {ops:List TOp} (h1:cZ d.l p=true)(h2:(aG d.l p).kind=2)(hb:∀s∈eX (aG d.l p).kids to,¬qB d.l (bJ d.l rk) p s)(hk:KR p (eX (aG d.l p).kids to) x ops y ops')(z0:RD):
  ops'=ops++(eX (aG d.l p).kids to).map (xM p)∧KI x y p (gS (aG d.l p).kids (bI to) (bI (gJ (aG d.l p).kids (bI to))) (bI to).length).1∧(RPath z0 ops x→RPath z0 ops' y):=by
 rw [← aE8 h] at *;rw [← Un h] at h1;rw [← Ic h,← aKa h] at hb;have hw:=aNb h;have hnd:(aG x.l p).kids.Nodup:=by
  obtain⟨P,hP,hPi,hPe⟩:=dM h1;rw [hPe];exact hw.kn P hP
 have e:eX (aG x.l p).kids to=(gS (aG x.l p).kids (bI to) (bI (gJ (aG x.l p).kids (bI to))) (bI to).length).2:=by unfold eX;rw [Kw hnd]
 rw [e] at hb hk ⊢;exact aDu hw h1 h2 (lE to) (yZ fun i hi=>by have:=Lis.ofP_lt _ i hi;rwa [jA] at this) (Nat.le_refl _) hb hk
theorem Rt(h:IX k m M d rk x σ)(ho:Pv d rk x [] p (eX (aG d.l p).kids to) c y ops')(hr:RK x (bJ d.l rk) p (eX (aG x.l p).kids to) o co):co=c∧o=ops'∧RPath x ops' y:=by
 unfold RK at hr;rw [aE8 h,Un h,Ic h] at hr;rcases ho with ⟨a1,rfl,rfl,rfl⟩ | ⟨a1,a2,rfl,rfl,rfl⟩ | ⟨a1,a2,⟨a3,rfl,rfl,rfl⟩ | ⟨a3,rfl,a4⟩⟩
 ·rcases hr with ⟨b1,rfl,rfl⟩ | ⟨b1, -⟩ | ⟨b1, -⟩
  ·exact⟨rfl,rfl,rfl⟩
  ·rw [a1] at b1;cases b1
  rw [a1] at b1;cases b1
 ·rcases hr with ⟨b1, -⟩ | ⟨b1,b2,rfl,rfl⟩ | ⟨b1,b2, -⟩
  ·rw [a1] at b1;cases b1
  ·exact⟨rfl,rfl,rfl⟩
  exact absurd b2 a2
 ·rcases hr with ⟨b1, -⟩ | ⟨b1,b2, -⟩ | ⟨b1,b2,⟨b3,rfl,rfl⟩ | ⟨b3, -⟩⟩
  ·rw [a1] at b1;cases b1
  ·exact absurd a2 b2
  ·exact⟨rfl,rfl,rfl⟩
  obtain⟨s,s1,s2⟩:=a3;exact absurd s2 (b3 s s1)
 rcases hr with ⟨b1, -⟩ | ⟨b1,b2, -⟩ | ⟨b1,b2,⟨b3, -⟩ | ⟨b3,rfl,rfl⟩⟩
 ·rw [a1] at b1;cases b1
 ·exact absurd a2 b2
 ·obtain⟨s,s1,s2⟩:=b3;exact absurd s2 (a3 s s1)
 obtain⟨e1,e2,e3⟩:=Fm h a1 a2 a3 a4 x;exact⟨rfl,by rw [e1];rfl,e3 rfl⟩
end Go.Proofs.YtbgfljpnhhdkoaaGreat
namespace Go.Proofs.YtbgfljpnhhdkoaaGreat
open Go Go.Vm
set_option maxRecDepth 20000
set_option maxHeartbeats 8000000
theorem aCr(k m M l:Nat)(d:DS)(rk:Int→Nat)(x y:RD)(ops:List TOp)(σ:List (List D))(h:LX k m M l d rk y ops σ)(hk:k≤800)(hp:RPath x ops y):Ct prog 19 [.ref l 0,dS x,.sl false (ops.map gX)] σ (fun r σ'=>r= .bool true∧σ'=σ):=by
 refine zf (rs:=[.tmp 6]) func19 ntmps19 results19 ?_;simp only [aN];have hg:=h.at_;have hol:=h.len;refine aW fun _ _ Z=>?_;simp(disch:=omega)[hg];apply Z;refine aW fun _ _ Z=>?_;refine zs 1 fun _ Y=>?_;simp(disch:=omega)[hg];apply Y;refine aE fun _ Y=>?_;simp(disch:=omega)[hg];refine bX (Gy l m ops _ (by omega) hg) ?_;apply Y;simp(disch:=omega)[hg];apply Z;apply aB;refine aW fun _ _ Z=>?_;simp(disch:=omega)[hg];and_intros<;>(try omega);apply Z;refine zi ?_;refine⟨fun c1=>?_,fun c1=>?_⟩
 ·simp at c1
 try simp at c1
 apply aD;apply aA;apply aB;refine aW fun _ _ Z=>?_;simp(disch:=omega)[hg];and_intros<;>(try omega);apply Z;apply aF;refine zk [0,2,4,6,7,20,21] ?_;refine bA (fun(j:Nat)=> [(21,.d (.v (.int .i64 (j:Int)))),(8,.d (.any))]) [6,8,21,22,23,24,25,26,27,28,29,30,31,32,33] (fun(j:Nat)=>j≤ops.length) (fun(j:Nat)=>ops.length - j) (0) (by simp <;> rfl) ?_ ?_ ?_
 ·simp
 ·simp
 rintro j hj;simp only [List.cons_append,List.nil_append];refine aW fun _ _ Z=>?_;simp(disch:=omega)[hg];apply Z;apply aB;refine zi ?_;refine⟨fun c2=>?_,fun c2=>?_⟩
 ·try simp at c2
  apply aD;apply aA;apply aB;apply aF;refine aW fun _ _ Z=>?_;simp(disch:=omega)[hg];apply Z;refine zd ⟨[],[],[],[],[]⟩ [.op {},.op {},.op {},.op {},.op {},.op {},.op {},.op {},.op {}] fun all hall _ Z=>?_;refine eR 8 fun _ Y=>?_;simp(disch:=omega)[hg];and_intros<;>(try omega);apply Y;simp(disch:=omega)[hg];apply Z;refine zi ?_;refine⟨fun c3=>?_,fun c3=>?_⟩
  ·simp at c3
  try simp at c3
  apply aD;apply aH;apply aA;refine zk [0,2,4,7,8,20,21] ?_;refine pP fun _ _ Z=>?_;simp(disch:=omega)[hg];and_intros<;>(try omega);apply Z;refine zq (j+1) ?_ ?_ ?_
  ·omega
  ·try dsimp only
   omega
  simp(disch:=omega)[hg]
 try simp at c2
 apply aY;apply aX;apply aZ;apply aR;apply aA;refine aW fun _ _ Z=>?_;refine zs 2 fun _ Y=>?_;simp(disch:=omega)[hg];apply Y;refine aE fun _ Y=>?_;simp(disch:=omega)[hg];refine bX (hp.replay (by omega) _) ?_;apply Y;simp(disch:=omega)[hg];apply Z;refine zk [0,2,9,10,11] ?_;refine zd ⟨[],[],[],[],[]⟩ [.op {},.op {},.op {},.op {},.op {},.op {},.op {},.op {},.op {},.op {},.op {},.op {},.op {rO:=true},.op {rL:=true},.read,.op {},.op {}] fun all hall _ Z=>?_;have ga4:aO all 4=some 45:=hall 4;have ga8:aO all 8=some 49:=hall 8;refine eR 5 fun _ Y=>?_;simp(disch:=omega)[hg,ga4,ga8];and_intros<;>(try omega);apply Y;refine dU 45 (by simp <;> rfl) ?_;refine⟨fun g4=>?_,fun g4=>?_⟩
 ·try simp at g4
  refine eR 4 fun _ Y=>?_;simp(disch:=omega)[hg,ga4,ga8];apply Y;refine dU 49 (by simp <;> rfl) ?_;refine⟨fun g5=>?_,fun g5=>?_⟩
  ·try simp at g5
   refine eR 5 fun _ Y=>?_;simp(disch:=omega)[hg,ga4,ga8];apply Y;refine Za ga8 fun _ Y=>?_;simp(disch:=omega)[hg,ga4,ga8];refine Wr (aJ7 k m M d rk y _ h.ix hk) ?_;apply Y;simp(disch:=omega)[hg,ga4,ga8];apply Z;apply aC;simp [aK]
  simp at g5
 simp at g4
theorem aA9(k m M l:Nat)(d:DS)(rk:Int→Nat)(x:RD)(ops:List TOp)(i:Int)(s:ByteArray)(σ:List (List D))(h:LX k m M l d rk x ops σ)(hk:k≤800)(hs:(cZ d.l i=true∧¬i=0∧(aG d.l i).kind=2∧(aG d.l i).tag=s)):Ct prog 23 [.ref l 0,D.int i,D.str s] σ (fun r σ'=>r= .int 0∧σ'=σ):=by
 refine zf (rs:=[.tmp 6]) func23 ntmps23 results23 ?_;simp only [aN];have hg:=h.at_;have hnb:=h.ix.iv.ip.NB (by omega);refine aW fun all K Z=>?_;simp(maxSteps:=1000000) (disch:=first | omega | assumption) [hg,hs]
 and_intros
 all_goals first | omega | exact rfl | skip
 apply Z;clear Z K;clear all;apply aB;refine aW fun all K Z=>?_;refine bZ 5 fun K' Y=>?_;simp(maxSteps:=1000000) (disch:=first | omega | assumption) [hg,hs]
 and_intros
 all_goals first | omega | exact rfl | skip
 apply Y;clear Y K';simp only [List.drop_succ_cons,List.drop_zero];refine aE fun K' Y=>?_;simp(maxSteps:=1000000) (disch:=first | omega | assumption) [hg,hs];refine bX (zM m M d i _ h.ix.iv.ho hnb) ?_;apply Y;clear Y K';simp(maxSteps:=1000000) (disch:=first | omega | assumption) [hg,hs]
 and_intros
 all_goals first | omega | exact rfl | skip
 apply Z;clear Z K;clear all;refine zk [0,1,2,6,7,8] ?_;refine kX ⟨[],[],[],[],[]⟩ fun all hall K Z=>?_;have ga1:aO all 1=some 19:=hall 1;have ga5:aO all 5=some 23:=hall 5;have ga10:aO all 10=some 28:=hall 10;clear hall;refine bZ 2 fun K' Y=>?_;simp(maxSteps:=1000000) (disch:=first | omega | assumption) [hg,hs,ga1,ga5,ga10]
 and_intros
 all_goals first | omega | exact rfl | skip
 apply Y;clear Y K';simp only [List.drop_succ_cons,List.drop_zero];refine aS 19 (by simp <;> rfl) ?_;refine⟨fun g1=>?_,fun g1=>?_⟩
 ·try simp at g1
  refine bZ 4 fun K' Y=>?_;simp(maxSteps:=1000000) (disch:=first | omega | assumption) [hg,hs,ga1,ga5,ga10]
  and_intros
  all_goals first | omega | exact rfl | skip
  apply Y;clear Y K';simp only [List.drop_succ_cons,List.drop_zero];refine aS 23 (by simp <;> rfl) ?_;refine⟨fun g2=>?_,fun g2=>?_⟩
  ·try simp at g2
   refine bZ 5 fun K' Y=>?_;simp(maxSteps:=1000000) (disch:=first | omega | assumption) [hg,hs,ga1,ga5,ga10]
   and_intros
   all_goals first | omega | exact rfl | skip
   apply Y;clear Y K';simp only [List.drop_succ_cons,List.drop_zero];refine aS 28 (by simp <;> rfl) ?_;refine⟨fun g3=>?_,fun g3=>?_⟩
   ·try simp at g3
    simp(maxSteps:=1000000) (disch:=first | omega | assumption) [hg,hs,ga1,ga5,ga10]
    and_intros
    all_goals first | omega | exact rfl | skip
    apply Z;clear Z K;clear ga1 ga5 ga10;clear all;refine zi ?_;refine⟨fun c4=>?_,fun c4=>?_⟩
    ·try simp at c4
     refine zk [0,1,2,6] ?_;refine aW fun all K Z=>?_;simp(maxSteps:=1000000) (disch:=first | omega | assumption) [hg,hs]
     and_intros
     all_goals first | omega | exact rfl | skip
     apply Z;clear Z K;clear all;apply aC;apply aI;simp [aK]
    simp at c4
   simp at g3
  simp at g2
 simp at g1
theorem aBd(k m M l:Nat)(d:DS)(rk:Int→Nat)(x:RD)(ops:List TOp)(i:Int)(s:ByteArray)(c:Int)(σ2:List (List D))(σ:List (List D))(h:LX k m M l d rk x ops σ)(hk:k≤800)(hs:¬(cZ d.l i=true∧¬i=0∧(aG d.l i).kind=2∧(aG d.l i).tag=s))(hc:Ct prog 80 [.ref l 0,D.int i,D.str s] σ (fun r τ=>r=D.int c∧τ=σ2)):Ct prog 23 [.ref l 0,D.int i,D.str s] σ (fun r σ'=>r=D.int c∧σ'=σ2):=by
 refine zf (rs:=[.tmp 6]) func23 ntmps23 results23 ?_;simp only [aN];have hg:=h.at_;have hnb:=h.ix.iv.ip.NB (by omega);refine aW fun all K Z=>?_;simp(maxSteps:=1000000) (disch:=first | omega | assumption) [hg]
 and_intros
 all_goals first | omega | exact rfl | skip
 apply Z;clear Z K;clear all;apply aB;refine aW fun all K Z=>?_;refine bZ 5 fun K' Y=>?_;simp(maxSteps:=1000000) (disch:=first | omega | assumption) [hg]
 and_intros
 all_goals first | omega | exact rfl | skip
 apply Y;clear Y K';simp only [List.drop_succ_cons,List.drop_zero];refine aE fun K' Y=>?_;simp(maxSteps:=1000000) (disch:=first | omega | assumption) [hg];refine bX (zM m M d i _ h.ix.iv.ho hnb) ?_;apply Y;clear Y K';simp(maxSteps:=1000000) (disch:=first | omega | assumption) [hg]
 and_intros
 all_goals first | omega | exact rfl | skip
 apply Z;clear Z K;clear all;refine zk [0,1,2,6,7,8] ?_;refine kX ⟨[],[],[],[],[]⟩ fun all hall K Z=>?_;have ga1:aO all 1=some 19:=hall 1;have ga5:aO all 5=some 23:=hall 5;have ga10:aO all 10=some 28:=hall 10;clear hall;refine bZ 2 fun K' Y=>?_;simp(maxSteps:=1000000) (disch:=first | omega | assumption) [hg,ga1,ga5,ga10]
 and_intros
 all_goals first | omega | exact rfl | skip
 apply Y;clear Y K';simp only [List.drop_succ_cons,List.drop_zero];refine aS 19 (by simp <;> rfl) ?_;refine⟨fun g1=>?_,fun g1=>?_⟩
 ·try simp at g1
  refine bZ 4 fun K' Y=>?_;simp(maxSteps:=1000000) (disch:=first | omega | assumption) [hg,ga1,ga5,ga10]
  and_intros
  all_goals first | omega | exact rfl | skip
  apply Y;clear Y K';simp only [List.drop_succ_cons,List.drop_zero];refine aS 23 (by simp <;> rfl) ?_;refine⟨fun g2=>?_,fun g2=>?_⟩
  ·try simp at g2
   refine bZ 5 fun K' Y=>?_;simp(maxSteps:=1000000) (disch:=first | omega | assumption) [hg,ga1,ga5,ga10]
   and_intros
   all_goals first | omega | exact rfl | skip
   apply Y;clear Y K';simp only [List.drop_succ_cons,List.drop_zero];refine aS 28 (by simp <;> rfl) ?_;refine⟨fun g3=>?_,fun g3=>?_⟩
   ·try simp at g3
    simp(maxSteps:=1000000) (disch:=first | omega | assumption) [hg,ga1,ga5,ga10]
    and_intros
    all_goals first | omega | exact rfl | skip
    apply Z;clear Z K;clear ga1 ga5 ga10;clear all;refine zi ?_;refine⟨fun c4=>?_,fun c4=>?_⟩
    ·try simp at c4
     exact absurd ⟨g1,g2,g3,c4⟩ hs
    try simp at c4
    apply aD;apply aA;refine zk [0,1,2,6] ?_;refine aW fun all K Z=>?_;refine bZ 3 fun K' Y=>?_;simp(maxSteps:=1000000) (disch:=first | omega | assumption) [hg]
    and_intros
    all_goals first | omega | exact rfl | skip
    apply Y;clear Y K';simp only [List.drop_succ_cons,List.drop_zero];refine aE fun K' Y=>?_;simp(maxSteps:=1000000) (disch:=first | omega | assumption) [hg];refine bX (hc) ?_;apply Y;clear Y K';simp(maxSteps:=1000000) (disch:=first | omega | assumption) [hg]
    and_intros
    all_goals first | omega | exact rfl | skip
    apply Z;clear Z K;clear all;apply aC;simp [aK]
   try simp at g3
   simp(maxSteps:=1000000) (disch:=first | omega | assumption) [hg,ga1,ga5,ga10]
   and_intros
   all_goals first | omega | exact rfl | skip
   apply Z;clear Z K;clear ga1 ga5 ga10;clear all;refine bD (t:=false) (by simp) (fun h=>by cases h) (fun _=>?_);apply aD;apply aA;refine zk [0,1,2,6] ?_;refine aW fun all K Z=>?_;refine bZ 3 fun K' Y=>?_;simp(maxSteps:=1000000) (disch:=first | omega | assumption) [hg]
   and_intros
   all_goals first | omega | exact rfl | skip
   apply Y;clear Y K';simp only [List.drop_succ_cons,List.drop_zero];refine aE fun K' Y=>?_;simp(maxSteps:=1000000) (disch:=first | omega | assumption) [hg];refine bX (hc) ?_;apply Y;clear Y K';simp(maxSteps:=1000000) (disch:=first | omega | assumption) [hg]
   and_intros
   all_goals first | omega | exact rfl | skip
   apply Z;clear Z K;clear all;apply aC;simp [aK]
  try simp at g2
  refine bZ 5 fun K' Y=>?_;simp(maxSteps:=1000000) (disch:=first | omega | assumption) [hg,ga1,ga5,ga10]
  and_intros
  all_goals first | omega | exact rfl | skip
  apply Y;clear Y K';simp only [List.drop_succ_cons,List.drop_zero];simp(maxSteps:=1000000) (disch:=first | omega | assumption) [hg,ga1,ga5,ga10]
  and_intros
  all_goals first | omega | exact rfl | skip
  apply Z;clear Z K;clear ga1 ga5 ga10;clear all;refine bD (t:=false) (by simp) (fun h=>by cases h) (fun _=>?_);apply aD;apply aA;refine zk [0,1,2,6] ?_;refine aW fun all K Z=>?_;refine bZ 3 fun K' Y=>?_;simp(maxSteps:=1000000) (disch:=first | omega | assumption) [hg]
  and_intros
  all_goals first | omega | exact rfl | skip
  apply Y;clear Y K';simp only [List.drop_succ_cons,List.drop_zero];refine aE fun K' Y=>?_;simp(maxSteps:=1000000) (disch:=first | omega | assumption) [hg];refine bX (hc) ?_;apply Y;clear Y K';simp(maxSteps:=1000000) (disch:=first | omega | assumption) [hg]
  and_intros
  all_goals first | omega | exact rfl | skip
  apply Z;clear Z K;clear all;apply aC;simp [aK]
 try simp at g1
 refine bZ 4 fun K' Y=>?_;simp(maxSteps:=1000000) (disch:=first | omega | assumption) [hg,ga1,ga5,ga10]
 and_intros
 all_goals first | omega | exact rfl | skip
 apply Y;clear Y K';simp only [List.drop_succ_cons,List.drop_zero];refine bZ 5 fun K' Y=>?_;simp(maxSteps:=1000000) (disch:=first | omega | assumption) [hg,ga1,ga5,ga10]
 and_intros
 all_goals first | omega | exact rfl | skip
 apply Y;clear Y K';simp only [List.drop_succ_cons,List.drop_zero];simp(maxSteps:=1000000) (disch:=first | omega | assumption) [hg,ga1,ga5,ga10]
 and_intros
 all_goals first | omega | exact rfl | skip
 apply Z;clear Z K;clear ga1 ga5 ga10;clear all;refine bD (t:=false) (by simp) (fun h=>by cases h) (fun _=>?_);apply aD;apply aA;refine zk [0,1,2,6] ?_;refine aW fun all K Z=>?_;refine bZ 3 fun K' Y=>?_;simp(maxSteps:=1000000) (disch:=first | omega | assumption) [hg]
 and_intros
 all_goals first | omega | exact rfl | skip
 apply Y;clear Y K';simp only [List.drop_succ_cons,List.drop_zero];refine aE fun K' Y=>?_;simp(maxSteps:=1000000) (disch:=first | omega | assumption) [hg];refine bX (hc) ?_;apply Y;clear Y K';simp(maxSteps:=1000000) (disch:=first | omega | assumption) [hg]
 and_intros
 all_goals first | omega | exact rfl | skip
 apply Z;clear Z K;clear all;apply aC;simp [aK]
end Go.Proofs.YtbgfljpnhhdkoaaGreat
