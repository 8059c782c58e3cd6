import Derived.Test.YtbgfljpnhhdkoaaGreatWkPa2
import Derived.Test.YtbgfljpnhhdkoaaGreatWkWv0
open Go.Proofs.Tryz
set_option maxHeartbeats 1000000
set_option linter.all false
namespace Go.Proofs.YtbgfljpnhhdkoaaGreat
open Go Go.Vm
theorem WT.permP {a b:List ND} {rk:Int→Nat} (h:a.Perm b)(hw:WT b rk):WT a rk:=by
 have hm:∀n,n∈a↔n∈b:=fun n=>h.mem_iff;refine⟨(h.map ND.ID).nodup_iff.2 hw.nd,fun n hn k hk=>?_,fun n hn=>?_,fun n hn=>hw.nn n ((hm n).1 hn),fun n hn=>hw.kn n ((hm n).1 hn),fun n hn=>hw.dec n ((hm n).1 hn)⟩
 ·obtain⟨c,h1,h2⟩:=hw.kids n ((hm n).1 hn) k hk;exact⟨c,(hm c).2 h1,h2⟩
 rcases hw.par n ((hm n).1 hn)with h1 | ⟨p,h1,h2⟩
 ·exact .inl h1
 exact .inr ⟨p,(hm p).2 h1,h2⟩
variable {k m M l:Nat} {d:DS} {rk:Int→Nat} {x y:RD} {σ:List (List D)} {ops' o:List TOp} {p c co:Int} {to:List Int}
theorem Xa(h:IX k m M d rk x σ):sX x.l=sX d.l:=by
 funext b p s;unfold sX jL;rw [h.xp.fd,h.xp.il,h.xp.wb]
theorem sA(h:IX k m M d rk x σ):aF x.l=aF d.l:=h.xp.fd
theorem Iw(h:IX k m M d rk x σ):cX x.l=cX d.l:=h.xp.il
theorem aDj(h:IX k m M d rk x σ):WT x.l rk:=h.iv.wt.permP h.xp.l
theorem aKh(h:IX k m M d rk x σ):bL x.l rk=bL d.l rk:=nJ h.xp.fd rk
theorem Pq(h:IX k m M d rk x σ) {ops:List TOp} (h1:cX d.l p=true)(h2:(aF d.l p).kind=2)(hb:∀s∈fZ (aF d.l p).kids to,¬sX d.l (bL d.l rk) p s)(hk:KR p (fZ (aF d.l p).kids to) x ops y ops')(z0:RD):
  ops'=ops++(fZ (aF d.l p).kids to).map (Ee p)∧KI x y p (jE (aF d.l p).kids (bW to) (bW (iK (aF d.l p).kids (bW to))) (bW to).length).1∧(RPath z0 ops x→RPath z0 ops' y):=by
 rw [← sA h] at *;rw [← Iw h] at h1;rw [← Xa h,← aKh h] at hb;have hw:=aDj h;have hnd:(aF x.l p).kids.Nodup:=by
  obtain⟨P,hP,hPi,hPe⟩:=cY h1;rw [hPe];exact hw.kn P hP
 have e:fZ (aF x.l p).kids to=(jE (aF x.l p).kids (bW to) (bW (iK (aF x.l p).kids (bW to))) (bW to).length).2:=by unfold fZ;rw [Ho hnd]
 rw [e] at hb hk ⊢;exact aA6 hw h1 h2 (pO to) (Jx fun i hi=>by have:=Lis.ofP_lt _ i hi;rwa [lY] at this) (Nat.le_refl _) hb hk
end Go.Proofs.YtbgfljpnhhdkoaaGreat
namespace Go.Proofs.YtbgfljpnhhdkoaaGreat
open Go Go.Vm
set_option maxRecDepth 20000
set_option maxHeartbeats 8000000
theorem kD(k m M l:Nat)(d:DS)(rk:Int→Nat)(x y:RD)(ops:List TOp)(σ:List (List D))(h:LX k m M l d rk y ops σ)(hk:k≤800)(hp:RPath x ops y):Ct prog 19 [.ref l 0,dO x,.sl false (ops.map gE)] σ (fun r σ'=>r= .bool true∧σ'=σ):=by
 refine zf (rs:=[.tmp 6]) func19 ntmps19 results19 ?_;simp only [aO];have hg:=h.at_;have hol:=h.len;refine aV fun _ _ Z=>?_;simp(disch:=omega)[hg];apply Z;refine aV fun _ _ Z=>?_;refine zs 1 fun _ Y=>?_;simp(disch:=omega)[hg];apply Y;refine aD fun _ Y=>?_;simp(disch:=omega)[hg];refine cD (Fp l m ops _ (by omega) hg) ?_;apply Y;simp(disch:=omega)[hg];apply Z;apply aC;refine aV fun _ _ Z=>?_;simp(disch:=omega)[hg];and_intros<;>(try omega);apply Z;refine zi ?_;refine⟨fun c1=>?_,fun c1=>?_⟩
 ·simp at c1
 try simp at c1
 apply aE;apply aA;apply aC;refine aV fun _ _ Z=>?_;simp(disch:=omega)[hg];and_intros<;>(try omega);apply Z;apply aH;refine zk [0,2,4,6,7,20,21] ?_;refine bE (fun(j:Nat)=> [(21,.d (.v (.int .i64 (j:Int)))),(8,.d (.any))]) [6,8,21,22,23,24,25,26,27,28,29,30,31,32,33] (fun(j:Nat)=>j≤ops.length) (fun(j:Nat)=>ops.length - j) (0) (by simp <;> rfl) ?_ ?_ ?_
 ·simp
 ·simp
 rintro j hj;simp only [List.cons_append,List.nil_append];refine aV fun _ _ Z=>?_;simp(disch:=omega)[hg];apply Z;apply aC;refine zi ?_;refine⟨fun c2=>?_,fun c2=>?_⟩
 ·try simp at c2
  apply aE;apply aA;apply aC;apply aH;refine aV fun _ _ Z=>?_;simp(disch:=omega)[hg];apply Z;refine zd ⟨[],[],[],[],[]⟩ [.op {},.op {},.op {},.op {},.op {},.op {},.op {},.op {},.op {}] fun all hall _ Z=>?_;refine dJ 8 fun _ Y=>?_;simp(disch:=omega)[hg];and_intros<;>(try omega);apply Y;simp(disch:=omega)[hg];apply Z;refine zi ?_;refine⟨fun c3=>?_,fun c3=>?_⟩
  ·simp at c3
  try simp at c3
  apply aE;apply aL;apply aA;refine zk [0,2,4,7,8,20,21] ?_;refine rH fun _ _ Z=>?_;simp(disch:=omega)[hg];and_intros<;>(try omega);apply Z;refine zq (j+1) ?_ ?_ ?_
  ·omega
  ·try dsimp only
   omega
  simp(disch:=omega)[hg]
 try simp at c2
 apply bA;apply aZ;apply bB;apply aW;apply aA;refine aV fun _ _ Z=>?_;refine zs 2 fun _ Y=>?_;simp(disch:=omega)[hg];apply Y;refine aD fun _ Y=>?_;simp(disch:=omega)[hg];refine cD (hp.replay (by omega) _) ?_;apply Y;simp(disch:=omega)[hg];apply Z;refine zk [0,2,9,10,11] ?_;refine zd ⟨[],[],[],[],[]⟩ [.op {},.op {},.op {},.op {},.op {},.op {},.op {},.op {},.op {},.op {},.op {},.op {},.op {rO:=true},.op {rL:=true},.read,.op {},.op {}] fun all hall _ Z=>?_;have ga4:aN all 4=some 45:=hall 4;have ga8:aN all 8=some 49:=hall 8;refine dJ 5 fun _ Y=>?_;simp(disch:=omega)[hg,ga4,ga8];and_intros<;>(try omega);apply Y;refine bN 45 (by simp <;> rfl) ?_;refine⟨fun g4=>?_,fun g4=>?_⟩
 ·try simp at g4
  refine dJ 4 fun _ Y=>?_;simp(disch:=omega)[hg,ga4,ga8];apply Y;refine bN 49 (by simp <;> rfl) ?_;refine⟨fun g5=>?_,fun g5=>?_⟩
  ·try simp at g5
   refine dJ 5 fun _ Y=>?_;simp(disch:=omega)[hg,ga4,ga8];apply Y;refine oW ga8 fun _ Y=>?_;simp(disch:=omega)[hg,ga4,ga8];refine sR (rN k m M d rk y _ h.ix hk) ?_;apply Y;simp(disch:=omega)[hg,ga4,ga8];apply Z;apply aB;simp [aJ]
  simp at g5
 simp at g4
theorem Xy(k m M l:Nat)(d:DS)(rk:Int→Nat)(x:RD)(ops:List TOp)(i:Int)(s:ByteArray)(σ:List (List D))(h:LX k m M l d rk x ops σ)(hk:k≤800)(hs:(cX d.l i=true∧¬i=0∧(aF d.l i).kind=2∧(aF d.l i).tag=s)):Ct prog 23 [.ref l 0,D.int i,D.str s] σ (fun r σ'=>r= .int 0∧σ'=σ):=by
 refine zf (rs:=[.tmp 6]) func23 ntmps23 results23 ?_;simp only [aO];have hg:=h.at_;have hnb:=h.ix.iv.ip.NB (by omega);refine aV fun all K Z=>?_;simp(maxSteps:=1000000) (disch:=first | omega | assumption) [hg,hs]
 and_intros
 all_goals first | omega | exact rfl | skip
 apply Z;clear Z K;clear all;apply aC;refine aV fun all K Z=>?_;refine bF 5 fun K' Y=>?_;simp(maxSteps:=1000000) (disch:=first | omega | assumption) [hg,hs]
 and_intros
 all_goals first | omega | exact rfl | skip
 apply Y;clear Y K';simp only [List.drop_succ_cons,List.drop_zero];refine aD fun K' Y=>?_;simp(maxSteps:=1000000) (disch:=first | omega | assumption) [hg,hs];refine cD (sM m M d i _ h.ix.iv.ho hnb) ?_;apply Y;clear Y K';simp(maxSteps:=1000000) (disch:=first | omega | assumption) [hg,hs]
 and_intros
 all_goals first | omega | exact rfl | skip
 apply Z;clear Z K;clear all;refine zk [0,1,2,6,7,8] ?_;refine kF ⟨[],[],[],[],[]⟩ fun all hall K Z=>?_;have ga1:aN all 1=some 19:=hall 1;have ga5:aN all 5=some 23:=hall 5;have ga10:aN all 10=some 28:=hall 10;clear hall;refine bF 2 fun K' Y=>?_;simp(maxSteps:=1000000) (disch:=first | omega | assumption) [hg,hs,ga1,ga5,ga10]
 and_intros
 all_goals first | omega | exact rfl | skip
 apply Y;clear Y K';simp only [List.drop_succ_cons,List.drop_zero];refine aR 19 (by simp <;> rfl) ?_;refine⟨fun g1=>?_,fun g1=>?_⟩
 ·try simp at g1
  refine bF 4 fun K' Y=>?_;simp(maxSteps:=1000000) (disch:=first | omega | assumption) [hg,hs,ga1,ga5,ga10]
  and_intros
  all_goals first | omega | exact rfl | skip
  apply Y;clear Y K';simp only [List.drop_succ_cons,List.drop_zero];refine aR 23 (by simp <;> rfl) ?_;refine⟨fun g2=>?_,fun g2=>?_⟩
  ·try simp at g2
   refine bF 5 fun K' Y=>?_;simp(maxSteps:=1000000) (disch:=first | omega | assumption) [hg,hs,ga1,ga5,ga10]
   and_intros
   all_goals first | omega | exact rfl | skip
   apply Y;clear Y K';simp only [List.drop_succ_cons,List.drop_zero];refine aR 28 (by simp <;> rfl) ?_;refine⟨fun g3=>?_,fun g3=>?_⟩
   ·try simp at g3
    simp(maxSteps:=1000000) (disch:=first | omega | assumption) [hg,hs,ga1,ga5,ga10]
    and_intros
    all_goals first | omega | exact rfl | skip
    apply Z;clear Z K;clear ga1 ga5 ga10;clear all;refine zi ?_;refine⟨fun c4=>?_,fun c4=>?_⟩
    ·try simp at c4
     refine zk [0,1,2,6] ?_;refine aV fun all K Z=>?_;simp(maxSteps:=1000000) (disch:=first | omega | assumption) [hg,hs]
     and_intros
     all_goals first | omega | exact rfl | skip
     apply Z;clear Z K;clear all;apply aB;apply aI;simp [aJ]
    simp at c4
   simp at g3
  simp at g2
 simp at g1
theorem Xi(k m M l:Nat)(d:DS)(rk:Int→Nat)(x:RD)(ops:List TOp)(i:Int)(s:ByteArray)(c:Int)(σ2:List (List D))(σ:List (List D))(h:LX k m M l d rk x ops σ)(hk:k≤800)(hs:¬(cX d.l i=true∧¬i=0∧(aF d.l i).kind=2∧(aF d.l i).tag=s))(hc:Ct prog 80 [.ref l 0,D.int i,D.str s] σ (fun r τ=>r=D.int c∧τ=σ2)):Ct prog 23 [.ref l 0,D.int i,D.str s] σ (fun r σ'=>r=D.int c∧σ'=σ2):=by
 refine zf (rs:=[.tmp 6]) func23 ntmps23 results23 ?_;simp only [aO];have hg:=h.at_;have hnb:=h.ix.iv.ip.NB (by omega);refine aV fun all K Z=>?_;simp(maxSteps:=1000000) (disch:=first | omega | assumption) [hg]
 and_intros
 all_goals first | omega | exact rfl | skip
 apply Z;clear Z K;clear all;apply aC;refine aV fun all K Z=>?_;refine bF 5 fun K' Y=>?_;simp(maxSteps:=1000000) (disch:=first | omega | assumption) [hg]
 and_intros
 all_goals first | omega | exact rfl | skip
 apply Y;clear Y K';simp only [List.drop_succ_cons,List.drop_zero];refine aD fun K' Y=>?_;simp(maxSteps:=1000000) (disch:=first | omega | assumption) [hg];refine cD (sM m M d i _ h.ix.iv.ho hnb) ?_;apply Y;clear Y K';simp(maxSteps:=1000000) (disch:=first | omega | assumption) [hg]
 and_intros
 all_goals first | omega | exact rfl | skip
 apply Z;clear Z K;clear all;refine zk [0,1,2,6,7,8] ?_;refine kF ⟨[],[],[],[],[]⟩ fun all hall K Z=>?_;have ga1:aN all 1=some 19:=hall 1;have ga5:aN all 5=some 23:=hall 5;have ga10:aN all 10=some 28:=hall 10;clear hall;refine bF 2 fun K' Y=>?_;simp(maxSteps:=1000000) (disch:=first | omega | assumption) [hg,ga1,ga5,ga10]
 and_intros
 all_goals first | omega | exact rfl | skip
 apply Y;clear Y K';simp only [List.drop_succ_cons,List.drop_zero];refine aR 19 (by simp <;> rfl) ?_;refine⟨fun g1=>?_,fun g1=>?_⟩
 ·try simp at g1
  refine bF 4 fun K' Y=>?_;simp(maxSteps:=1000000) (disch:=first | omega | assumption) [hg,ga1,ga5,ga10]
  and_intros
  all_goals first | omega | exact rfl | skip
  apply Y;clear Y K';simp only [List.drop_succ_cons,List.drop_zero];refine aR 23 (by simp <;> rfl) ?_;refine⟨fun g2=>?_,fun g2=>?_⟩
  ·try simp at g2
   refine bF 5 fun K' Y=>?_;simp(maxSteps:=1000000) (disch:=first | omega | assumption) [hg,ga1,ga5,ga10]
   and_intros
   all_goals first | omega | exact rfl | skip
   apply Y;clear Y K';simp only [List.drop_succ_cons,List.drop_zero];refine aR 28 (by simp <;> rfl) ?_;refine⟨fun g3=>?_,fun g3=>?_⟩
   ·try simp at g3
    simp(maxSteps:=1000000) (disch:=first | omega | assumption) [hg,ga1,ga5,ga10]
    and_intros
    all_goals first | omega | exact rfl | skip
    apply Z;clear Z K;clear ga1 ga5 ga10;clear all;refine zi ?_;refine⟨fun c4=>?_,fun c4=>?_⟩
    ·try simp at c4
     exact absurd ⟨g1,g2,g3,c4⟩ hs
    try simp at c4
    apply aE;apply aA;refine zk [0,1,2,6] ?_;refine aV fun all K Z=>?_;refine bF 3 fun K' Y=>?_;simp(maxSteps:=1000000) (disch:=first | omega | assumption) [hg]
    and_intros
    all_goals first | omega | exact rfl | skip
    apply Y;clear Y K';simp only [List.drop_succ_cons,List.drop_zero];refine aD fun K' Y=>?_;simp(maxSteps:=1000000) (disch:=first | omega | assumption) [hg];refine cD (hc) ?_;apply Y;clear Y K';simp(maxSteps:=1000000) (disch:=first | omega | assumption) [hg]
    and_intros
    all_goals first | omega | exact rfl | skip
    apply Z;clear Z K;clear all;apply aB;simp [aJ]
   try simp at g3
   simp(maxSteps:=1000000) (disch:=first | omega | assumption) [hg,ga1,ga5,ga10]
   and_intros
   all_goals first | omega | exact rfl | skip
   apply Z;clear Z K;clear ga1 ga5 ga10;clear all;refine bD (t:=false) (by simp) (fun h=>by cases h) (fun _=>?_);apply aE;apply aA;refine zk [0,1,2,6] ?_;refine aV fun all K Z=>?_;refine bF 3 fun K' Y=>?_;simp(maxSteps:=1000000) (disch:=first | omega | assumption) [hg]
   and_intros
   all_goals first | omega | exact rfl | skip
   apply Y;clear Y K';simp only [List.drop_succ_cons,List.drop_zero];refine aD fun K' Y=>?_;simp(maxSteps:=1000000) (disch:=first | omega | assumption) [hg];refine cD (hc) ?_;apply Y;clear Y K';simp(maxSteps:=1000000) (disch:=first | omega | assumption) [hg]
   and_intros
   all_goals first | omega | exact rfl | skip
   apply Z;clear Z K;clear all;apply aB;simp [aJ]
  try simp at g2
  refine bF 5 fun K' Y=>?_;simp(maxSteps:=1000000) (disch:=first | omega | assumption) [hg,ga1,ga5,ga10]
  and_intros
  all_goals first | omega | exact rfl | skip
  apply Y;clear Y K';simp only [List.drop_succ_cons,List.drop_zero];simp(maxSteps:=1000000) (disch:=first | omega | assumption) [hg,ga1,ga5,ga10]
  and_intros
  all_goals first | omega | exact rfl | skip
  apply Z;clear Z K;clear ga1 ga5 ga10;clear all;refine bD (t:=false) (by simp) (fun h=>by cases h) (fun _=>?_);apply aE;apply aA;refine zk [0,1,2,6] ?_;refine aV fun all K Z=>?_;refine bF 3 fun K' Y=>?_;simp(maxSteps:=1000000) (disch:=first | omega | assumption) [hg]
  and_intros
  all_goals first | omega | exact rfl | skip
  apply Y;clear Y K';simp only [List.drop_succ_cons,List.drop_zero];refine aD fun K' Y=>?_;simp(maxSteps:=1000000) (disch:=first | omega | assumption) [hg];refine cD (hc) ?_;apply Y;clear Y K';simp(maxSteps:=1000000) (disch:=first | omega | assumption) [hg]
  and_intros
  all_goals first | omega | exact rfl | skip
  apply Z;clear Z K;clear all;apply aB;simp [aJ]
 try simp at g1
 refine bF 4 fun K' Y=>?_;simp(maxSteps:=1000000) (disch:=first | omega | assumption) [hg,ga1,ga5,ga10]
 and_intros
 all_goals first | omega | exact rfl | skip
 apply Y;clear Y K';simp only [List.drop_succ_cons,List.drop_zero];refine bF 5 fun K' Y=>?_;simp(maxSteps:=1000000) (disch:=first | omega | assumption) [hg,ga1,ga5,ga10]
 and_intros
 all_goals first | omega | exact rfl | skip
 apply Y;clear Y K';simp only [List.drop_succ_cons,List.drop_zero];simp(maxSteps:=1000000) (disch:=first | omega | assumption) [hg,ga1,ga5,ga10]
 and_intros
 all_goals first | omega | exact rfl | skip
 apply Z;clear Z K;clear ga1 ga5 ga10;clear all;refine bD (t:=false) (by simp) (fun h=>by cases h) (fun _=>?_);apply aE;apply aA;refine zk [0,1,2,6] ?_;refine aV fun all K Z=>?_;refine bF 3 fun K' Y=>?_;simp(maxSteps:=1000000) (disch:=first | omega | assumption) [hg]
 and_intros
 all_goals first | omega | exact rfl | skip
 apply Y;clear Y K';simp only [List.drop_succ_cons,List.drop_zero];refine aD fun K' Y=>?_;simp(maxSteps:=1000000) (disch:=first | omega | assumption) [hg];refine cD (hc) ?_;apply Y;clear Y K';simp(maxSteps:=1000000) (disch:=first | omega | assumption) [hg]
 and_intros
 all_goals first | omega | exact rfl | skip
 apply Z;clear Z K;clear all;apply aB;simp [aJ]
theorem Xd(k m M l:Nat)(d:DS)(rk:Int→Nat)(x:RD)(ops:List TOp)(i:Int)(s:ByteArray)(σ:List (List D))(h:LX k m M l d rk x ops σ)(hk:k≤800)(hs:(cX d.l i=true∧(aF d.l i).kind=1∧(aF d.l i).text=s)):Ct prog 24 [.ref l 0,D.int i,D.str s] σ (fun r σ'=>r= .int 0∧σ'=σ):=by
 refine zf (rs:=[.tmp 6]) func24 ntmps24 results24 ?_;simp only [aO];have hg:=h.at_;have hnb:=h.ix.iv.ip.NB (by omega);refine aV fun all K Z=>?_;simp(maxSteps:=1000000) (disch:=first | omega | assumption) [hg,hs]
 and_intros
 all_goals first | omega | exact rfl | skip
 apply Z;clear Z K;clear all;apply aC;refine aV fun all K Z=>?_;refine bF 5 fun K' Y=>?_;simp(maxSteps:=1000000) (disch:=first | omega | assumption) [hg,hs]
 and_intros
 all_goals first | omega | exact rfl | skip
 apply Y;clear Y K';simp only [List.drop_succ_cons,List.drop_zero];refine aD fun K' Y=>?_;simp(maxSteps:=1000000) (disch:=first | omega | assumption) [hg,hs];refine cD (sM m M d i _ h.ix.iv.ho hnb) ?_;apply Y;clear Y K';simp(maxSteps:=1000000) (disch:=first | omega | assumption) [hg,hs]
 and_intros
 all_goals first | omega | exact rfl | skip
 apply Z;clear Z K;clear all;refine zk [0,1,2,6,7,8] ?_;refine kF ⟨[],[],[],[],[]⟩ fun all hall K Z=>?_;have ga1:aN all 1=some 19:=hall 1;have ga6:aN all 6=some 24:=hall 6;clear hall;refine bF 2 fun K' Y=>?_;simp(maxSteps:=1000000) (disch:=first | omega | assumption) [hg,hs,ga1,ga6]
 and_intros
 all_goals first | omega | exact rfl | skip
 apply Y;clear Y K';simp only [List.drop_succ_cons,List.drop_zero];refine aR 19 (by simp <;> rfl) ?_;refine⟨fun g1=>?_,fun g1=>?_⟩
 ·try simp at g1
  refine bF 5 fun K' Y=>?_;simp(maxSteps:=1000000) (disch:=first | omega | assumption) [hg,hs,ga1,ga6]
  and_intros
  all_goals first | omega | exact rfl | skip
  apply Y;clear Y K';simp only [List.drop_succ_cons,List.drop_zero];refine aR 24 (by simp <;> rfl) ?_;refine⟨fun g2=>?_,fun g2=>?_⟩
  ·try simp at g2
   simp(maxSteps:=1000000) (disch:=first | omega | assumption) [hg,hs,ga1,ga6]
   and_intros
   all_goals first | omega | exact rfl | skip
   apply Z;clear Z K;clear ga1 ga6;clear all;refine zi ?_;refine⟨fun c3=>?_,fun c3=>?_⟩
   ·try simp at c3
    refine zk [0,1,2,6] ?_;refine aV fun all K Z=>?_;simp(maxSteps:=1000000) (disch:=first | omega | assumption) [hg,hs]
    and_intros
    all_goals first | omega | exact rfl | skip
    apply Z;clear Z K;clear all;apply aB;apply aI;simp [aJ]
   simp at c3
  simp at g2
 simp at g1
theorem aB0(k m M l:Nat)(d:DS)(rk:Int→Nat)(x:RD)(ops:List TOp)(i:Int)(s:ByteArray)(c:Int)(σ2:List (List D))(σ:List (List D))(h:LX k m M l d rk x ops σ)(hk:k≤800)(hs:¬(cX d.l i=true∧(aF d.l i).kind=1∧(aF d.l i).text=s))(hc:Ct prog 81 [.ref l 0,D.int i,D.str s] σ (fun r τ=>r=D.int c∧τ=σ2)):Ct prog 24 [.ref l 0,D.int i,D.str s] σ (fun r σ'=>r=D.int c∧σ'=σ2):=by
 refine zf (rs:=[.tmp 6]) func24 ntmps24 results24 ?_;simp only [aO];have hg:=h.at_;have hnb:=h.ix.iv.ip.NB (by omega);refine aV fun all K Z=>?_;simp(maxSteps:=1000000) (disch:=first | omega | assumption) [hg]
 and_intros
 all_goals first | omega | exact rfl | skip
 apply Z;clear Z K;clear all;apply aC;refine aV fun all K Z=>?_;refine bF 5 fun K' Y=>?_;simp(maxSteps:=1000000) (disch:=first | omega | assumption) [hg]
 and_intros
 all_goals first | omega | exact rfl | skip
 apply Y;clear Y K';simp only [List.drop_succ_cons,List.drop_zero];refine aD fun K' Y=>?_;simp(maxSteps:=1000000) (disch:=first | omega | assumption) [hg];refine cD (sM m M d i _ h.ix.iv.ho hnb) ?_;apply Y;clear Y K';simp(maxSteps:=1000000) (disch:=first | omega | assumption) [hg]
 and_intros
 all_goals first | omega | exact rfl | skip
 apply Z;clear Z K;clear all;refine zk [0,1,2,6,7,8] ?_;refine kF ⟨[],[],[],[],[]⟩ fun all hall K Z=>?_;have ga1:aN all 1=some 19:=hall 1;have ga6:aN all 6=some 24:=hall 6;clear hall;refine bF 2 fun K' Y=>?_;simp(maxSteps:=1000000) (disch:=first | omega | assumption) [hg,ga1,ga6]
 and_intros
 all_goals first | omega | exact rfl | skip
 apply Y;clear Y K';simp only [List.drop_succ_cons,List.drop_zero];refine aR 19 (by simp <;> rfl) ?_;refine⟨fun g1=>?_,fun g1=>?_⟩
 ·try simp at g1
  refine bF 5 fun K' Y=>?_;simp(maxSteps:=1000000) (disch:=first | omega | assumption) [hg,ga1,ga6]
  and_intros
  all_goals first | omega | exact rfl | skip
  apply Y;clear Y K';simp only [List.drop_succ_cons,List.drop_zero];refine aR 24 (by simp <;> rfl) ?_;refine⟨fun g2=>?_,fun g2=>?_⟩
  ·try simp at g2
   simp(maxSteps:=1000000) (disch:=first | omega | assumption) [hg,ga1,ga6]
   and_intros
   all_goals first | omega | exact rfl | skip
   apply Z;clear Z K;clear ga1 ga6;clear all;refine zi ?_;refine⟨fun c3=>?_,fun c3=>?_⟩
   ·try simp at c3
    exact absurd ⟨g1,g2,c3⟩ hs
   try simp at c3
   apply aE;apply aA;refine zk [0,1,2,6] ?_;refine aV fun all K Z=>?_;refine bF 3 fun K' Y=>?_;simp(maxSteps:=1000000) (disch:=first | omega | assumption) [hg]
   and_intros
   all_goals first | omega | exact rfl | skip
   apply Y;clear Y K';simp only [List.drop_succ_cons,List.drop_zero];refine aD fun K' Y=>?_;simp(maxSteps:=1000000) (disch:=first | omega | assumption) [hg];refine cD (hc) ?_;apply Y;clear Y K';simp(maxSteps:=1000000) (disch:=first | omega | assumption) [hg]
   and_intros
   all_goals first | omega | exact rfl | skip
   apply Z;clear Z K;clear all;apply aB;simp [aJ]
  try simp at g2
  simp(maxSteps:=1000000) (disch:=first | omega | assumption) [hg,ga1,ga6]
  and_intros
  all_goals first | omega | exact rfl | skip
  apply Z;clear Z K;clear ga1 ga6;clear all;refine bD (t:=false) (by simp) (fun h=>by cases h) (fun _=>?_);apply aE;apply aA;refine zk [0,1,2,6] ?_;refine aV fun all K Z=>?_;refine bF 3 fun K' Y=>?_;simp(maxSteps:=1000000) (disch:=first | omega | assumption) [hg]
  and_intros
  all_goals first | omega | exact rfl | skip
  apply Y;clear Y K';simp only [List.drop_succ_cons,List.drop_zero];refine aD fun K' Y=>?_;simp(maxSteps:=1000000) (disch:=first | omega | assumption) [hg];refine cD (hc) ?_;apply Y;clear Y K';simp(maxSteps:=1000000) (disch:=first | omega | assumption) [hg]
  and_intros
  all_goals first | omega | exact rfl | skip
  apply Z;clear Z K;clear all;apply aB;simp [aJ]
 try simp at g1
 refine bF 5 fun K' Y=>?_;simp(maxSteps:=1000000) (disch:=first | omega | assumption) [hg,ga1,ga6]
 and_intros
 all_goals first | omega | exact rfl | skip
 apply Y;clear Y K';simp only [List.drop_succ_cons,List.drop_zero];simp(maxSteps:=1000000) (disch:=first | omega | assumption) [hg,ga1,ga6]
 and_intros
 all_goals first | omega | exact rfl | skip
 apply Z;clear Z K;clear ga1 ga6;clear all;refine bD (t:=false) (by simp) (fun h=>by cases h) (fun _=>?_);apply aE;apply aA;refine zk [0,1,2,6] ?_;refine aV fun all K Z=>?_;refine bF 3 fun K' Y=>?_;simp(maxSteps:=1000000) (disch:=first | omega | assumption) [hg]
 and_intros
 all_goals first | omega | exact rfl | skip
 apply Y;clear Y K';simp only [List.drop_succ_cons,List.drop_zero];refine aD fun K' Y=>?_;simp(maxSteps:=1000000) (disch:=first | omega | assumption) [hg];refine cD (hc) ?_;apply Y;clear Y K';simp(maxSteps:=1000000) (disch:=first | omega | assumption) [hg]
 and_intros
 all_goals first | omega | exact rfl | skip
 apply Z;clear Z K;clear all;apply aB;simp [aJ]
def TagOk(n:ND):Prop:=n.ID≠0→n.kind=2→fD n.tag=true
def TagsOk(x:RD):Prop:=∀n∈x.l,TagOk n
theorem TagsOk.new(most:Int):TagsOk (newX most):=fun n hn=>by
 have:n=mH:=by simpa [newX] using hn
 subst this;intro h;exact absurd rfl h
theorem TagsOk.find {x:RD} (h:TagsOk x) {id:Int} (hl:cX x.l id=true):TagOk (aF x.l id):=by
 obtain⟨n,h1,h2,h3⟩:=cY hl;rw [h3];exact h n h1
theorem TagsOk.findI {x:RD} (h:TagsOk x) {id:Int} (hl:cX x.l id=true)(h0:¬id=0)(h2:(aF x.l id).kind=2):fD (aF x.l id).tag=true:=by
 have:=h.find hl;obtain⟨n,h1,h4,h3⟩:=cY hl;refine this ?_ h2;rw [h3,h4];exact h0
theorem TagOk.put {l:List ND} (h:∀n∈l,TagOk n) {n':ND} (hn:TagOk n'):∀n∈dE l n',TagOk n:=fun n hm=>by
 unfold dE at hm;obtain⟨y,hy,rfl⟩:=List.mem_map.1 hm;split
 ·exact hn
 exact h y hy
theorem TagsOk.add {x:RD} (h:TagsOk x)(kind:Int)(s:ByteArray)(hk:kind=1∨kind=2):TagsOk (addX x kind s).1:=by
 unfold addX;split
 ·exact h
 rename_i c1;split
 ·exact h
 intro n hn;rcases List.mem_append.1 hn with hn | hn
 ·exact h n hn
 have:n=lC x.next kind s:=by simpa using hn
 subst this;intro h1 h2;have hk2:kind=2:=h2;subst hk2;have:fD s=true:=by
  cases hs:fD s with
  | true=>rfl
  | false=>exact absurd ⟨rfl,hs⟩ c1
 simpa [lC] using this
theorem TagsOk.ins {x:RD} (h:TagsOk x)(b:Int→List Int)(p at_ id:Int):TagsOk (insX x b p at_ id).1:=by
 unfold insX;split
 ·exact h
 rename_i c1;have i1:cX x.l p=true:=by cases q:cX x.l p with | true=>rfl | false=>exact absurd (.inl q) c1
 have i2:cX x.l id=true:=by cases q:cX x.l id with | true=>rfl | false=>exact absurd (.inr q) c1
 split
 ·exact h
 split
 ·exact h
 show ∀n∈dE (dE x.l _) _,TagOk n
 refine TagOk.put (TagOk.put h ?_) ?_
 ·exact h.find i1
 exact h.find i2
theorem TagsOk.mov {x:RD} (h:TagsOk x)(id at_:Int):TagsOk (movX x id at_).1:=by
 unfold movX;split
 ·exact h
 split
 ·exact h
 rename_i c2;have i1:cX x.l (aF x.l id).parent=true:=by cases q:cX x.l (aF x.l id).parent with | true=>rfl | false=>exact absurd (.inl q) c2
 show ∀n∈dE x.l _,TagOk n
 refine TagOk.put h ?_;exact h.find i1
theorem TagsOk.rem {x:RD} (h:TagsOk x)(b:Int→List Int)(id:Int):TagsOk (remX x b id).1:=by
 unfold remX;split
 ·exact h
 split
 ·exact h
 intro n hn;have hn:=(List.mem_filter.1 hn).1;unfold remP at hn;split at hn
 ·rename_i c;exact TagOk.put h (by exact h.find c) n hn
 exact h n hn
theorem TagsOk.chN {n n':ND} (h:TagOk n) {kind:Int} {name v:ByteArray} {num:Int} (hv:¬(¬kind=1∧fD name=false))(e:chN n kind name v num=some n'):TagOk n':=by
 unfold Go.Proofs.YtbgfljpnhhdkoaaGreat.chN at e;split at e
 ·rename_i c;cases e;intro _ _;cases q:fD name with
  | true=>rfl
  | false=>exact absurd ⟨by omega,q⟩ hv
 all_goals first | (cases e;exact h) | skip
 (repeat' split at e) <;> first | (cases e;exact h) | cases e
theorem TagsOk.set {x:RD} (h:TagsOk x)(kind id:Int)(name v:ByteArray)(num:Int):TagsOk (setX x kind id name v num).1:=by
 unfold setX;split
 ·exact h
 rename_i c1;have i1:cX x.l id=true:=by cases q:cX x.l id with | true=>rfl | false=>exact absurd q c1
 split
 ·exact h
 split
 ·exact h
 split
 ·exact h
 rename_i c4;split
 ·exact h
 rename_i n hn;exact TagOk.put h (TagsOk.chN (h.find i1) c4 hn)
theorem TagsOk.act {x y:RD} {a:Act} (h:TagsOk x)(hd:DoS a x y):TagsOk y:=by
 cases hd with
 | el q=>exact h.add _ _ (.inr rfl)
 | tx q=>exact h.add _ _ (.inl rfl)
 | ins b q hb=>exact h.ins _ _ _ _
 | mov q=>exact h.mov _ _
 | rem b q hb=>exact h.rem _ _
 | set q=>exact h.set _ _ _ _ _
 | no=>exact h
theorem Dp {l:List ND} (hnd:(l.map ND.ID).Nodup) {n:ND} (hn:n∈l):dE l n=l:=by
 unfold dE
 conv=>rhs;rw [← List.map_id l]
 refine List.map_congr_left fun y hy=>?_;split
 ·rename_i e;exact(gB hnd hy hn e).symm
 rfl
theorem Lz {x:RD} (hnd:(x.l.map ND.ID).Nodup) {id:Int} (h1:cX x.l id=true)(h0:¬id=0)(h2:(aF x.l id).kind=2)(hv:fD (aF x.l id).tag=true)(v:ByteArray)(num:Int):setX x 0 id (aF x.l id).tag v num=(x,0):=by
 obtain⟨n,e1,e2,e3⟩:=cY h1;rw [jX (x:=x) (kind:=0) (id:=id) (name:=(aF x.l id).tag) (v:=v) (num:=num) (n:=aF x.l id) h1 h0 (by rw [h2];decide) (.inr hv) rfl];rw [show dE x.l (aF x.l id)=x.l by rw [e3];exact Dp hnd e1]
theorem Ld {x:RD} (hnd:(x.l.map ND.ID).Nodup) {id:Int} (h1:cX x.l id=true)(h0:¬id=0)(h2:(aF x.l id).kind=1)(name:ByteArray)(num:Int):setX x 1 id name (aF x.l id).text num=(x,0):=by
 obtain⟨n,e1,e2,e3⟩:=cY h1;rw [jX (x:=x) (kind:=1) (id:=id) (name:=name) (v:=(aF x.l id).text) (num:=num) (n:=aF x.l id) h1 h0 (by rw [h2]) (.inl rfl) rfl];rw [show dE x.l (aF x.l id)=x.l by rw [e3];exact Dp hnd e1]
section
variable {k m M l:Nat} {d:DS} {rk:Int→Nat} {x:RD} {σ:List (List D)} {ops:List TOp}
theorem Ig(h:LX k m M l d rk x ops σ)(hk:k≤790)(i:Int)(s:ByteArray)(hs:s.size≤1000):∃d' rk' y c ops' σ',Ct prog 23 [.ref l 0,D.int i,D.str s] σ (fun r τ=>r=D.int c∧τ=σ')∧LX (k+1) m M l d' rk' y ops' σ'∧
  Oth m (· =l) d d' σ σ'∧(((cX d.l i=true∧¬i=0∧(aF d.l i).kind=2∧(aF d.l i).tag=s)∧c=0∧y=x∧ops'=ops)∨(¬(cX d.l i=true∧¬i=0∧(aF d.l i).kind=2∧(aF d.l i).tag=s)∧setX x 0 i s ⟨#[]⟩ 0=(y,c)∧ops'=xB ops c ⟨6,i,0,0,s,⟨#[]⟩⟩∧
   ∀τ,Ct prog 161 [dO x,gE ⟨6,i,0,0,s,⟨#[]⟩⟩] τ (fun r τ'=>r= .tup [dO y,D.int c]∧τ'=τ))):=by
 by_cases q:cX d.l i=true∧¬i=0∧(aF d.l i).kind=2∧(aF d.l i).tag=s
 ·exact⟨d,rk,x,0,ops,σ,Xy k m M l d rk x ops i s σ h (by omega) q,h.keep,Oth.refl _ _ _ _,.inl ⟨q,rfl,rfl,rfl⟩⟩
 obtain⟨d',rk',y,c,σ',hc,hx,hd,hr,ho⟩:=aHr h (by omega) i s hs;obtain⟨b,b2,n,h1,h2,h3⟩:=hd;exact⟨d',rk',y,c,_,σ',Xi k m M l d rk x ops i s c σ' σ h (by omega) q hc,hx,ho,.inr ⟨q,by simpa using h3.2.2.2.2.2.2.2 (by simp) (by simp),rfl,hr⟩⟩
theorem Wr(h:LX k m M l d rk x ops σ)(hk:k≤790)(i:Int)(s:ByteArray)(hs:s.size≤1000):∃d' rk' y c ops' σ',Ct prog 24 [.ref l 0,D.int i,D.str s] σ (fun r τ=>r=D.int c∧τ=σ')∧LX (k+1) m M l d' rk' y ops' σ'∧
  Oth m (· =l) d d' σ σ'∧(((cX d.l i=true∧(aF d.l i).kind=1∧(aF d.l i).text=s)∧c=0∧y=x∧ops'=ops)∨(¬(cX d.l i=true∧(aF d.l i).kind=1∧(aF d.l i).text=s)∧setX x 1 i ⟨#[]⟩ s 0=(y,c)∧ops'=xB ops c ⟨7,i,0,0,⟨#[]⟩,s⟩∧
   ∀τ,Ct prog 161 [dO x,gE ⟨7,i,0,0,⟨#[]⟩,s⟩] τ (fun r τ'=>r= .tup [dO y,D.int c]∧τ'=τ))):=by
 by_cases q:cX d.l i=true∧(aF d.l i).kind=1∧(aF d.l i).text=s
 ·exact⟨d,rk,x,0,ops,σ,Xd k m M l d rk x ops i s σ h (by omega) q,h.keep,Oth.refl _ _ _ _,.inl ⟨q,rfl,rfl,rfl⟩⟩
 obtain⟨d',rk',y,c,σ',hc,hx,hd,hr,ho⟩:=aHu h (by omega) i s hs;obtain⟨b,b2,n,h1,h2,h3⟩:=hd;exact⟨d',rk',y,c,_,σ',aB0 k m M l d rk x ops i s c σ' σ h (by omega) q hc,hx,ho,.inr ⟨q,by simpa using h3.2.2.2.2.2.2.2 (by simp) (by simp),rfl,hr⟩⟩
end
abbrev ulB:ByteArray:=⟨#[117,108]⟩
abbrev liB:ByteArray:=⟨#[108,105]⟩
def pAw:List Act:= [⟨0,0,0,0,ulB,⟨#[]⟩⟩,⟨0,0,0,0,liB,⟨#[]⟩⟩,⟨0,0,0,0,liB,⟨#[]⟩⟩]
def pX:Nat→RD
 | 0=>newX 20
 | k+1=>(addX (pX k) 2 (if k=0 then ulB else liB)).1
theorem DoS.el' {a:Act} {x y:RD} (h:DoS a x y)(q:(bZ a).kind=0):y=(addX x 2 (bZ a).name).1:=by
 cases h with
 | el=>rfl
 | tx q1=>omega
 | ins b q1=>omega
 | mov q1=>omega
 | rem b q1=>omega
 | set q1=>omega
 | no q1=>exact absurd q q1
theorem aCw(k:Nat)(hk:k<pAw.length)(x y:RD)(hx:x=pX k)(h:DoS pAw[k] x y):y=pX (k+1):=by
 subst hx
 match k,hk with
 | 0,_=>exact h.el' rfl
 | 1,_=>exact h.el' rfl
 | 2,_=>exact h.el' rfl
def pN(i:Int)(s:ByteArray):ND:=⟨i,2,s,⟨#[]⟩, [], [], [], -1, []⟩
def pX3:RD:=⟨20,4, [mH,pN 1 ulB,pN 2 liB,pN 3 liB]⟩
theorem aL8:pX 3=pX3:=by decide+kernel
theorem pS1:fZ [] [2,3]= [⟨2,3,0⟩,⟨2,2,0⟩]:=by decide+kernel
theorem pR1:(jE [] (bW [2,3]) (bW (iK [] (bW [2,3]))) (bW [2,3]).length).1= [2,3]:=by decide+kernel
theorem pS2:∃i a,fZ [2,3] [3,2]= [⟨3,i,a⟩]:=⟨_,_,(by decide+kernel:fZ [2,3] [3,2]= [⟨3,3,0⟩])⟩
theorem aJh:aF (pX 3).l 1=pN 1 ulB∧aF (pX 3).l 2=pN 2 liB∧aF (pX 3).l 3=pN 3 liB∧cX (pX 3).l 1=true∧cX (pX 3).l 2=true∧cX (pX 3).l 3=true∧cX (pX 3).l 9=false:=by
 rw [aL8];exact⟨rfl,rfl,rfl,rfl,rfl,rfl,rfl⟩
theorem Wv {l:List ND} {rk:Int→Nat} (hd:Dec l rk) {i:Int} (h:(aF l i).kids= []):bL l rk i= [i]:=by rw [fS hd,h];rfl
theorem zO {l:List ND} {rk:Int→Nat} (hd:Dec l rk) {p i:Int} (h:(aF l i).kids= [])(hl:cX l i=true)(h0:¬i=0)(hp:(aF l i).parent<0)(hne:¬i=p):jL l (bL l rk) p i=true:=by
 rw [Va];refine⟨hl,h0,hp,?_⟩;unfold iW;rw [Wv hd h];simp [hne]
theorem aJv {k m M l:Nat} {d:DS} {rk:Int→Nat} {σ:List (List D)} (h:LX k m M l d rk (pX 3) [] σ) {c:Int} {y:RD} {o:List TOp} (hk:aAg d rk (pX 3) [] 1 (fZ (aF d.l 1).kids [2,3]) c y o):
  c=0∧KI (pX 3) y 1 [2,3]∧∃p1 p2,o= [p1,p2]:=by
 obtain⟨f1,f2,f3,l1,l2,l3,l9⟩:=aJh;have hf:=sA h.ix;have hl:=Iw h.ix;have hD:=h.ix.iv.wt.Dec;rw [hf] at f1 f2 f3;rw [hl] at l1 l2 l3;have e1:(aF d.l 1).kids= []:=by rw [f1];rfl
 have hS:fZ (aF d.l 1).kids [2,3]= [⟨2,3,0⟩,⟨2,2,0⟩]:=by rw [e1];exact pS1
 have hb:∀s∈fZ (aF d.l 1).kids [2,3],¬sX d.l (bL d.l rk) 1 s:=by
  rw [hS];intro s hs;simp only [List.mem_cons,List.not_mem_nil,or_false] at hs;rcases hs with rfl | rfl
  ·exact Ae rfl (zO hD (by rw [f3];rfl) l3 (by decide) (by rw [f3];decide) (by decide))
  exact Ae rfl (zO hD (by rw [f2];rfl) l2 (by decide) (by rw [f2];decide) (by decide))
 have hk2:(aF d.l 1).kind=2:=by rw [f1];rfl
 rcases hk with ⟨a, -⟩ | ⟨-,a, -⟩ | ⟨-, -,⟨⟨s,a1,a2⟩, -⟩ | ⟨-,rfl,a⟩⟩
 ·rw [l1] at a;cases a
 ·exact absurd hk2 a
 ·exact absurd a2 (hb s a1)
 obtain⟨r1,r2, -⟩:=Pq h.ix l1 hk2 hb a (pX 3);rw [e1,pR1] at r2;rw [hS] at r1;exact⟨rfl,r2,_,_,r1⟩
theorem aJo {k m M l:Nat} {d:DS} {rk:Int→Nat} {σ:List (List D)} {y:RD} {o:List TOp} (h:LX k m M l d rk y o σ)(ki:KI (pX 3) y 1 [2,3]) {c:Int} {z:RD} {o2:List TOp} (hk:aAg d rk y o 1 (fZ (aF d.l 1).kids [3,2]) c z o2):
  c=0∧(∃q,o2=o++ [q]∧q.kind=4)∧cX z.l 9=false:=by
 obtain⟨f1,f2,f3,l1,l2,l3,l9⟩:=aJh;have hf:=sA h.ix;have hl:=Iw h.ix;have e1:(aF d.l 1).kids= [2,3]:=by rw [← hf,ki.kk 1,if_pos rfl]
 have hk2:(aF d.l 1).kind=2:=by rw [← hf];exact ki.kd
 have hl1:cX d.l 1=true:=by rw [← hl,ki.il];exact l1
 obtain⟨i,a,hS⟩:=pS2;rw [← e1] at hS;have hb:∀s∈fZ (aF d.l 1).kids [3,2],¬sX d.l (bL d.l rk) 1 s:=by
  rw [hS];intro s hs;simp only [List.mem_cons,List.not_mem_nil,or_false] at hs;subst hs;exact Hh (by simp) (by simp)
 rcases hk with ⟨a, -⟩ | ⟨-,a, -⟩ | ⟨-, -,⟨⟨s,a1,a2⟩, -⟩ | ⟨-,rfl,a⟩⟩
 ·rw [hl1] at a;cases a
 ·exact absurd hk2 a
 ·exact absurd a2 (hb s a1)
 obtain⟨r1,r2, -⟩:=Pq h.ix hl1 hk2 hb a y;rw [hS] at r1;exact⟨rfl,⟨_,r1,rfl⟩,by rw [r2.il,ki.il];exact l9⟩
theorem aHi {k m M l:Nat} {d:DS} {rk:Int→Nat} {σ:List (List D)} {y:RD} {o:List TOp} (h:LX k m M l d rk y o σ)(hk:k≤700)(h9:cX y.l 9=false):∃σ',Ct prog 23 [.ref l 0,D.int 9,D.str ⟨#[112]⟩] σ (fun r τ=>r=D.int 11∧τ=σ'):=by
 obtain⟨d',rk',z,c,o',σ',hc, -, -,hh⟩:=Ig h (by omega) 9 ⟨#[112]⟩ (by decide);rw [Iw h.ix] at h9;rcases hh with ⟨⟨a, -⟩, -⟩ | ⟨-,hs, -⟩
 ·rw [h9] at a;cases a
 rw [Fj (by rw [Iw h.ix];exact h9)] at hs;cases hs;exact⟨σ',hc⟩
set_option maxRecDepth 20000
set_option maxHeartbeats 8000000
theorem mG:List.range 2= [0,1]:=rfl
theorem mE:List.range 3= [0,1,2]:=rfl
theorem aAz(σ:List (List D)):Ct prog 13 [.sl false [mK ⟨0,0,0,0,ulB,⟨#[]⟩⟩,mK ⟨0,0,0,0,liB,⟨#[]⟩⟩,mK ⟨0,0,0,0,liB,⟨#[]⟩⟩]] σ (fun r σ'=>∃m M l d rk,r= .tup [.ref l 0,dO (pX 3)]∧LX 3 m M l d rk (pX 3) [] σ'):=by
 refine(Cc pAw (fun k x=>x=pX k) rfl (fun k hk x y=>aCw k hk x y) σ (by decide) (fun a ha=>?_)).mono ?_
 ·simp only [pAw,List.mem_cons,List.not_mem_nil,or_false] at ha;rcases ha with rfl | rfl | rfl <;> decide
 rintro r σ' ⟨k,m,M,l,d,rk,x,k1,k2,k3,hr,hx,hg⟩;have e:pAw.length=3:=rfl;obtain rfl:k=3:=by omega
 subst hg;exact⟨m,M,l,d,rk,hr,hx⟩
theorem Lb  (σ:List (List D))  :Ct prog 12 [] σ (fun r σ'=>r= .bool true):=by
 refine zf (rs:=[.tmp 0]) func12 ntmps12 results12 ?_;simp only [aO];refine aV fun _ _ Z=>?_;simp[mG,mE];apply Z;refine aV fun _ _ Z=>?_;refine zs 4 fun _ Y=>?_;simp[mG,mE];and_intros<;>(try omega);apply Y;refine aD fun _ Y=>?_;simp[mG,mE];refine zcm (aAz _) ?_;rintro _ τ0 ⟨m,M,l,d,rk,hr9,hx⟩;subst hr9;have hg:=hx.at_;apply Y;simp[mG,mE,hg];apply Z;apply aC;refine kF ⟨[],[],[],[],[]⟩ fun all hall _ Z=>?_;have ga2:aN all 2=some 15:=hall 2;refine zs 3 fun _ Y=>?_;simp[mG,mE,ga2,hg];apply Y;refine aR 15 (by simp <;> rfl) ?_;refine⟨fun g1=>?_,fun g1=>?_⟩
 ·simp at g1
 try simp at g1
 simp[mG,mE,ga2,hg];apply Z;refine zi ?_;refine⟨fun c2=>?_,fun c2=>?_⟩
 ·simp at c2
 try simp at c2
 apply aE;apply aA;refine zk [0,1] ?_;refine aV fun _ _ Z=>?_;refine zs 2 fun _ Y=>?_;simp[mG,mE,hg];and_intros<;>(try omega);apply Y;refine aD fun _ Y=>?_;simp[mG,mE,hg];refine zcm (Pt 3 m M l d rk (pX 3) [] 1 [2,3] _ hx (by omega) (by decide)) ?_;rintro _ τ1 ⟨cc1,k1,d1,rk1,y1,o1,hr9,hk1,hx1,hkr, -⟩;subst hr9;obtain⟨rfl,ki,p1,p2,rfl⟩:=aJv hx hkr;apply Y;simp[mG,mE,hg];apply Z;refine aV fun _ _ Z=>?_;refine zs 2 fun _ Y=>?_;simp[mG,mE,hg];and_intros<;>(try omega);apply Y;refine aD fun _ Y=>?_;simp[mG,mE,hg];refine zcm (Pt k1 m M l d1 rk1 y1 [p1,p2] 1 [3,2] _ hx1 (by simp at hk1;omega) (by decide)) ?_;rintro _ τ2 ⟨cc2,k2,d2,rk2,y2,o2,hr9,hk2,hx2,hkr2, -⟩;subst hr9;obtain⟨rfl,⟨q,rfl,hq⟩,h9⟩:=aJo hx1 ki hkr2;have hg2:=hx2.at_;simp only [List.cons_append,List.nil_append] at hx2 hg2;apply Y;simp[mG,mE,hg,hg2,hq];apply Z;refine zk [0,1,3,4] ?_;refine kF ⟨[],[],[],[],[]⟩ fun all hall _ Z=>?_;have ga2:aN all 2=some 30:=hall 2;have ga6:aN all 6=some 34:=hall 6;have ga12:aN all 12=some 40:=hall 12;have ga20:aN all 20=some 48:=hall 20;refine zs 3 fun _ Y=>?_;simp[mG,mE,ga2,ga6,ga12,ga20,hg,hg2,hq];apply Y;refine aR 30 (by simp <;> rfl) ?_;refine⟨fun g3=>?_,fun g3=>?_⟩
 ·try simp at g3
  refine zs 4 fun _ Y=>?_;simp[mG,mE,ga2,ga6,ga12,ga20,hg,hg2,hq];apply Y;refine aR 34 (by simp <;> rfl) ?_;refine⟨fun g4=>?_,fun g4=>?_⟩
  ·try simp at g4
   refine zs 1 fun _ Y=>?_;simp[mG,mE,ga2,ga6,ga12,ga20,hg,hg2,hq];apply Y;refine zg ga6 fun _ Y=>?_;simp[mG,mE,ga2,ga6,ga12,ga20,hg,hg2,hq];refine cD (Fp l m [p1,p2,q] _ (by simp) hg2) ?_;apply Y;refine zs 4 fun _ Y=>?_;simp[mG,mE,ga2,ga6,ga12,ga20,hg,hg2,hq];and_intros<;>(try omega);apply Y;refine aR 40 (by simp <;> rfl) ?_;refine⟨fun g5=>?_,fun g5=>?_⟩
   ·try simp at g5
    refine zs 1 fun _ Y=>?_;simp[mG,mE,ga2,ga6,ga12,ga20,hg,hg2,hq];apply Y;refine zg ga12 fun _ Y=>?_;simp[mG,mE,ga2,ga6,ga12,ga20,hg,hg2,hq];refine cD (Fp l m [p1,p2,q] _ (by simp) hg2) ?_;apply Y;refine zs 6 fun _ Y=>?_;simp[mG,mE,ga2,ga6,ga12,ga20,hg,hg2,hq];and_intros<;>(try omega);apply Y;refine aR 48 (by simp <;> rfl) ?_;refine⟨fun g6=>?_,fun g6=>?_⟩
    ·try simp at g6
     refine zs 1 fun _ Y=>?_;simp[mG,mE,ga2,ga6,ga12,ga20,hg,hg2,hq];apply Y;refine zg ga20 fun _ Y=>?_;simp[mG,mE,ga2,ga6,ga12,ga20,hg,hg2,hq];obtain⟨σ3,hc3⟩:=aHi hx2 (by simp at hk1 hk2;omega) h9;refine cD (hc3) ?_;apply Y;simp[mG,mE,ga2,ga6,ga12,ga20,hg,hg2,hq];apply Z;apply aB;simp [aJ]
    simp at g6
   simp at g5
  simp at g4
 simp at g3
end Go.Proofs.YtbgfljpnhhdkoaaGreat
