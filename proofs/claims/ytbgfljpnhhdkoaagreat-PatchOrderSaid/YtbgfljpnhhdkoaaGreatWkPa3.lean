import Derived.Test.YtbgfljpnhhdkoaaGreatWkPa2
open Go.Proofs.Tryz
set_option linter.all false
namespace Go.Proofs.YtbgfljpnhhdkoaaGreat
open Go Go.Vm
set_option maxHeartbeats 1000000
theorem WT.permP {a b:List ND} {rk:Int→Nat} (h:a.Perm b)(hw:WT b rk):WT a rk:=by
 have hm:∀n,n∈a↔n∈b:=fun n=>h.mem_iff;refine⟨(h.map ND.ID).nodup_iff.2 hw.nd,fun n hn k hk=>?_,fun n hn=>?_,fun n hn=>hw.nn n ((hm n).1 hn),fun n hn=>hw.kn n ((hm n).1 hn),fun n hn=>hw.dec n ((hm n).1 hn)⟩
 ·obtain⟨c,h1,h2⟩:=hw.kids n ((hm n).1 hn) k hk;exact⟨c,(hm c).2 h1,h2⟩
 rcases hw.par n ((hm n).1 hn)with h1 | ⟨p,h1,h2⟩
 ·exact .inl h1
 exact .inr ⟨p,(hm p).2 h1,h2⟩
variable {k m M l:Nat} {d:DS} {rk:Int→Nat} {x y:RD} {σ:List (List D)} {ops' o:List TOp} {p c co:Int} {to:List Int}
theorem Zg(h:IX k m M d rk x σ):sG x.l=sG d.l:=by
 funext b p s;unfold sG jP;rw [h.xp.fd,h.xp.il,h.xp.wb]
theorem Sj(h:IX k m M d rk x σ):aF x.l=aF d.l:=h.xp.fd
theorem Ol(h:IX k m M d rk x σ):dF x.l=dF d.l:=h.xp.il
theorem aMl(h:IX k m M d rk x σ):WT x.l rk:=h.iv.wt.permP h.xp.l
theorem aKl(h:IX k m M d rk x σ):bN x.l rk=bN d.l rk:=nJ h.xp.fd rk
theorem Fa(h:IX k m M d rk x σ) {ops:List TOp} (h1:dF d.l p=true)(h2:(aF d.l p).kind=2)(hb:∀s∈eJ (aF d.l p).kids to,¬sG d.l (bN d.l rk) p s)(hk:KR p (eJ (aF d.l p).kids to) x ops y ops')(z0:RD):
  ops'=ops++(eJ (aF d.l p).kids to).map (Gr p)∧KI x y p (fU (aF d.l p).kids (bF to) (bF (eC (aF d.l p).kids (bF to))) (bF to).length).1∧(RPath z0 ops x→RPath z0 ops' y):=by
 rw [← Sj h] at *;rw [← Ol h] at h1;rw [← Zg h,← aKl h] at hb;have hw:=aMl h;have hnd:(aF x.l p).kids.Nodup:=by
  obtain⟨P,hP,hPi,hPe⟩:=dQ h1;rw [hPe];exact hw.kn P hP
 have e:eJ (aF x.l p).kids to=(fU (aF x.l p).kids (bF to) (bF (eC (aF x.l p).kids (bF to))) (bF to).length).2:=by unfold eJ;rw [kY hnd]
 rw [e] at hb hk ⊢;exact aAl hw h1 h2 (qE to) (zP fun i hi=>by have:=Lis.ofP_lt _ i hi;rwa [kJ] at this) (Nat.le_refl _) hb hk
end Go.Proofs.YtbgfljpnhhdkoaaGreat
namespace Go.Proofs.YtbgfljpnhhdkoaaGreat
open Go Go.Vm
set_option maxRecDepth 20000
set_option maxHeartbeats 8000000
theorem Yi(k m M l:Nat)(d:DS)(rk:Int→Nat)(x:RD)(ops:List TOp)(i:Int)(s:ByteArray)(σ:List (List D))(h:LX k m M l d rk x ops σ)(hk:k≤800)(hs:(dF d.l i=true∧¬i=0∧(aF d.l i).kind=2∧(aF d.l i).tag=s)):Ct prog 23 [.ref l 0,D.int i,D.str s] σ (fun r σ'=>r= .int 0∧σ'=σ):=by
 refine zf (rs:=[.tmp 6]) func23 ntmps23 results23 ?_;simp only [aN];have hg:=h.at_;have hnb:=h.ix.iv.ip.NB (by omega);refine aY fun all K Z=>?_;simp(maxSteps:=1000000) (disch:=first | omega | assumption) [hg,hs]
 and_intros
 all_goals first | omega | exact rfl | skip
 apply Z;clear Z K;clear all;apply aC;refine aY fun all K Z=>?_;refine bZ 5 fun K' Y=>?_;simp(maxSteps:=1000000) (disch:=first | omega | assumption) [hg,hs]
 and_intros
 all_goals first | omega | exact rfl | skip
 apply Y;clear Y K';simp only [List.drop_succ_cons,List.drop_zero];refine aD fun K' Y=>?_;simp(maxSteps:=1000000) (disch:=first | omega | assumption) [hg,hs];refine cH (yX m M d i _ h.ix.iv.ho hnb) ?_;apply Y;clear Y K';simp(maxSteps:=1000000) (disch:=first | omega | assumption) [hg,hs]
 and_intros
 all_goals first | omega | exact rfl | skip
 apply Z;clear Z K;clear all;refine zk [0,1,2,6,7,8] ?_;refine mY ⟨[],[],[],[],[]⟩ fun all hall K Z=>?_;have ga1:aR all 1=some 19:=hall 1;have ga5:aR all 5=some 23:=hall 5;have ga10:aR all 10=some 28:=hall 10;clear hall;refine bZ 2 fun K' Y=>?_;simp(maxSteps:=1000000) (disch:=first | omega | assumption) [hg,hs,ga1,ga5,ga10]
 and_intros
 all_goals first | omega | exact rfl | skip
 apply Y;clear Y K';simp only [List.drop_succ_cons,List.drop_zero];refine aU 19 (by simp <;> rfl) ?_;refine⟨fun g1=>?_,fun g1=>?_⟩
 ·try simp at g1
  refine bZ 4 fun K' Y=>?_;simp(maxSteps:=1000000) (disch:=first | omega | assumption) [hg,hs,ga1,ga5,ga10]
  and_intros
  all_goals first | omega | exact rfl | skip
  apply Y;clear Y K';simp only [List.drop_succ_cons,List.drop_zero];refine aU 23 (by simp <;> rfl) ?_;refine⟨fun g2=>?_,fun g2=>?_⟩
  ·try simp at g2
   refine bZ 5 fun K' Y=>?_;simp(maxSteps:=1000000) (disch:=first | omega | assumption) [hg,hs,ga1,ga5,ga10]
   and_intros
   all_goals first | omega | exact rfl | skip
   apply Y;clear Y K';simp only [List.drop_succ_cons,List.drop_zero];refine aU 28 (by simp <;> rfl) ?_;refine⟨fun g3=>?_,fun g3=>?_⟩
   ·try simp at g3
    simp(maxSteps:=1000000) (disch:=first | omega | assumption) [hg,hs,ga1,ga5,ga10]
    and_intros
    all_goals first | omega | exact rfl | skip
    apply Z;clear Z K;clear ga1 ga5 ga10;clear all;refine zi ?_;refine⟨fun c4=>?_,fun c4=>?_⟩
    ·try simp at c4
     refine zk [0,1,2,6] ?_;refine aY fun all K Z=>?_;simp(maxSteps:=1000000) (disch:=first | omega | assumption) [hg,hs]
     and_intros
     all_goals first | omega | exact rfl | skip
     apply Z;clear Z K;clear all;apply aB;apply aJ;simp [aL]
    simp at c4
   simp at g3
  simp at g2
 simp at g1
theorem Xq(k m M l:Nat)(d:DS)(rk:Int→Nat)(x:RD)(ops:List TOp)(i:Int)(s:ByteArray)(c:Int)(σ2:List (List D))(σ:List (List D))(h:LX k m M l d rk x ops σ)(hk:k≤800)(hs:¬(dF d.l i=true∧¬i=0∧(aF d.l i).kind=2∧(aF d.l i).tag=s))(hc:Ct prog 80 [.ref l 0,D.int i,D.str s] σ (fun r τ=>r=D.int c∧τ=σ2)):Ct prog 23 [.ref l 0,D.int i,D.str s] σ (fun r σ'=>r=D.int c∧σ'=σ2):=by
 refine zf (rs:=[.tmp 6]) func23 ntmps23 results23 ?_;simp only [aN];have hg:=h.at_;have hnb:=h.ix.iv.ip.NB (by omega);refine aY fun all K Z=>?_;simp(maxSteps:=1000000) (disch:=first | omega | assumption) [hg]
 and_intros
 all_goals first | omega | exact rfl | skip
 apply Z;clear Z K;clear all;apply aC;refine aY fun all K Z=>?_;refine bZ 5 fun K' Y=>?_;simp(maxSteps:=1000000) (disch:=first | omega | assumption) [hg]
 and_intros
 all_goals first | omega | exact rfl | skip
 apply Y;clear Y K';simp only [List.drop_succ_cons,List.drop_zero];refine aD fun K' Y=>?_;simp(maxSteps:=1000000) (disch:=first | omega | assumption) [hg];refine cH (yX m M d i _ h.ix.iv.ho hnb) ?_;apply Y;clear Y K';simp(maxSteps:=1000000) (disch:=first | omega | assumption) [hg]
 and_intros
 all_goals first | omega | exact rfl | skip
 apply Z;clear Z K;clear all;refine zk [0,1,2,6,7,8] ?_;refine mY ⟨[],[],[],[],[]⟩ fun all hall K Z=>?_;have ga1:aR all 1=some 19:=hall 1;have ga5:aR all 5=some 23:=hall 5;have ga10:aR all 10=some 28:=hall 10;clear hall;refine bZ 2 fun K' Y=>?_;simp(maxSteps:=1000000) (disch:=first | omega | assumption) [hg,ga1,ga5,ga10]
 and_intros
 all_goals first | omega | exact rfl | skip
 apply Y;clear Y K';simp only [List.drop_succ_cons,List.drop_zero];refine aU 19 (by simp <;> rfl) ?_;refine⟨fun g1=>?_,fun g1=>?_⟩
 ·try simp at g1
  refine bZ 4 fun K' Y=>?_;simp(maxSteps:=1000000) (disch:=first | omega | assumption) [hg,ga1,ga5,ga10]
  and_intros
  all_goals first | omega | exact rfl | skip
  apply Y;clear Y K';simp only [List.drop_succ_cons,List.drop_zero];refine aU 23 (by simp <;> rfl) ?_;refine⟨fun g2=>?_,fun g2=>?_⟩
  ·try simp at g2
   refine bZ 5 fun K' Y=>?_;simp(maxSteps:=1000000) (disch:=first | omega | assumption) [hg,ga1,ga5,ga10]
   and_intros
   all_goals first | omega | exact rfl | skip
   apply Y;clear Y K';simp only [List.drop_succ_cons,List.drop_zero];refine aU 28 (by simp <;> rfl) ?_;refine⟨fun g3=>?_,fun g3=>?_⟩
   ·try simp at g3
    simp(maxSteps:=1000000) (disch:=first | omega | assumption) [hg,ga1,ga5,ga10]
    and_intros
    all_goals first | omega | exact rfl | skip
    apply Z;clear Z K;clear ga1 ga5 ga10;clear all;refine zi ?_;refine⟨fun c4=>?_,fun c4=>?_⟩
    ·try simp at c4
     exact absurd ⟨g1,g2,g3,c4⟩ hs
    try simp at c4
    apply aE;apply aA;refine zk [0,1,2,6] ?_;refine aY fun all K Z=>?_;refine bZ 3 fun K' Y=>?_;simp(maxSteps:=1000000) (disch:=first | omega | assumption) [hg]
    and_intros
    all_goals first | omega | exact rfl | skip
    apply Y;clear Y K';simp only [List.drop_succ_cons,List.drop_zero];refine aD fun K' Y=>?_;simp(maxSteps:=1000000) (disch:=first | omega | assumption) [hg];refine cH (hc) ?_;apply Y;clear Y K';simp(maxSteps:=1000000) (disch:=first | omega | assumption) [hg]
    and_intros
    all_goals first | omega | exact rfl | skip
    apply Z;clear Z K;clear all;apply aB;simp [aL]
   try simp at g3
   simp(maxSteps:=1000000) (disch:=first | omega | assumption) [hg,ga1,ga5,ga10]
   and_intros
   all_goals first | omega | exact rfl | skip
   apply Z;clear Z K;clear ga1 ga5 ga10;clear all;refine bM (t:=false) (by simp) (fun h=>by cases h) (fun _=>?_);apply aE;apply aA;refine zk [0,1,2,6] ?_;refine aY fun all K Z=>?_;refine bZ 3 fun K' Y=>?_;simp(maxSteps:=1000000) (disch:=first | omega | assumption) [hg]
   and_intros
   all_goals first | omega | exact rfl | skip
   apply Y;clear Y K';simp only [List.drop_succ_cons,List.drop_zero];refine aD fun K' Y=>?_;simp(maxSteps:=1000000) (disch:=first | omega | assumption) [hg];refine cH (hc) ?_;apply Y;clear Y K';simp(maxSteps:=1000000) (disch:=first | omega | assumption) [hg]
   and_intros
   all_goals first | omega | exact rfl | skip
   apply Z;clear Z K;clear all;apply aB;simp [aL]
  try simp at g2
  refine bZ 5 fun K' Y=>?_;simp(maxSteps:=1000000) (disch:=first | omega | assumption) [hg,ga1,ga5,ga10]
  and_intros
  all_goals first | omega | exact rfl | skip
  apply Y;clear Y K';simp only [List.drop_succ_cons,List.drop_zero];simp(maxSteps:=1000000) (disch:=first | omega | assumption) [hg,ga1,ga5,ga10]
  and_intros
  all_goals first | omega | exact rfl | skip
  apply Z;clear Z K;clear ga1 ga5 ga10;clear all;refine bM (t:=false) (by simp) (fun h=>by cases h) (fun _=>?_);apply aE;apply aA;refine zk [0,1,2,6] ?_;refine aY fun all K Z=>?_;refine bZ 3 fun K' Y=>?_;simp(maxSteps:=1000000) (disch:=first | omega | assumption) [hg]
  and_intros
  all_goals first | omega | exact rfl | skip
  apply Y;clear Y K';simp only [List.drop_succ_cons,List.drop_zero];refine aD fun K' Y=>?_;simp(maxSteps:=1000000) (disch:=first | omega | assumption) [hg];refine cH (hc) ?_;apply Y;clear Y K';simp(maxSteps:=1000000) (disch:=first | omega | assumption) [hg]
  and_intros
  all_goals first | omega | exact rfl | skip
  apply Z;clear Z K;clear all;apply aB;simp [aL]
 try simp at g1
 refine bZ 4 fun K' Y=>?_;simp(maxSteps:=1000000) (disch:=first | omega | assumption) [hg,ga1,ga5,ga10]
 and_intros
 all_goals first | omega | exact rfl | skip
 apply Y;clear Y K';simp only [List.drop_succ_cons,List.drop_zero];refine bZ 5 fun K' Y=>?_;simp(maxSteps:=1000000) (disch:=first | omega | assumption) [hg,ga1,ga5,ga10]
 and_intros
 all_goals first | omega | exact rfl | skip
 apply Y;clear Y K';simp only [List.drop_succ_cons,List.drop_zero];simp(maxSteps:=1000000) (disch:=first | omega | assumption) [hg,ga1,ga5,ga10]
 and_intros
 all_goals first | omega | exact rfl | skip
 apply Z;clear Z K;clear ga1 ga5 ga10;clear all;refine bM (t:=false) (by simp) (fun h=>by cases h) (fun _=>?_);apply aE;apply aA;refine zk [0,1,2,6] ?_;refine aY fun all K Z=>?_;refine bZ 3 fun K' Y=>?_;simp(maxSteps:=1000000) (disch:=first | omega | assumption) [hg]
 and_intros
 all_goals first | omega | exact rfl | skip
 apply Y;clear Y K';simp only [List.drop_succ_cons,List.drop_zero];refine aD fun K' Y=>?_;simp(maxSteps:=1000000) (disch:=first | omega | assumption) [hg];refine cH (hc) ?_;apply Y;clear Y K';simp(maxSteps:=1000000) (disch:=first | omega | assumption) [hg]
 and_intros
 all_goals first | omega | exact rfl | skip
 apply Z;clear Z K;clear all;apply aB;simp [aL]
end Go.Proofs.YtbgfljpnhhdkoaaGreat
