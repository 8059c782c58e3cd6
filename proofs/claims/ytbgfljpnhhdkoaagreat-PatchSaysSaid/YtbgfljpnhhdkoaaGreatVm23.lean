import Derived.Test.YtbgfljpnhhdkoaaGreatWkPa4
import Derived.Test.YtbgfljpnhhdkoaaGreatVm22
import Derived.ProofKit
open Go.Proofs.Tryz
set_option linter.all false
namespace Go.Proofs.YtbgfljpnhhdkoaaGreat
open Go Go.Vm
set_option maxRecDepth 20000
set_option maxHeartbeats 8000000
structure Want where
  acts:(List Act)
  ID:Int
  tag:ByteArray
  text:ByteArray
  deriving DecidableEq
@[simp] abbrev Zn(s:Want):D:= .agg [.sl false (s.acts.map mK),.v (.int .i64 s.ID),.v (.string s.tag),.v (.string s.text)]
@[simp] abbrev aMp(s:Want):D:= .agg [.sl true (s.acts.map mK),.v (.int .i64 s.ID),.v (.string s.tag),.v (.string s.text)]
section
variable {k m M l:Nat} {d:DS} {rk:Int→Nat} {x y:RD} {σ:List (List D)} {ops:List TOp} {i:Int} {s:ByteArray} {c:Int} {ops':List TOp}
theorem aH6(h:IX k m M d rk x σ)(hl:cX x.l i=true):(aF x.l i).kind=1∨(aF x.l i).kind=2:=by
  rw [Iw h] at hl;rw [sA h];obtain⟨n,n1,n2,n3⟩:=cY hl;rw [n3];exact h.iv.ip.kd n n1
theorem aA5(h:LX k m M l d rk x ops σ)(ht:TagsOk x)(hh:((cX d.l i=true∧¬i=0∧(aF d.l i).kind=2∧(aF d.l i).tag=s)∧c=0∧y=x∧ops'=ops)∨(¬(cX d.l i=true∧¬i=0∧(aF d.l i).kind=2∧(aF d.l i).tag=s)∧setX x 0 i s ⟨#[]⟩ 0=(y,c)∧ops'=xB ops c ⟨6,i,0,0,s,⟨#[]⟩⟩∧
      ∀τ,Ct prog 161 [dO x,gE ⟨6,i,0,0,s,⟨#[]⟩⟩] τ (fun r τ'=>r= .tup [dO y,D.int c]∧τ'=τ))):
    setX x 0 i s ⟨#[]⟩ 0=(y,c)∧(∀x0,RPath x0 ops x→RPath x0 ops' y)∧(c=0∧¬(aF x.l i).tag=s→ops'=ops++ [⟨6,i,0,0,s,⟨#[]⟩⟩])∧(¬(c=0∧¬(aF x.l i).tag=s)→ops'=ops):=by
  rw [← sA h.ix,← Iw h.ix] at hh;rcases hh with ⟨⟨h1,h2,h3,rfl⟩,rfl,rfl,rfl⟩ | ⟨hn,hs,rfl,hr⟩
  · exact⟨Lz (aDj h.ix).nd h1 h2 h3 (ht.findI h1 h2 h3) _ _,fun _ h=>h,fun q=>absurd rfl q.2,fun _=>rfl⟩
  have e0:c=0→cX x.l i=true∧¬i=0∧(aF x.l i).kind=2:=by
    intro q;subst q;unfold setX at hs;split at hs
    · cases hs
    rename_i q1;split at hs
    · cases hs
    rename_i q2;split at hs
    · cases hs
    rename_i q3;have q1:cX x.l i=true:=by cases z:cX x.l i with | true=>rfl | false=>exact absurd z q1
    refine⟨q1,q2,?_⟩;rcases aH6 h.ix q1 with e | e
    · exact absurd (show(0:Int)=1↔(aF x.l i).kind=1 by omega) (by omega)
    exact e
  refine⟨hs,fun x0 hp=>?_,fun q=>by unfold xB;rw [if_pos q.1],fun q=>?_⟩
  · unfold xB
    split
    · rename_i e;subst e;exact hp.snoc hr
    rename_i e;unfold setX at hs;have:y=x:=by
      (repeat' split at hs) <;> cases hs <;> first | rfl | exact absurd rfl e
    rw [this];exact hp
  unfold xB;by_cases e:c=0
  · obtain ⟨z1, z2, z3⟩ := e0 e
    exact absurd ⟨z1,z2,z3,Classical.byContradiction fun z=>q ⟨e,z⟩⟩ hn
  rw [if_neg e]
theorem Lx {v:ByteArray} {num:Int} (hnd:(x.l.map ND.ID).Nodup)(h:setX x 0 i s v num=(y,c)):(aF y.l i).text=(aF x.l i).text:=by
  unfold setX at h;split at h
  · cases h;rfl
  rename_i q1;split at h
  · cases h;rfl
  split at h
  · cases h;rfl
  split at h
  · cases h;rfl
  have q1:cX x.l i=true:=by cases z:cX x.l i with | true=>rfl | false=>exact absurd z q1
  obtain⟨n,n1,n2,n3⟩:=cY q1;rw [n3] at h;simp only [chN,if_true] at h;cases h;show(aF (dE x.l { n with tag:=s }) i).text=_
  rw [kN hnd (p:=n) (p':= { n with tag:=s }) n1 rfl,if_pos n2.symm,n3]
theorem Xg(h:LX k m M l d rk x ops σ)(hh:((cX d.l i=true∧(aF d.l i).kind=1∧(aF d.l i).text=s)∧c=0∧y=x∧ops'=ops)∨(¬(cX d.l i=true∧(aF d.l i).kind=1∧(aF d.l i).text=s)∧setX x 1 i ⟨#[]⟩ s 0=(y,c)∧ops'=xB ops c ⟨7,i,0,0,⟨#[]⟩,s⟩∧
      ∀τ,Ct prog 161 [dO x,gE ⟨7,i,0,0,⟨#[]⟩,s⟩] τ (fun r τ'=>r= .tup [dO y,D.int c]∧τ'=τ))):
    setX x 1 i ⟨#[]⟩ s 0=(y,c)∧(∀x0,RPath x0 ops x→RPath x0 ops' y)∧(c=0∧¬(aF x.l i).text=s→ops'=ops++ [⟨7,i,0,0,⟨#[]⟩,s⟩])∧(¬(c=0∧¬(aF x.l i).text=s)→ops'=ops):=by
  have hroot:¬(aF x.l 0).kind=1:=by
    rw [sA h.ix];obtain⟨r,r1,r2,r3,r4⟩:=h.ix.iv.ip.rt;rw [← r2,gW h.ix.iv.ip.nd r1];omega
  rw [← sA h.ix,← Iw h.ix] at hh;rcases hh with ⟨⟨h1,h3,rfl⟩,rfl,rfl,rfl⟩ | ⟨hn,hs,rfl,hr⟩
  · exact⟨Ld (aDj h.ix).nd h1 (by rintro rfl;exact hroot h3) h3 _ _,fun _ h=>h,fun q=>absurd rfl q.2,fun _=>rfl⟩
  have e0:c=0→cX x.l i=true∧(aF x.l i).kind=1:=by
    intro q;subst q;unfold setX at hs;split at hs
    · cases hs
    rename_i q1;split at hs
    · cases hs
    split at hs
    · cases hs
    rename_i q3;have q1:cX x.l i=true:=by cases z:cX x.l i with | true=>rfl | false=>exact absurd z q1
    exact⟨q1,Classical.byContradiction fun z=>q3 (by simp [z])⟩
  refine⟨hs,fun x0 hp=>?_,fun q=>by unfold xB;rw [if_pos q.1],fun q=>?_⟩
  · unfold xB
    split
    · rename_i e;subst e;exact hp.snoc hr
    rename_i e;unfold setX at hs;have:y=x:=by
      (repeat' split at hs) <;> cases hs <;> first | rfl | exact absurd rfl e
    rw [this];exact hp
  unfold xB;by_cases e:c=0
  · obtain ⟨z1, z3⟩ := e0 e
    exact absurd ⟨z1,z3,Classical.byContradiction fun z=>q ⟨e,z⟩⟩ hn
  rw [if_neg e]
end
@[simp] abbrev qm231:Cfg:=⟨[10,54,75],[],[],[],[]⟩
theorem Nw (w : Want) (σ : List (List D)) (hl : w.acts.length ≤ 9223372036854775807) (ha : ∀ a ∈ w.acts, a.name.size ≤ 9223372036854775807 ∧ a.value.size ≤ 9223372036854775807) : Ct prog 5 [Zn w] σ (fun r σ' => r = .bool true) := by
  refine zf (rs:=[.tmp 2]) func5 ntmps5 results5 ?_;simp only [aO];refine zr qm231 fun _ _ Z=>?_;simp;apply Z;apply aC;refine zr qm231 fun _ _ Z=>?_;refine aD fun _ Y=>?_;simp;refine zcm (Lb _) ?_;rintro _ σ1 hr9;subst hr9;apply Y;simp;apply Z;refine zi ?_;refine⟨fun c1=>?_,fun c1=>?_⟩
  · simp at c1
  try simp at c1
  apply aE;apply aA;refine zr qm231 fun _ _ Z=>?_;refine zs 2 fun _ Y=>?_;simp;apply Y;refine aD fun _ Y=>?_;simp;refine zcm (Cc w.acts (fun _ x=>TagsOk x) (TagsOk.new 20) (fun k hk x y h hd=>h.act hd) _ hl ha) ?_;rintro _ τ ⟨k,m,M,l,d,rk,x,k1,k2,k3,hr9,hx,hgk⟩;subst hr9;have hg:=hx.at_;have hnbd:=hx.ix.iv.ip.NB (by omega);have hnbx:=hx.ix.xp.nb hnbd;have htr:=(hx.ix.iv.wt.Tr (by have:=hx.ix.iv.ip.len;rw [nT];omega)).perm hx.ix.xp.fd;apply Y;simp[hg];apply Z;apply aC;refine zk [1,2,3,4] ?_;refine zr qm231 fun _ _ Z=>?_;simp[hg];apply Z;refine zi ?_;refine⟨fun c2=>?_,fun c2=>?_⟩
  · simp at c2
  try simp at c2
  apply aE;apply aA;refine zd qm231 [.op {},.op {rL:=true},.op {},.op {rL:=true},.pure,.op {},.op {rL:=true},.pure,.op {},.op {},.op {}] fun all hall _ Z=>?_;refine dJ 4 fun _ Y=>?_;simp[hg];apply Y;refine cG fun _ Y=>?_;simp[hg];refine Cr (fun _=>(Fi w.tag 20 _ (by omega))) ?_;apply Y;refine dJ 2 fun _ Y=>?_;simp[hg];apply Y;refine cG fun _ Y=>?_;simp[hg];refine Cr (fun _=>(Fi w.text 40 _ (by omega))) ?_;apply Y;simp[hg];apply Z;obtain⟨tag,htag⟩:∃t,Fh 20 w.tag=t:=⟨_,rfl⟩;obtain⟨txt,htxt⟩:∃t,Fh 40 w.text=t:=⟨_,rfl⟩;have ht1:=sS 20 w.tag;have ht2:=sS 40 w.text;rw [htag] at ht1;rw [htxt] at ht2;rw [htag,htxt];obtain⟨d2,rk2,y,c1,o1,σ2,hc1,hx1, -,hh1⟩:=Ig hx (by omega) w.ID tag (by omega);obtain⟨e1,hp1,a1,b1⟩:=aA5 hx hgk hh1;obtain⟨d3,rk3,z,c2,o2,σ3,hc2,hx2, -,hh2⟩:=Wr hx1 (by omega) w.ID txt (by omega);obtain⟨e2,hp2,a2,b2⟩:=Xg hx1 hh2;rw [Lx (aDj hx.ix).nd e1] at a2 b2;have hnby:=hx1.ix.xp.nb (hx1.ix.iv.ip.NB (by omega));have hg3:=hx2.at_;refine zk [2,3,4,5,6,7] ?_;refine zr qm231 fun _ _ Z=>?_;refine zs 2 fun _ Y=>?_;simp[hg,hg3];apply Y;refine aD fun _ Y=>?_;simp[hg,hg3];refine cD (gA x w.ID _ hnbx) ?_;apply Y;simp[hg,hg3];apply Z;refine zk [2,3,4,5,6,7,8] ?_;refine zr qm231 fun _ _ Z=>?_;simp[hg,hg3];apply Z;refine zr qm231 fun _ _ Z=>?_;refine zs 3 fun _ Y=>?_;simp[hg,hg3];apply Y;refine aD fun _ Y=>?_;simp[hg,hg3];refine cD (qS x 0 w.ID tag ⟨#[]⟩ 0 _ hnbx (by omega) (by rw [sA hx.ix];exact Ce hx.ix.iv _) (by rw [sA hx.ix];exact Cg hx.ix.iv _)) ?_;rw [e1];apply Y;simp[hg,hg3];apply Z;apply aC;refine zk [2,3,4,5,6,7,8,10,11,12] ?_;refine kF qm231 fun all hall _ Z=>?_;have ga2:aN all 2=some 48:=hall 2;refine zs 3 fun _ Y=>?_;simp[ga2,hg,hg3];apply Y;refine aR 48 (by simp <;> rfl) ?_;refine⟨fun g3=>?_,fun g3=>?_⟩
  · try simp at g3
    simp[ga2,hg,hg3];apply Z;refine zi ?_;refine⟨fun c4=>?_,fun c4=>?_⟩
    · try simp at c4
      obtain rfl:=a1 ⟨g3,c4⟩;refine zk [2,3,4,5,6,7,8,10,11,12] ?_;refine zt qm231 fun _ _ Z=>?_;simp[hg,hg3];and_intros<;>(try omega);apply Z;apply aA;refine zk [2,3,4,5,6,7,8,10,11,12] ?_;refine zr qm231 fun _ _ Z=>?_;refine zs 3 fun _ Y=>?_;simp[hg,hg3];apply Y;refine aD fun _ Y=>?_;simp[hg,hg3];refine cD (qS y 1 w.ID ⟨#[]⟩ txt 0 _ hnby (by decide) (by rw [sA hx1.ix];exact Ce hx1.ix.iv _) (by rw [sA hx1.ix];exact Cg hx1.ix.iv _)) ?_;rw [e2];apply Y;simp[hg,hg3];apply Z;apply aC;refine zk [2,3,4,5,6,7,8,10,12,13,14] ?_;refine kF qm231 fun all hall _ Z=>?_;have ga2:aN all 2=some 69:=hall 2;refine zs 3 fun _ Y=>?_;simp[ga2,hg,hg3];apply Y;refine aR 69 (by simp <;> rfl) ?_;refine⟨fun g5=>?_,fun g5=>?_⟩
      · try simp at g5
        simp[ga2,hg,hg3];apply Z;refine zi ?_;refine⟨fun c6=>?_,fun c6=>?_⟩
        · try simp at c6
          obtain rfl:=a2 ⟨g5,c6⟩;refine zk [2,3,4,5,6,7,10,12,13,14] ?_;refine zt qm231 fun _ _ Z=>?_;simp[hg,hg3];and_intros<;>(try omega);apply Z;apply aA;refine zk [2,3,4,5,6,7,10,12,13,14] ?_;refine zd qm231 [.op {},.op {},.op {},.det,.op {},.op {},.op {},.op {},.op {},.op {},.det,.op {},.op {},.op {},.op {},.op {},.op {rL:=true},.op {},.read,.op {},.op {},.op {},.op {},.op {},.op {rO:=true},.op {rL:=true},.read,.op {},.op {}] fun all hall _ Z=>?_;have ga6:aN all 6=some 87:=hall 6;have ga14:aN all 14=some 95:=hall 14;have ga20:aN all 20=some 101:=hall 20;refine dJ 3 fun _ Y=>?_;simp[ga6,ga14,ga20,hg,hg3];apply Y;refine cG fun _ Y=>?_;simp[ga6,ga14,ga20,hg,hg3];refine Bo (hc1) ?_;apply Y;refine dJ 3 fun _ Y=>?_;simp[ga6,ga14,ga20,hg,hg3];apply Y;refine bN 87 (by simp <;> rfl) ?_;refine⟨fun g7=>?_,fun g7=>?_⟩
          · try simp at g7
            refine dJ 3 fun _ Y=>?_;simp[ga6,ga14,ga20,hg,hg3];apply Y;refine oW ga6 fun _ Y=>?_;simp[ga6,ga14,ga20,hg,hg3];refine Bo (hc2) ?_;apply Y;refine dJ 4 fun _ Y=>?_;simp[ga6,ga14,ga20,hg,hg3];apply Y;refine bN 95 (by simp <;> rfl) ?_;refine⟨fun g8=>?_,fun g8=>?_⟩
            · try simp at g8
              refine dJ 3 fun _ Y=>?_;simp[ga6,ga14,ga20,hg,hg3];apply Y;refine oW ga14 fun _ Y=>?_;simp[ga6,ga14,ga20,hg,hg3];refine sR (kD (k+1+1) m M l d3 rk3 x z _ _ hx2 (by omega) (hp2 x (hp1 x rfl))) ?_;apply Y;refine dJ 2 fun _ Y=>?_;simp[ga6,ga14,ga20,hg,hg3];apply Y;refine bN 101 (by simp <;> rfl) ?_;refine⟨fun g9=>?_,fun g9=>?_⟩
              · try simp at g9
                refine dJ 5 fun _ Y=>?_;simp[ga6,ga14,ga20,hg,hg3];apply Y;refine oW ga20 fun _ Y=>?_;simp[ga6,ga14,ga20,hg,hg3];refine sR (rN (k+1+1) m M d3 rk3 z _ hx2.ix (by omega)) ?_;apply Y;simp[ga6,ga14,ga20,hg,hg3];apply Z;apply aB;simp [aJ]
              simp at g9
            simp at g8
          simp at g7
        try simp at c6
        obtain rfl:=b2 (fun q=>q.2 c6);apply aE;apply aA;refine zk [2,3,4,5,6,7,10,12,13,14] ?_;refine zd qm231 [.op {},.op {},.op {},.det,.op {},.op {},.op {},.op {},.op {},.op {},.det,.op {},.op {},.op {},.op {},.op {},.op {rL:=true},.op {},.read,.op {},.op {},.op {},.op {},.op {},.op {rO:=true},.op {rL:=true},.read,.op {},.op {}] fun all hall _ Z=>?_;have ga6:aN all 6=some 87:=hall 6;have ga14:aN all 14=some 95:=hall 14;have ga20:aN all 20=some 101:=hall 20;refine dJ 3 fun _ Y=>?_;simp[ga6,ga14,ga20,hg,hg3];apply Y;refine cG fun _ Y=>?_;simp[ga6,ga14,ga20,hg,hg3];refine Bo (hc1) ?_;apply Y;refine dJ 3 fun _ Y=>?_;simp[ga6,ga14,ga20,hg,hg3];apply Y;refine bN 87 (by simp <;> rfl) ?_;refine⟨fun g10=>?_,fun g10=>?_⟩
        · try simp at g10
          refine dJ 3 fun _ Y=>?_;simp[ga6,ga14,ga20,hg,hg3];apply Y;refine oW ga6 fun _ Y=>?_;simp[ga6,ga14,ga20,hg,hg3];refine Bo (hc2) ?_;apply Y;refine dJ 4 fun _ Y=>?_;simp[ga6,ga14,ga20,hg,hg3];apply Y;refine bN 95 (by simp <;> rfl) ?_;refine⟨fun g11=>?_,fun g11=>?_⟩
          · try simp at g11
            refine dJ 3 fun _ Y=>?_;simp[ga6,ga14,ga20,hg,hg3];apply Y;refine oW ga14 fun _ Y=>?_;simp[ga6,ga14,ga20,hg,hg3];refine sR (kD (k+1+1) m M l d3 rk3 x z _ _ hx2 (by omega) (hp2 x (hp1 x rfl))) ?_;apply Y;refine dJ 2 fun _ Y=>?_;simp[ga6,ga14,ga20,hg,hg3];apply Y;refine bN 101 (by simp <;> rfl) ?_;refine⟨fun g12=>?_,fun g12=>?_⟩
            · try simp at g12
              refine dJ 5 fun _ Y=>?_;simp[ga6,ga14,ga20,hg,hg3];apply Y;refine oW ga20 fun _ Y=>?_;simp[ga6,ga14,ga20,hg,hg3];refine sR (rN (k+1+1) m M d3 rk3 z _ hx2.ix (by omega)) ?_;apply Y;simp[ga6,ga14,ga20,hg,hg3];apply Z;apply aB;simp [aJ]
            simp at g12
          simp at g11
        simp at g10
      try simp at g5
      obtain rfl:=b2 (fun q=>g5 q.1);simp[ga2,hg,hg3];apply Z;refine bD (t:=false) (by simp) (fun h=>by cases h) (fun _=>?_);apply aE;apply aA;refine zk [2,3,4,5,6,7,10,12,13,14] ?_;refine zd qm231 [.op {},.op {},.op {},.det,.op {},.op {},.op {},.op {},.op {},.op {},.det,.op {},.op {},.op {},.op {},.op {},.op {rL:=true},.op {},.read,.op {},.op {},.op {},.op {},.op {},.op {rO:=true},.op {rL:=true},.read,.op {},.op {}] fun all hall _ Z=>?_;have ga6:aN all 6=some 87:=hall 6;have ga14:aN all 14=some 95:=hall 14;have ga20:aN all 20=some 101:=hall 20;refine dJ 3 fun _ Y=>?_;simp[ga6,ga14,ga20,hg,hg3];apply Y;refine cG fun _ Y=>?_;simp[ga6,ga14,ga20,hg,hg3];refine Bo (hc1) ?_;apply Y;refine dJ 3 fun _ Y=>?_;simp[ga6,ga14,ga20,hg,hg3];apply Y;refine bN 87 (by simp <;> rfl) ?_;refine⟨fun g13=>?_,fun g13=>?_⟩
      · try simp at g13
        refine dJ 3 fun _ Y=>?_;simp[ga6,ga14,ga20,hg,hg3];apply Y;refine oW ga6 fun _ Y=>?_;simp[ga6,ga14,ga20,hg,hg3];refine Bo (hc2) ?_;apply Y;refine dJ 4 fun _ Y=>?_;simp[ga6,ga14,ga20,hg,hg3];apply Y;refine bN 95 (by simp <;> rfl) ?_;refine⟨fun g14=>?_,fun g14=>?_⟩
        · try simp at g14
          refine dJ 3 fun _ Y=>?_;simp[ga6,ga14,ga20,hg,hg3];apply Y;refine oW ga14 fun _ Y=>?_;simp[ga6,ga14,ga20,hg,hg3];refine sR (kD (k+1+1) m M l d3 rk3 x z _ _ hx2 (by omega) (hp2 x (hp1 x rfl))) ?_;apply Y;refine dJ 2 fun _ Y=>?_;simp[ga6,ga14,ga20,hg,hg3];apply Y;refine bN 101 (by simp <;> rfl) ?_;refine⟨fun g15=>?_,fun g15=>?_⟩
          · try simp at g15
            refine dJ 5 fun _ Y=>?_;simp[ga6,ga14,ga20,hg,hg3];apply Y;refine oW ga20 fun _ Y=>?_;simp[ga6,ga14,ga20,hg,hg3];refine sR (rN (k+1+1) m M d3 rk3 z _ hx2.ix (by omega)) ?_;apply Y;simp[ga6,ga14,ga20,hg,hg3];apply Z;apply aB;simp [aJ]
          simp at g15
        simp at g14
      simp at g13
    try simp at c4
    obtain rfl:=b1 (fun q=>q.2 c4);apply aE;apply aA;refine zk [2,3,4,5,6,7,8,10,11,12] ?_;refine zr qm231 fun _ _ Z=>?_;refine zs 3 fun _ Y=>?_;simp[hg,hg3];apply Y;refine aD fun _ Y=>?_;simp[hg,hg3];refine cD (qS y 1 w.ID ⟨#[]⟩ txt 0 _ hnby (by decide) (by rw [sA hx1.ix];exact Ce hx1.ix.iv _) (by rw [sA hx1.ix];exact Cg hx1.ix.iv _)) ?_;rw [e2];apply Y;simp[hg,hg3];apply Z;apply aC;refine zk [2,3,4,5,6,7,8,10,12,13,14] ?_;refine kF qm231 fun all hall _ Z=>?_;have ga2:aN all 2=some 69:=hall 2;refine zs 3 fun _ Y=>?_;simp[ga2,hg,hg3];apply Y;refine aR 69 (by simp <;> rfl) ?_;refine⟨fun g16=>?_,fun g16=>?_⟩
    · try simp at g16
      simp[ga2,hg,hg3];apply Z;refine zi ?_;refine⟨fun c17=>?_,fun c17=>?_⟩
      · try simp at c17
        obtain rfl:=a2 ⟨g16,c17⟩;refine zk [2,3,4,5,6,7,10,12,13,14] ?_;refine zt qm231 fun _ _ Z=>?_;simp[hg,hg3];and_intros<;>(try omega);apply Z;apply aA;refine zk [2,3,4,5,6,7,10,12,13,14] ?_;refine zd qm231 [.op {},.op {},.op {},.det,.op {},.op {},.op {},.op {},.op {},.op {},.det,.op {},.op {},.op {},.op {},.op {},.op {rL:=true},.op {},.read,.op {},.op {},.op {},.op {},.op {},.op {rO:=true},.op {rL:=true},.read,.op {},.op {}] fun all hall _ Z=>?_;have ga6:aN all 6=some 87:=hall 6;have ga14:aN all 14=some 95:=hall 14;have ga20:aN all 20=some 101:=hall 20;refine dJ 3 fun _ Y=>?_;simp[ga6,ga14,ga20,hg,hg3];apply Y;refine cG fun _ Y=>?_;simp[ga6,ga14,ga20,hg,hg3];refine Bo (hc1) ?_;apply Y;refine dJ 3 fun _ Y=>?_;simp[ga6,ga14,ga20,hg,hg3];apply Y;refine bN 87 (by simp <;> rfl) ?_;refine⟨fun g18=>?_,fun g18=>?_⟩
        · try simp at g18
          refine dJ 3 fun _ Y=>?_;simp[ga6,ga14,ga20,hg,hg3];apply Y;refine oW ga6 fun _ Y=>?_;simp[ga6,ga14,ga20,hg,hg3];refine Bo (hc2) ?_;apply Y;refine dJ 4 fun _ Y=>?_;simp[ga6,ga14,ga20,hg,hg3];apply Y;refine bN 95 (by simp <;> rfl) ?_;refine⟨fun g19=>?_,fun g19=>?_⟩
          · try simp at g19
            refine dJ 3 fun _ Y=>?_;simp[ga6,ga14,ga20,hg,hg3];apply Y;refine oW ga14 fun _ Y=>?_;simp[ga6,ga14,ga20,hg,hg3];refine sR (kD (k+1+1) m M l d3 rk3 x z _ _ hx2 (by omega) (hp2 x (hp1 x rfl))) ?_;apply Y;refine dJ 2 fun _ Y=>?_;simp[ga6,ga14,ga20,hg,hg3];apply Y;refine bN 101 (by simp <;> rfl) ?_;refine⟨fun g20=>?_,fun g20=>?_⟩
            · try simp at g20
              refine dJ 5 fun _ Y=>?_;simp[ga6,ga14,ga20,hg,hg3];apply Y;refine oW ga20 fun _ Y=>?_;simp[ga6,ga14,ga20,hg,hg3];refine sR (rN (k+1+1) m M d3 rk3 z _ hx2.ix (by omega)) ?_;apply Y;simp[ga6,ga14,ga20,hg,hg3];apply Z;apply aB;simp [aJ]
            simp at g20
          simp at g19
        simp at g18
      try simp at c17
      obtain rfl:=b2 (fun q=>q.2 c17);apply aE;apply aA;refine zk [2,3,4,5,6,7,10,12,13,14] ?_;refine zd qm231 [.op {},.op {},.op {},.det,.op {},.op {},.op {},.op {},.op {},.op {},.det,.op {},.op {},.op {},.op {},.op {},.op {rL:=true},.op {},.read,.op {},.op {},.op {},.op {},.op {},.op {rO:=true},.op {rL:=true},.read,.op {},.op {}] fun all hall _ Z=>?_;have ga6:aN all 6=some 87:=hall 6;have ga14:aN all 14=some 95:=hall 14;have ga20:aN all 20=some 101:=hall 20;refine dJ 3 fun _ Y=>?_;simp[ga6,ga14,ga20,hg,hg3];apply Y;refine cG fun _ Y=>?_;simp[ga6,ga14,ga20,hg,hg3];refine Bo (hc1) ?_;apply Y;refine dJ 3 fun _ Y=>?_;simp[ga6,ga14,ga20,hg,hg3];apply Y;refine bN 87 (by simp <;> rfl) ?_;refine⟨fun g21=>?_,fun g21=>?_⟩
      · try simp at g21
        refine dJ 3 fun _ Y=>?_;simp[ga6,ga14,ga20,hg,hg3];apply Y;refine oW ga6 fun _ Y=>?_;simp[ga6,ga14,ga20,hg,hg3];refine Bo (hc2) ?_;apply Y;refine dJ 4 fun _ Y=>?_;simp[ga6,ga14,ga20,hg,hg3];apply Y;refine bN 95 (by simp <;> rfl) ?_;refine⟨fun g22=>?_,fun g22=>?_⟩
        · try simp at g22
          refine dJ 3 fun _ Y=>?_;simp[ga6,ga14,ga20,hg,hg3];apply Y;refine oW ga14 fun _ Y=>?_;simp[ga6,ga14,ga20,hg,hg3];refine sR (kD (k+1+1) m M l d3 rk3 x z _ _ hx2 (by omega) (hp2 x (hp1 x rfl))) ?_;apply Y;refine dJ 2 fun _ Y=>?_;simp[ga6,ga14,ga20,hg,hg3];apply Y;refine bN 101 (by simp <;> rfl) ?_;refine⟨fun g23=>?_,fun g23=>?_⟩
          · try simp at g23
            refine dJ 5 fun _ Y=>?_;simp[ga6,ga14,ga20,hg,hg3];apply Y;refine oW ga20 fun _ Y=>?_;simp[ga6,ga14,ga20,hg,hg3];refine sR (rN (k+1+1) m M d3 rk3 z _ hx2.ix (by omega)) ?_;apply Y;simp[ga6,ga14,ga20,hg,hg3];apply Z;apply aB;simp [aJ]
          simp at g23
        simp at g22
      simp at g21
    try simp at g16
    obtain rfl:=b2 (fun q=>g16 q.1);simp[ga2,hg,hg3];apply Z;refine bD (t:=false) (by simp) (fun h=>by cases h) (fun _=>?_);apply aE;apply aA;refine zk [2,3,4,5,6,7,10,12,13,14] ?_;refine zd qm231 [.op {},.op {},.op {},.det,.op {},.op {},.op {},.op {},.op {},.op {},.det,.op {},.op {},.op {},.op {},.op {},.op {rL:=true},.op {},.read,.op {},.op {},.op {},.op {},.op {},.op {rO:=true},.op {rL:=true},.read,.op {},.op {}] fun all hall _ Z=>?_;have ga6:aN all 6=some 87:=hall 6;have ga14:aN all 14=some 95:=hall 14;have ga20:aN all 20=some 101:=hall 20;refine dJ 3 fun _ Y=>?_;simp[ga6,ga14,ga20,hg,hg3];apply Y;refine cG fun _ Y=>?_;simp[ga6,ga14,ga20,hg,hg3];refine Bo (hc1) ?_;apply Y;refine dJ 3 fun _ Y=>?_;simp[ga6,ga14,ga20,hg,hg3];apply Y;refine bN 87 (by simp <;> rfl) ?_;refine⟨fun g24=>?_,fun g24=>?_⟩
    · try simp at g24
      refine dJ 3 fun _ Y=>?_;simp[ga6,ga14,ga20,hg,hg3];apply Y;refine oW ga6 fun _ Y=>?_;simp[ga6,ga14,ga20,hg,hg3];refine Bo (hc2) ?_;apply Y;refine dJ 4 fun _ Y=>?_;simp[ga6,ga14,ga20,hg,hg3];apply Y;refine bN 95 (by simp <;> rfl) ?_;refine⟨fun g25=>?_,fun g25=>?_⟩
      · try simp at g25
        refine dJ 3 fun _ Y=>?_;simp[ga6,ga14,ga20,hg,hg3];apply Y;refine oW ga14 fun _ Y=>?_;simp[ga6,ga14,ga20,hg,hg3];refine sR (kD (k+1+1) m M l d3 rk3 x z _ _ hx2 (by omega) (hp2 x (hp1 x rfl))) ?_;apply Y;refine dJ 2 fun _ Y=>?_;simp[ga6,ga14,ga20,hg,hg3];apply Y;refine bN 101 (by simp <;> rfl) ?_;refine⟨fun g26=>?_,fun g26=>?_⟩
        · try simp at g26
          refine dJ 5 fun _ Y=>?_;simp[ga6,ga14,ga20,hg,hg3];apply Y;refine oW ga20 fun _ Y=>?_;simp[ga6,ga14,ga20,hg,hg3];refine sR (rN (k+1+1) m M d3 rk3 z _ hx2.ix (by omega)) ?_;apply Y;simp[ga6,ga14,ga20,hg,hg3];apply Z;apply aB;simp [aJ]
        simp at g26
      simp at g25
    simp at g24
  try simp at g3
  obtain rfl:=b1 (fun q=>g3 q.1);simp[ga2,hg,hg3];apply Z;refine bD (t:=false) (by simp) (fun h=>by cases h) (fun _=>?_);apply aE;apply aA;refine zk [2,3,4,5,6,7,8,10,11,12] ?_;refine zr qm231 fun _ _ Z=>?_;refine zs 3 fun _ Y=>?_;simp[hg,hg3];apply Y;refine aD fun _ Y=>?_;simp[hg,hg3];refine cD (qS y 1 w.ID ⟨#[]⟩ txt 0 _ hnby (by decide) (by rw [sA hx1.ix];exact Ce hx1.ix.iv _) (by rw [sA hx1.ix];exact Cg hx1.ix.iv _)) ?_;rw [e2];apply Y;simp[hg,hg3];apply Z;apply aC;refine zk [2,3,4,5,6,7,8,10,12,13,14] ?_;refine kF qm231 fun all hall _ Z=>?_;have ga2:aN all 2=some 69:=hall 2;refine zs 3 fun _ Y=>?_;simp[ga2,hg,hg3];apply Y;refine aR 69 (by simp <;> rfl) ?_;refine⟨fun g27=>?_,fun g27=>?_⟩
  · try simp at g27
    simp[ga2,hg,hg3];apply Z;refine zi ?_;refine⟨fun c28=>?_,fun c28=>?_⟩
    · try simp at c28
      obtain rfl:=a2 ⟨g27,c28⟩;refine zk [2,3,4,5,6,7,10,12,13,14] ?_;refine zt qm231 fun _ _ Z=>?_;simp[hg,hg3];and_intros<;>(try omega);apply Z;apply aA;refine zk [2,3,4,5,6,7,10,12,13,14] ?_;refine zd qm231 [.op {},.op {},.op {},.det,.op {},.op {},.op {},.op {},.op {},.op {},.det,.op {},.op {},.op {},.op {},.op {},.op {rL:=true},.op {},.read,.op {},.op {},.op {},.op {},.op {},.op {rO:=true},.op {rL:=true},.read,.op {},.op {}] fun all hall _ Z=>?_;have ga6:aN all 6=some 87:=hall 6;have ga14:aN all 14=some 95:=hall 14;have ga20:aN all 20=some 101:=hall 20;refine dJ 3 fun _ Y=>?_;simp[ga6,ga14,ga20,hg,hg3];apply Y;refine cG fun _ Y=>?_;simp[ga6,ga14,ga20,hg,hg3];refine Bo (hc1) ?_;apply Y;refine dJ 3 fun _ Y=>?_;simp[ga6,ga14,ga20,hg,hg3];apply Y;refine bN 87 (by simp <;> rfl) ?_;refine⟨fun g29=>?_,fun g29=>?_⟩
      · try simp at g29
        refine dJ 3 fun _ Y=>?_;simp[ga6,ga14,ga20,hg,hg3];apply Y;refine oW ga6 fun _ Y=>?_;simp[ga6,ga14,ga20,hg,hg3];refine Bo (hc2) ?_;apply Y;refine dJ 4 fun _ Y=>?_;simp[ga6,ga14,ga20,hg,hg3];apply Y;refine bN 95 (by simp <;> rfl) ?_;refine⟨fun g30=>?_,fun g30=>?_⟩
        · try simp at g30
          refine dJ 3 fun _ Y=>?_;simp[ga6,ga14,ga20,hg,hg3];apply Y;refine oW ga14 fun _ Y=>?_;simp[ga6,ga14,ga20,hg,hg3];refine sR (kD (k+1+1) m M l d3 rk3 x z _ _ hx2 (by omega) (hp2 x (hp1 x rfl))) ?_;apply Y;refine dJ 2 fun _ Y=>?_;simp[ga6,ga14,ga20,hg,hg3];apply Y;refine bN 101 (by simp <;> rfl) ?_;refine⟨fun g31=>?_,fun g31=>?_⟩
          · try simp at g31
            refine dJ 5 fun _ Y=>?_;simp[ga6,ga14,ga20,hg,hg3];apply Y;refine oW ga20 fun _ Y=>?_;simp[ga6,ga14,ga20,hg,hg3];refine sR (rN (k+1+1) m M d3 rk3 z _ hx2.ix (by omega)) ?_;apply Y;simp[ga6,ga14,ga20,hg,hg3];apply Z;apply aB;simp [aJ]
          simp at g31
        simp at g30
      simp at g29
    try simp at c28
    obtain rfl:=b2 (fun q=>q.2 c28);apply aE;apply aA;refine zk [2,3,4,5,6,7,10,12,13,14] ?_;refine zd qm231 [.op {},.op {},.op {},.det,.op {},.op {},.op {},.op {},.op {},.op {},.det,.op {},.op {},.op {},.op {},.op {},.op {rL:=true},.op {},.read,.op {},.op {},.op {},.op {},.op {},.op {rO:=true},.op {rL:=true},.read,.op {},.op {}] fun all hall _ Z=>?_;have ga6:aN all 6=some 87:=hall 6;have ga14:aN all 14=some 95:=hall 14;have ga20:aN all 20=some 101:=hall 20;refine dJ 3 fun _ Y=>?_;simp[ga6,ga14,ga20,hg,hg3];apply Y;refine cG fun _ Y=>?_;simp[ga6,ga14,ga20,hg,hg3];refine Bo (hc1) ?_;apply Y;refine dJ 3 fun _ Y=>?_;simp[ga6,ga14,ga20,hg,hg3];apply Y;refine bN 87 (by simp <;> rfl) ?_;refine⟨fun g32=>?_,fun g32=>?_⟩
    · try simp at g32
      refine dJ 3 fun _ Y=>?_;simp[ga6,ga14,ga20,hg,hg3];apply Y;refine oW ga6 fun _ Y=>?_;simp[ga6,ga14,ga20,hg,hg3];refine Bo (hc2) ?_;apply Y;refine dJ 4 fun _ Y=>?_;simp[ga6,ga14,ga20,hg,hg3];apply Y;refine bN 95 (by simp <;> rfl) ?_;refine⟨fun g33=>?_,fun g33=>?_⟩
      · try simp at g33
        refine dJ 3 fun _ Y=>?_;simp[ga6,ga14,ga20,hg,hg3];apply Y;refine oW ga14 fun _ Y=>?_;simp[ga6,ga14,ga20,hg,hg3];refine sR (kD (k+1+1) m M l d3 rk3 x z _ _ hx2 (by omega) (hp2 x (hp1 x rfl))) ?_;apply Y;refine dJ 2 fun _ Y=>?_;simp[ga6,ga14,ga20,hg,hg3];apply Y;refine bN 101 (by simp <;> rfl) ?_;refine⟨fun g34=>?_,fun g34=>?_⟩
        · try simp at g34
          refine dJ 5 fun _ Y=>?_;simp[ga6,ga14,ga20,hg,hg3];apply Y;refine oW ga20 fun _ Y=>?_;simp[ga6,ga14,ga20,hg,hg3];refine sR (rN (k+1+1) m M d3 rk3 z _ hx2.ix (by omega)) ?_;apply Y;simp[ga6,ga14,ga20,hg,hg3];apply Z;apply aB;simp [aJ]
        simp at g34
      simp at g33
    simp at g32
  try simp at g27
  obtain rfl:=b2 (fun q=>g27 q.1);simp[ga2,hg,hg3];apply Z;refine bD (t:=false) (by simp) (fun h=>by cases h) (fun _=>?_);apply aE;apply aA;refine zk [2,3,4,5,6,7,10,12,13,14] ?_;refine zd qm231 [.op {},.op {},.op {},.det,.op {},.op {},.op {},.op {},.op {},.op {},.det,.op {},.op {},.op {},.op {},.op {},.op {rL:=true},.op {},.read,.op {},.op {},.op {},.op {},.op {},.op {rO:=true},.op {rL:=true},.read,.op {},.op {}] fun all hall _ Z=>?_;have ga6:aN all 6=some 87:=hall 6;have ga14:aN all 14=some 95:=hall 14;have ga20:aN all 20=some 101:=hall 20;refine dJ 3 fun _ Y=>?_;simp[ga6,ga14,ga20,hg,hg3];apply Y;refine cG fun _ Y=>?_;simp[ga6,ga14,ga20,hg,hg3];refine Bo (hc1) ?_;apply Y;refine dJ 3 fun _ Y=>?_;simp[ga6,ga14,ga20,hg,hg3];apply Y;refine bN 87 (by simp <;> rfl) ?_;refine⟨fun g35=>?_,fun g35=>?_⟩
  · try simp at g35
    refine dJ 3 fun _ Y=>?_;simp[ga6,ga14,ga20,hg,hg3];apply Y;refine oW ga6 fun _ Y=>?_;simp[ga6,ga14,ga20,hg,hg3];refine Bo (hc2) ?_;apply Y;refine dJ 4 fun _ Y=>?_;simp[ga6,ga14,ga20,hg,hg3];apply Y;refine bN 95 (by simp <;> rfl) ?_;refine⟨fun g36=>?_,fun g36=>?_⟩
    · try simp at g36
      refine dJ 3 fun _ Y=>?_;simp[ga6,ga14,ga20,hg,hg3];apply Y;refine oW ga14 fun _ Y=>?_;simp[ga6,ga14,ga20,hg,hg3];refine sR (kD (k+1+1) m M l d3 rk3 x z _ _ hx2 (by omega) (hp2 x (hp1 x rfl))) ?_;apply Y;refine dJ 2 fun _ Y=>?_;simp[ga6,ga14,ga20,hg,hg3];apply Y;refine bN 101 (by simp <;> rfl) ?_;refine⟨fun g37=>?_,fun g37=>?_⟩
      · try simp at g37
        refine dJ 5 fun _ Y=>?_;simp[ga6,ga14,ga20,hg,hg3];apply Y;refine oW ga20 fun _ Y=>?_;simp[ga6,ga14,ga20,hg,hg3];refine sR (rN (k+1+1) m M d3 rk3 z _ hx2.ix (by omega)) ?_;apply Y;simp[ga6,ga14,ga20,hg,hg3];apply Z;apply aB;simp [aJ]
      simp at g37
    simp at g36
  simp at g35
end Go.Proofs.YtbgfljpnhhdkoaaGreat
namespace Go.Vm
open Go Go.RowKit
def qC(w:World):Mem:=fun b o=>w.cell? ⟨b,o,none⟩
def CellsAt(w:World)(ds:List D)(cs:List Value):Prop:=
  ds.length=cs.length∧∀(i:Nat) (c:D) (y:Value),ds[i]?=some c→cs[i]?=some y→R (qC w) [] c y∧y.oneCell'=true∧c.flat=true
def OpenAt(w:World)(d:D)(cs:List Value):Prop:=CellsAt w d.cells cs∧d≠ .any
def Opens(P:Program)(t:TypeId) {α:Type} (f:α→D)(p:α→Prop):Prop:=
  ∀(H:Type) (enc:TypeId×Value→H) (w:World) (spare:Nat→Bool) (held:Bool) (fuel:Nat) (cs:List Value) (x:DataW H×List MemPlace),DataW.trod enc P w 0 spare held fuel t cs=some x→∃a,p a∧OpenAt w (f a) cs
theorem OpenAt.one {w:World} {d:D} {y:Value} (hd:d.cells= [d])(hr:R (qC w) [] d y)(h1:y.oneCell'=true)(hf:d.flat=true)(ha:d≠ .any):OpenAt w d [y]:=by
  refine⟨⟨by rw [hd];rfl,fun i c z h2 h3=>?_⟩,ha⟩;rw [hd] at h2
  match i with
  | 0=>simp at h2 h3;subst h2;subst h3;exact⟨hr,h1,hf⟩
  | i+1=>simp at h2
section
variable {P:Program} {t:TypeId}
theorem Rx(ht:P.underlying t=some (.int .i64)):Opens P t D.int (fun n=> -9223372036854775808≤n∧n≤9223372036854775807):=by
  intro H enc w spare held fuel cs x h;obtain⟨n,rfl,_,hw⟩:=DataW.trod_int ht h;refine⟨n,?_,.one rfl (.v _ rfl) rfl rfl (by simp)⟩;have h1:IntKind.i64.min= -9223372036854775808:=rfl;have h2:IntKind.i64.max=9223372036854775807:=rfl;simp only [Lit.wf,Bool.and_eq_true,decide_eq_true_eq] at hw;omega
theorem Ro(ht:P.underlying t=some .string):Opens P t D.str (fun s=>s.size≤maxLen):=by
  intro H enc w spare held fuel cs x h;obtain⟨s,rfl,_,hw⟩:=DataW.trod_string ht h;exact⟨s,hw,.one rfl (.v _ rfl) rfl rfl (by simp)⟩
theorem OpenAt.value {w:World} {d:D} {cs:List Value} (h:OpenAt w d cs):∃x:Value,x.cells.toList=cs∧R (qC w) [] d x:=by
  have gen:d.cells= [d]→∃x:Value,x.cells.toList=cs∧R (qC w) [] d x:=by
    intro hd;have hl:=h.1.1;rw [hd] at hl;obtain⟨y,rfl⟩:=List.length_eq_one_iff.1 hl.symm;have:=h.1.2 0 d y (by rw [hd];rfl) rfl;exact⟨y,by rw [Value.cells_one this.2.1],this.1⟩
  cases d with
  | agg ds =>
    refine⟨.agg cs.toArray,by simp [Value.cells],.agg ds cs.toArray (by have:=h.1.1;simp [D.cells] at this;simp [this]) (fun i e y a1 a2=>(h.1.2 i e y a1 (by simpa using a2)).1) (fun i y a2=>?_)⟩;have a2':cs[i]?=some y:=by simpa using a2
    have hi:=(List.getElem?_eq_some_iff.1 a2').1;have hl:=h.1.1;have hi2:i<(D.cells (.agg ds)).length:=by omega
    exact(h.1.2 i _ y (List.getElem?_eq_getElem hi2) a2').2.1
  | _=>exact gen rfl
theorem wQ {α:Type} {n:Nat} {Q:Nat→α→Prop} (h:∀i,i<n→∃a,Q i a):∃l:List α,l.length=n∧∀i a,l[i]?=some a→Q i a:=by
  induction n with
  | zero=>exact⟨[],rfl,by simp⟩
  | succ n ih =>
    obtain⟨l,hl,hq⟩:=ih (fun i hi=>h i (by omega));obtain⟨a,ha⟩:=h n (by omega);refine⟨l++ [a],by simp [hl],fun i b hb=>?_⟩;by_cases hi:i<l.length
    · rw [List.getElem?_append_left hi] at hb;exact hq i b hb
    rw [List.getElem?_append_right (by omega)] at hb;have h0:i - l.length=0:=by
      have:=(List.getElem?_eq_some_iff.1 hb).1;simp at this;omega
    rw [h0] at hb;simp at hb;subst hb;rw [show i=n by omega];exact ha
theorem Nt {d:D} :d.ncells=d.cells.length:=by cases d <;> rfl
theorem Iz {e:TypeId} {α:Type} {f:α→D} {p:α→Prop} (ht:P.underlying t=some (.slice e))(h:Opens P e f p)(hk:0<P.cellsOf e):Opens P t (fun l:List α=> .sl false (l.map f)) (fun l=>l.length≤maxLen∧∀a∈l,p a):=by
  intro H enc w spare held fuel cs x hx;rcases DataW.trod_slice ht hx with ⟨rfl,_⟩ | ⟨a,len,cap,elems,rest,n,_,rfl,_,_,hlc,hcm,hlen,hel,_,_⟩
  · exact⟨[],⟨by simp,by simp⟩,.one rfl (.nil false) rfl rfl (by simp)⟩
  by_cases h0:len=0
  · subst h0;exact⟨[],⟨by simp,by simp⟩,.one rfl (.emp false a cap hcm) rfl rfl (by simp)⟩
  have each:∀i,i<len→∃b:α×List Value,p b.1∧OpenAt w (f b.1) b.2∧w.cells? 0 (a.add (i * P.cellsOf e)) (P.cellsOf e)=some b.2:=by
    intro i hi;have hi':i<elems.length:=by omega
    have:=hel i hi;rw [List.getElem?_eq_getElem hi',Option.bind_eq_some_iff] at this;obtain⟨ds,h1,h2⟩:=this;obtain⟨b,hb,ho⟩:=h H enc w spare held n ds _ h2;exact⟨(b,ds),hb,ho,h1⟩
  obtain⟨L,hL,hq⟩:=wQ each;have each2:∀i,i<len→∃v:Value,∃b,L[i]?=some b∧v.cells.toList=b.2∧R (qC w) [] (f b.1) v:=by
    intro i hi;have hi':i<L.length:=by omega
    have hb:L[i]?=some L[i]:=List.getElem?_eq_getElem hi';obtain⟨v,h1,h2⟩:=(hq i _ hb).2.1.value;exact⟨v,_,hb,h1,h2⟩
  obtain⟨V,hV,hv⟩:=wQ each2;have hspot:a.spot=none:=by
    have hi':0<L.length:=by omega
    have h1:=(hq 0 _ (List.getElem?_eq_getElem hi')).2.2;obtain⟨_,hl,hc⟩:=World.cells?_some h1;have h2:=hc 0 hk;rw [List.getElem?_eq_getElem (by omega)] at h2;simpa [Addr.add] using World.cell?_spot h2
  obtain⟨b,off,spot⟩:=a;simp only at hspot;subst hspot;refine⟨L.map (·.1),⟨by rw [List.length_map,hL];exact Nat.le_trans hlc hcm,fun y hy=>?_⟩,.one rfl ?_ rfl rfl (by simp)⟩
  · obtain ⟨z, hz, rfl⟩ := List.mem_map.1 hy
    obtain⟨i,hi⟩:=List.getElem?_of_mem hz;exact(hq i z hi).1
  refine .sl false _ b off len cap (P.cellsOf e) V (by simp [hV,hL]) (by simp [hL]) hk hlc hcm (fun i d x h1 h2=>?_) (fun i d h1=>?_) (fun i x h1=>?_)
  · obtain ⟨z, hz, h3, h4⟩ := hv i x h2
    simp only [List.getElem?_map,hz,Option.map_some,Option.some.injEq] at h1;subst h1;exact h4
  · simp only [List.getElem?_map, Option.map_map, Option.map_eq_some_iff] at h1
    obtain⟨z,hz,rfl⟩:=h1;obtain⟨_,h5,h6⟩:=hq i z hz;show(f z.1).ncells=_
    rw [Nt,h5.1.1];exact(World.cells?_some h6).2.1
  obtain⟨z,hz,h3,h4⟩:=hv i x h1;obtain⟨_,h5,h6⟩:=hq i z hz;obtain⟨_,h7,h8⟩:=World.cells?_some h6;have hsz:x.cells.size=P.cellsOf e:=by rw [← h7,← h3,Array.length_toList]
  refine⟨hsz,fun j c hj=>?_⟩;have hjl:j<P.cellsOf e:=by rw [← hsz];exact(Array.getElem?_eq_some_iff.1 hj).1
  have hj2:z.2[j]?=some c:=by rw [← h3];simpa using hj
  have hj3:j<(f z.1).cells.length:=by rw [h5.1.1];omega
  refine⟨(h5.1.2 j _ c (List.getElem?_eq_getElem hj3) hj2).2.1,?_⟩;have:=h8 j hjl;rw [Addr.add_none,Addr.add_none,hj2] at this;show w.cell? _=_
  rw [show off+(i * P.cellsOf e+j)=off+i * P.cellsOf e+j by omega];exact this
theorem CellsAt.append {w:World} {a b:List D} {x y:List Value} (h1:CellsAt w a x)(h2:CellsAt w b y):CellsAt w (a++b) (x++y):=by
  refine⟨by simp [h1.1,h2.1],fun i c v e1 e2=>?_⟩;by_cases hi:i<a.length
  · rw [List.getElem?_append_left hi] at e1
    rw [List.getElem?_append_left (by have:=h1.1;omega)] at e2;exact h1.2 i c v e1 e2
  rw [List.getElem?_append_right (by omega)] at e1;rw [List.getElem?_append_right (by have:=h1.1;omega)] at e2;rw [← h1.1] at e2;exact h2.2 _ c v e1 e2
def Ei (P : Program) (fs : List Field) (k n : Nat) {α : Type} (f : α → List D) (p : α → Prop) : Prop :=
  ∀ (H : Type) (enc : TypeId × Value → H) (w : World) (spare : Nat → Bool) (held : Bool) (fuel : Nat) (cs : List Value), cs.length = n →
    (∀fl∈fs,∃x:DataW H×List MemPlace,DataW.trod enc P w 0 spare held fuel fl.type ((cs.drop fl.offset).take (P.cellsOf fl.type))=some x)→∃a,p a∧CellsAt w (f a) (cs.drop k)
theorem zT {n:Nat} :Ei P [] n n (fun _:Unit=> []) (fun _=>True):=by
  intro H enc w spare held fuel cs hn _;refine⟨(),trivial,?_,fun i c y h=>by simp at h⟩;rw [List.drop_eq_nil_of_le (by omega)];rfl
theorem fH {fl:Field} {fs:List Field} {k n m:Nat} {α β:Type} {f:α→D} {p:α→Prop} {g:β→List D} {q:β→Prop} (ho:fl.offset=k)(hc:P.cellsOf fl.type=m)(h1:Opens P fl.type f p)(h2:Ei P fs (k+m) n g q):
    Ei P (fl::fs) k n (fun ab:α×β=>(f ab.1).cells++g ab.2) (fun ab=>p ab.1∧q ab.2):=by
  intro H enc w spare held fuel cs hn hall;obtain⟨x,hx⟩:=hall fl (by simp);obtain⟨a,ha,hoa⟩:=h1 H enc w spare held fuel _ x hx;obtain⟨b,hb,hob⟩:=h2 H enc w spare held fuel cs hn (fun fl' h'=>hall fl' (by simp [h']));refine⟨(a,b),⟨ha,hb⟩,?_⟩;have e:cs.drop k=(cs.drop k).take m++cs.drop (k+m):=by
    rw [← List.drop_drop];exact(List.take_append_drop m _).symm
  rw [e];rw [ho,hc] at hoa;exact hoa.1.append hob
theorem tF {fs:Array Field} {α:Type} {f:α→List D} {p:α→Prop} (ht:P.underlying t=some (.struct fs))(h:Ei P fs.toList 0 (P.cellsOf t) f p):Opens P t (fun a=> .agg (f a)) p:=by
  intro H enc w spare held fuel cs x hx;obtain⟨xs,n,_,_,hl,hxl,hall⟩:=DataW.trod_struct ht hx;obtain⟨a,ha,hc⟩:=h H enc w spare held n cs hl (fun fl hfl=>by
    obtain⟨i,hi⟩:=List.getElem?_of_mem hfl;rw [Array.getElem?_toList] at hi;have h1:=hall i fl hi;have hi2:i<xs.length:=by rw [hxl];exact(Array.getElem?_eq_some_iff.1 hi).1
    rw [List.getElem?_eq_getElem hi2] at h1;exact⟨_,h1⟩)
  rw [List.drop_zero] at hc;exact⟨a,ha,hc,by simp⟩
theorem Opens.map {α β:Type} {f:α→D} {p:α→Prop} {g:β→D} {q:β→Prop} (h:Opens P t f p)(φ:α→β)(hφ:∀a,f a=g (φ a))(hq:∀a,p a→q (φ a)):Opens P t g q:=by
  intro H enc w spare held fuel cs x hx;obtain⟨a,ha,ho⟩:=h H enc w spare held fuel cs x hx;exact⟨φ a,hq a ha,by rw [← hφ];exact ho⟩
theorem yT {fs:Array Field} {w:World} {r:Reach} {base:Nat} {v:Value} (ht:P.underlying t=some (.struct fs))(h:Value.okWide P w r base t v):∃cs,v= .agg cs:=by
  simp only [Value.okWide,ht] at h;obtain⟨cs,h1,_⟩:=h;exact⟨cs,h1⟩
theorem Tz {H:Type} {enc:TypeId×Value→H} {α:Type} {f:α→D} {p:α→Prop} {w:World} {spare:Nat→Bool} {held:Bool} {cs:Array Value} {d:DataW H} {ps:List MemPlace} (h:Opens P t f p)(hf:∀a,∃ds,f a= .agg ds)(ht:DataW.Trod enc P w 0 spare held t (.agg cs) d ps):
    ∃a,p a∧R (qC w) [] (f a) (.agg cs)∧∀X h q,Own w (qC w) [] X h q (f a) (.agg cs):=by
  obtain⟨fuel,hx⟩:=ht;obtain⟨a,ha,ho⟩:=h H enc w spare held fuel _ _ hx;obtain⟨ds,hd⟩:=hf a;refine⟨a,ha,?_⟩;rw [hd] at ho ⊢;obtain⟨⟨hl,hc⟩,_⟩:=ho;have hl':cs.size=ds.length:=by simpa [D.cells,Value.cells] using hl.symm
  have hc':∀(i:Nat) (c:D) (y:Value),ds[i]?=some c→cs[i]?=some y→R (qC w) [] c y∧y.oneCell'=true∧c.flat=true:=fun i c y h1 h2=>hc i c y h1 (by simpa [Value.cells] using h2);refine⟨.agg ds cs hl' (fun i d x h1 h2=>(hc' i d x h1 h2).1) (fun i x h2=>?_),fun X h q=> .agg q ds cs fun i d x h1 h2=> .flat _ _ _ (hc' i d x h1 h2).2.2⟩;have hi:=(Array.getElem?_eq_some_iff.1 h2).1;exact(hc' i _ x (List.getElem?_eq_getElem (by omega)) h2).2.1
theorem aHq {N:FuncId} {ds:List D} {vs:Array Value} {W:World} (hct:Ct P N ds [] (fun r _=>r= .bool true))(hl:vs.size=ds.length)
    (ha:∀(i:Nat) (d:D) (v:Value),ds[i]?=some d→vs[i]?=some v→R (qC W) [] d v∧∀X h q,Own W (qC W) [] X h q d v):
    Calls P N vs W fun e W'=>e= .returned (.bool true)∧Below W.heap.size W W':=by
  refine(hct.2 W ⟨qC W,fun _=>none, [], []⟩ vs hl rfl ⟨fun b o c h=>h,fun b t h=>by simp at h,fun t=>?_,rfl,fun n b cs h=>by simp at h,rfl,fun n b cs h=>by simp at h⟩).mono ?_
  · show SlotOk W _ t (eB ds t) (bM vs t)
    cases hd:ds[t]? with
    | none =>
      simp only [eB,hd];exact⟨.any _,.flat _ _ _ rfl⟩
    | some d =>
      have hlt:t<vs.size:=by rw [hl];exact(List.getElem?_eq_some_iff.1 hd).1
      have hv:vs[t]?=some vs[t]:=Array.getElem?_eq_getElem hlt;have hvv:bM vs t=vs[t]:=by simp [bM,hlt]
      rw [oV hd,hvv];obtain⟨h1,h2⟩:=ha t d _ hd hv;exact⟨h1,h2 _ _ _⟩
  rintro e W' ⟨r,σ',x,g',rfl,rfl,_,hf,hok⟩;have hs:=hok.slot 0;have hs':R g'.M g'.bs (.bool true) x:=hs.1;exact⟨by rw [hs'.vEq],hf.os,hf.tape,hf.output,hf.size,fun k hk=>(hf.keep k hk rfl).1⟩
end
end Go.Vm
