import Derived.Test.YtbgfljpnhhdkoaaGreatWkPa2
import Derived.Test.YtbgfljpnhhdkoaaGreatPaKid
import Derived.Test.YtbgfljpnhhdkoaaGreatWkAr11
set_option linter.all false
set_option maxHeartbeats 8000000
set_option maxRecDepth 20000
open Go.Proofs.Tryz
namespace Go.Proofs.YtbgfljpnhhdkoaaGreat
open Go Go.Vm
theorem WT.permP {a b:List ND} {rk:Int->Nat} (h:a.Perm b)(hw:WT b rk):WT a rk:=by
 have hm:∀n,n∈a↔n∈b:=fun n=>h.mem_iff;refine⟨(h.map ND.ID).nodup_iff.2 hw.nd,fun n hn k hk=>?_,fun n hn=>?_,fun n hn=>hw.nn n ((hm n).1 hn),fun n hn=>hw.kn n ((hm n).1 hn),fun n hn=>hw.dec n ((hm n).1 hn)⟩
 .obtain⟨c,h1,h2⟩:=hw.kids n ((hm n).1 hn) k hk;exact⟨c,(hm c).2 h1,h2⟩
 rcases hw.par n ((hm n).1 hn)with h1 | ⟨p,h1,h2⟩
 .exact .inl h1
 exact .inr ⟨p,(hm p).2 h1,h2⟩
variable {k m M l:Nat} {d:DS} {rk:Int->Nat} {x y:RD} {σ:List (List D)} {ops' o:List TOp} {p c co:Int} {to:List Int}
theorem Gq(h:IX k m M d rk x σ):aH x.l=aH d.l:=h.xp.fd
theorem aN4(h:IX k m M d rk x σ):eL x.l=eL d.l:=h.xp.il
theorem aTo(h:IX k m M d rk x σ):WT x.l rk:=h.iv.wt.permP h.xp.l
theorem aUs(h:IX k m M d rk x σ):dQ x.l rk=dQ d.l rk:=Dk h.xp.fd rk
variable {x:RD}
theorem Uu(k m M l:Nat)(d:DS)(rk:Int->Nat)(x:RD)(ops:List TOp)(i:Int)(s:ByteArray)(σ:List (List D))(h:LX k m M l d rk x ops σ)(hk:k<=800)(hs:(eL d.l i=true/\¬i=0/\(aH d.l i).kind=2/\(aH d.l i).tag=s)):Ct prog 23 [.ref l 0,D.int i,D.str s] σ (fun r σ'=>r= .int 0/\σ'=σ):=by
 refine zf func23 ?_;have hg:=h.at_;have hnb:=h.ix.iv.ip.NB (by omega);refine aZ fun _ _ Z=>?_;simp(disch:=omega)[hg,hs];apply Z;apply aF;refine aZ fun _ _ Z=>?_;refine zs 5 fun _ Y=>?_;simp(disch:=omega)[hg,hs];apply Y;refine aE fun _ Y=>?_;simp(disch:=omega)[hg,hs];refine cH (Ec m M d i _ h.ix.iv.ho hnb) ?_;apply Y;simp(disch:=omega)[hg,hs];apply Z;refine zk [0,1,2,6,7,8] ?_;refine lS ⟨[],[],[],[],[]⟩ fun all hall _ Z=>?_;have ga1:aN all 1=some 19:=hall 1;have ga5:aN all 5=some 23:=hall 5;have ga10:aN all 10=some 28:=hall 10;refine zs 2 fun _ Y=>?_;simp(disch:=omega)[hg,hs,ga1,ga5,ga10];apply Y;refine zb 19 ?_ ?_<;>intro g1<;>try simp at g1
 refine zs 4 fun _ Y=>?_;simp(disch:=omega)[hg,hs,ga1,ga5,ga10];apply Y;refine zb 23 ?_ ?_<;>intro g2<;>try simp at g2
 refine zs 5 fun _ Y=>?_;simp(disch:=omega)[hg,hs,ga1,ga5,ga10];apply Y;refine zb 28 ?_ ?_<;>intro g3<;>try simp at g3
 simp(disch:=omega)[hg,hs,ga1,ga5,ga10];apply Z;refine zI ?_ ?_<;>intro c4<;>try simp at c4
 refine zk [0,1,2,6] ?_;refine aZ fun _ _ Z=>?_;simp(disch:=omega)[hg,hs];apply Z;apply aC;simp [aI]
theorem aJk(k m M l:Nat)(d:DS)(rk:Int->Nat)(x:RD)(ops:List TOp)(i:Int)(s:ByteArray)(c:Int)(σ2:List (List D))(σ:List (List D))(h:LX k m M l d rk x ops σ)(hk:k<=800)(hs:¬(eL d.l i=true/\¬i=0/\(aH d.l i).kind=2/\(aH d.l i).tag=s))(hc:Ct prog 80 [.ref l 0,D.int i,D.str s] σ (fun r τ=>r=D.int c/\τ=σ2)):Ct prog 23 [.ref l 0,D.int i,D.str s] σ (fun r σ'=>r=D.int c/\σ'=σ2):=by
 refine zf func23 ?_;have hg:=h.at_;have hnb:=h.ix.iv.ip.NB (by omega);refine aZ fun _ _ Z=>?_;simp(disch:=omega)[hg];apply Z;apply aF;refine aZ fun _ _ Z=>?_;refine zs 5 fun _ Y=>?_;simp(disch:=omega)[hg];apply Y;refine aE fun _ Y=>?_;simp(disch:=omega)[hg];refine cH (Ec m M d i _ h.ix.iv.ho hnb) ?_;apply Y;simp(disch:=omega)[hg];apply Z;refine zk [0,1,2,6,7,8] ?_;refine lS ⟨[],[],[],[],[]⟩ fun all hall _ Z=>?_;have ga1:aN all 1=some 19:=hall 1;have ga5:aN all 5=some 23:=hall 5;have ga10:aN all 10=some 28:=hall 10;refine zs 2 fun _ Y=>?_;simp(disch:=omega)[hg,ga1,ga5,ga10];apply Y;refine zb 19 ?_ ?_<;>intro g1<;>try simp at g1
 .refine zs 4 fun _ Y=>?_;simp(disch:=omega)[hg,ga1,ga5,ga10];apply Y;refine zb 23 ?_ ?_<;>intro g2<;>try simp at g2
  .refine zs 5 fun _ Y=>?_;simp(disch:=omega)[hg,ga1,ga5,ga10];apply Y;refine zb 28 ?_ ?_<;>intro g3<;>try simp at g3
   .simp(disch:=omega)[hg,ga1,ga5,ga10];apply Z;refine zI ?_ ?_<;>intro c4<;>try simp at c4
    .exact absurd ⟨g1,g2,g3,c4⟩ hs
    apply zA;refine zk [0,1,2,6] ?_;refine aZ fun _ _ Z=>?_;refine zs 3 fun _ Y=>?_;simp(disch:=omega)[hg];apply Y;refine aE fun _ Y=>?_;simp(disch:=omega)[hg];refine cH (hc) ?_;apply Y;simp(disch:=omega)[hg];apply Z;apply aC;simp [aI]
   simp(disch:=omega)[hg,ga1,ga5,ga10];apply Z;refine aX (t:=false) (by simp) (fun h=>by cases h) (fun _=>?_);apply zA;refine zk [0,1,2,6] ?_;refine aZ fun _ _ Z=>?_;refine zs 3 fun _ Y=>?_;simp(disch:=omega)[hg];apply Y;refine aE fun _ Y=>?_;simp(disch:=omega)[hg];refine cH (hc) ?_;apply Y;simp(disch:=omega)[hg];apply Z;apply aC;simp [aI]
  refine zs 5 fun _ Y=>?_;simp(disch:=omega)[hg,ga1,ga5,ga10];apply Y;simp(disch:=omega)[hg,ga1,ga5,ga10];apply Z;refine aX (t:=false) (by simp) (fun h=>by cases h) (fun _=>?_);apply zA;refine zk [0,1,2,6] ?_;refine aZ fun _ _ Z=>?_;refine zs 3 fun _ Y=>?_;simp(disch:=omega)[hg];apply Y;refine aE fun _ Y=>?_;simp(disch:=omega)[hg];refine cH (hc) ?_;apply Y;simp(disch:=omega)[hg];apply Z;apply aC;simp [aI]
 refine zs 4 fun _ Y=>?_;simp(disch:=omega)[hg,ga1,ga5,ga10];apply Y;refine zs 5 fun _ Y=>?_;simp(disch:=omega)[hg,ga1,ga5,ga10];apply Y;simp(disch:=omega)[hg,ga1,ga5,ga10];apply Z;refine aX (t:=false) (by simp) (fun h=>by cases h) (fun _=>?_);apply zA;refine zk [0,1,2,6] ?_;refine aZ fun _ _ Z=>?_;refine zs 3 fun _ Y=>?_;simp(disch:=omega)[hg];apply Y;refine aE fun _ Y=>?_;simp(disch:=omega)[hg];refine cH (hc) ?_;apply Y;simp(disch:=omega)[hg];apply Z;apply aC;simp [aI]
theorem Wa(k m M l:Nat)(d:DS)(rk:Int->Nat)(x:RD)(ops:List TOp)(i:Int)(s:ByteArray)(σ:List (List D))(h:LX k m M l d rk x ops σ)(hk:k<=800)(hs:(eL d.l i=true/\(aH d.l i).kind=1/\(aH d.l i).text=s)):Ct prog 24 [.ref l 0,D.int i,D.str s] σ (fun r σ'=>r= .int 0/\σ'=σ):=by
 refine zf func24 ?_;have hg:=h.at_;have hnb:=h.ix.iv.ip.NB (by omega);refine aZ fun _ _ Z=>?_;simp(disch:=omega)[hg,hs];apply Z;apply aF;refine aZ fun _ _ Z=>?_;refine zs 5 fun _ Y=>?_;simp(disch:=omega)[hg,hs];apply Y;refine aE fun _ Y=>?_;simp(disch:=omega)[hg,hs];refine cH (Ec m M d i _ h.ix.iv.ho hnb) ?_;apply Y;simp(disch:=omega)[hg,hs];apply Z;refine zk [0,1,2,6,7,8] ?_;refine lS ⟨[],[],[],[],[]⟩ fun all hall _ Z=>?_;have ga1:aN all 1=some 19:=hall 1;have ga6:aN all 6=some 24:=hall 6;refine zs 2 fun _ Y=>?_;simp(disch:=omega)[hg,hs,ga1,ga6];apply Y;refine zb 19 ?_ ?_<;>intro g1<;>try simp at g1
 refine zs 5 fun _ Y=>?_;simp(disch:=omega)[hg,hs,ga1,ga6];apply Y;refine zb 24 ?_ ?_<;>intro g2<;>try simp at g2
 simp(disch:=omega)[hg,hs,ga1,ga6];apply Z;refine zI ?_ ?_<;>intro c3<;>try simp at c3
 refine zk [0,1,2,6] ?_;refine aZ fun _ _ Z=>?_;simp(disch:=omega)[hg,hs];apply Z;apply aC;simp [aI]
theorem aLe(k m M l:Nat)(d:DS)(rk:Int->Nat)(x:RD)(ops:List TOp)(i:Int)(s:ByteArray)(c:Int)(σ2:List (List D))(σ:List (List D))(h:LX k m M l d rk x ops σ)(hk:k<=800)(hs:¬(eL d.l i=true/\(aH d.l i).kind=1/\(aH d.l i).text=s))(hc:Ct prog 81 [.ref l 0,D.int i,D.str s] σ (fun r τ=>r=D.int c/\τ=σ2)):Ct prog 24 [.ref l 0,D.int i,D.str s] σ (fun r σ'=>r=D.int c/\σ'=σ2):=by
 refine zf func24 ?_;have hg:=h.at_;have hnb:=h.ix.iv.ip.NB (by omega);refine aZ fun _ _ Z=>?_;simp(disch:=omega)[hg];apply Z;apply aF;refine aZ fun _ _ Z=>?_;refine zs 5 fun _ Y=>?_;simp(disch:=omega)[hg];apply Y;refine aE fun _ Y=>?_;simp(disch:=omega)[hg];refine cH (Ec m M d i _ h.ix.iv.ho hnb) ?_;apply Y;simp(disch:=omega)[hg];apply Z;refine zk [0,1,2,6,7,8] ?_;refine lS ⟨[],[],[],[],[]⟩ fun all hall _ Z=>?_;have ga1:aN all 1=some 19:=hall 1;have ga6:aN all 6=some 24:=hall 6;refine zs 2 fun _ Y=>?_;simp(disch:=omega)[hg,ga1,ga6];apply Y;refine zb 19 ?_ ?_<;>intro g1<;>try simp at g1
 .refine zs 5 fun _ Y=>?_;simp(disch:=omega)[hg,ga1,ga6];apply Y;refine zb 24 ?_ ?_<;>intro g2<;>try simp at g2
  .simp(disch:=omega)[hg,ga1,ga6];apply Z;refine zI ?_ ?_<;>intro c3<;>try simp at c3
   .exact absurd ⟨g1,g2,c3⟩ hs
   apply zA;refine zk [0,1,2,6] ?_;refine aZ fun _ _ Z=>?_;refine zs 3 fun _ Y=>?_;simp(disch:=omega)[hg];apply Y;refine aE fun _ Y=>?_;simp(disch:=omega)[hg];refine cH (hc) ?_;apply Y;simp(disch:=omega)[hg];apply Z;apply aC;simp [aI]
  simp(disch:=omega)[hg,ga1,ga6];apply Z;refine aX (t:=false) (by simp) (fun h=>by cases h) (fun _=>?_);apply zA;refine zk [0,1,2,6] ?_;refine aZ fun _ _ Z=>?_;refine zs 3 fun _ Y=>?_;simp(disch:=omega)[hg];apply Y;refine aE fun _ Y=>?_;simp(disch:=omega)[hg];refine cH (hc) ?_;apply Y;simp(disch:=omega)[hg];apply Z;apply aC;simp [aI]
 refine zs 5 fun _ Y=>?_;simp(disch:=omega)[hg,ga1,ga6];apply Y;simp(disch:=omega)[hg,ga1,ga6];apply Z;refine aX (t:=false) (by simp) (fun h=>by cases h) (fun _=>?_);apply zA;refine zk [0,1,2,6] ?_;refine aZ fun _ _ Z=>?_;refine zs 3 fun _ Y=>?_;simp(disch:=omega)[hg];apply Y;refine aE fun _ Y=>?_;simp(disch:=omega)[hg];refine cH (hc) ?_;apply Y;simp(disch:=omega)[hg];apply Z;apply aC;simp [aI]
def TagOk(n:ND):Prop:=n.ID≠0->n.kind=2->dP n.tag=true
def TagsOk(x:RD):Prop:=∀n∈x.l,TagOk n
theorem TagsOk.new(most:Int):TagsOk (newX most):=fun n hn=>by
 have:n=mQ:=by simpa [newX] using hn
 subst this;intro h;exact absurd rfl h
theorem TagsOk.find {x:RD} (h:TagsOk x) {id:Int} (hl:eL x.l id=true):TagOk (aH x.l id):=by
 obtain⟨n,h1,h2,h3⟩:=eK hl;rw [h3];exact h n h1
theorem TagOk.put {l:List ND} (h:∀n∈l,TagOk n) {n':ND} (hn:TagOk n'):∀n∈cX l n',TagOk n:=fun n hm=>by
 unfold cX at hm;obtain⟨y,hy,rfl⟩:=aU.1 hm;split
 .exact hn
 exact h y hy
theorem TagsOk.add (h:TagsOk x)(kind:Int)(s:ByteArray)(hk:kind=1\/kind=2):TagsOk (addX x kind s).1:=by
 unfold addX;split
 .exact h
 rename_i c1;split
 .exact h
 intro n hn;rcases bQ.1 hn with hn | hn
 .exact h n hn
 have:n=gU x.next kind s:=by simpa using hn
 subst this;intro h1 h2;have hk2:kind=2:=h2;subst hk2;have:dP s=true:=by
  cases hs:dP s with
  | true=>rfl
  | false=>exact absurd ⟨rfl,hs⟩ c1
 simpa [gU] using this
theorem TagsOk.ins (h:TagsOk x)(b:Int->List Int)(p at_ id:Int):TagsOk (insX x b p at_ id).1:=by
 unfold insX;split
 .exact h
 rename_i c1;have i1:eL x.l p=true:=by cases q:eL x.l p with | true=>rfl | false=>exact absurd (.inl q) c1
 have i2:eL x.l id=true:=by cases q:eL x.l id with | true=>rfl | false=>exact absurd (.inr q) c1
 split
 .exact h
 split
 .exact h
 show ∀n∈cX (cX x.l _) _,TagOk n
 refine TagOk.put (TagOk.put h ?_) ?_
 .exact h.find i1
 exact h.find i2
theorem TagsOk.mov (h:TagsOk x)(id at_:Int):TagsOk (movX x id at_).1:=by
 unfold movX;split
 .exact h
 split
 .exact h
 rename_i c2;have i1:eL x.l (aH x.l id).parent=true:=by cases q:eL x.l (aH x.l id).parent with | true=>rfl | false=>exact absurd (.inl q) c2
 show ∀n∈cX x.l _,TagOk n
 refine TagOk.put h ?_;exact h.find i1
theorem TagsOk.rem (h:TagsOk x)(b:Int->List Int)(id:Int):TagsOk (remX x b id).1:=by
 unfold remX;split
 .exact h
 split
 .exact h
 intro n hn;have hn:=(dD.1 hn).1;unfold remP at hn;split at hn
 .rename_i c;exact TagOk.put h (by exact h.find c) n hn
 exact h n hn
theorem TagsOk.chN {n n':ND} (h:TagOk n) {kind:Int} {name v:ByteArray} {num:Int} (hv:¬(¬kind=1/\dP name=false))(e:chN n kind name v num=some n'):TagOk n':=by
 unfold Go.Proofs.YtbgfljpnhhdkoaaGreat.chN at e;split at e
 .rename_i c;cases e;intro _ _;cases q:dP name with
  | true=>rfl
  | false=>exact absurd ⟨by omega,q⟩ hv
 all_goals first | (cases e;exact h) | skip
 (repeat' split at e) <;> first | (cases e;exact h) | cases e
theorem TagsOk.set (h:TagsOk x)(kind id:Int)(name v:ByteArray)(num:Int):TagsOk (setX x kind id name v num).1:=by
 unfold setX;split
 .exact h
 rename_i c1;have i1:eL x.l id=true:=by cases q:eL x.l id with | true=>rfl | false=>exact absurd q c1
 split
 .exact h
 split
 .exact h
 split
 .exact h
 rename_i c4;split
 .exact h
 rename_i n hn;exact TagOk.put h (TagsOk.chN (h.find i1) c4 hn)
theorem Er {l:List ND} (hnd:(l.map ND.ID).Nodup) {n:ND} (hn:n∈l):cX l n=l:=by
 unfold cX
 conv=>rhs;rw [<- List.map_id l]
 refine dE fun y hy=>?_;split
 .rename_i e;exact(mI hnd hy hn e).symm
 rfl
section
variable {k m M l:Nat}{d:DS}{rk:Int->Nat}{σ:List (List D)}{ops:List TOp}
theorem aLx(h:LX k m M l d rk x ops σ)(hk:k<=790)(i:Int)(s:ByteArray)(hs:s.size<=1000):∃d' rk' y c ops' σ',Ct prog 23 [.ref l 0,D.int i,D.str s] σ (fun r τ=>r=D.int c/\τ=σ')/\LX (k+1) m M l d' rk' y ops' σ'/\
  Oth m (· =l) d d' σ σ'/\(((eL d.l i=true/\¬i=0/\(aH d.l i).kind=2/\(aH d.l i).tag=s)/\c=0/\y=x/\ops'=ops)\/(¬(eL d.l i=true/\¬i=0/\(aH d.l i).kind=2/\(aH d.l i).tag=s)/\setX x 0 i s ⟨#[]⟩ 0=(y,c)/\ops'=Xu ops c ⟨6,i,0,0,s,⟨#[]⟩⟩/\
   ∀τ,Ct prog 161 [iG x,oC ⟨6,i,0,0,s,⟨#[]⟩⟩] τ (fun r τ'=>r= .tup [iG y,D.int c]/\τ'=τ))):=by
 by_cases q:eL d.l i=true/\¬i=0/\(aH d.l i).kind=2/\(aH d.l i).tag=s
 .exact⟨d,rk,x,0,ops,σ,Uu k m M l d rk x ops i s σ h (by omega) q,h.keep,Oth.refl _ _ _ _,.inl ⟨q,rfl,rfl,rfl⟩⟩
 obtain⟨d',rk',y,c,σ',hc,hx,hd,hr,ho⟩:=aSe h (by omega) i s hs;obtain⟨b,b2,n,h1,h2,h3⟩:=hd;exact⟨d',rk',y,c,_,σ',aJk k m M l d rk x ops i s c σ' σ h (by omega) q hc,hx,ho,.inr ⟨q,by simpa using h3.2.2.2.2.2.2.2 (by simp) (by simp),rfl,hr⟩⟩
theorem aG7(h:LX k m M l d rk x ops σ)(hk:k<=790)(i:Int)(s:ByteArray)(hs:s.size<=1000):∃d' rk' y c ops' σ',Ct prog 24 [.ref l 0,D.int i,D.str s] σ (fun r τ=>r=D.int c/\τ=σ')/\LX (k+1) m M l d' rk' y ops' σ'/\
  Oth m (· =l) d d' σ σ'/\(((eL d.l i=true/\(aH d.l i).kind=1/\(aH d.l i).text=s)/\c=0/\y=x/\ops'=ops)\/(¬(eL d.l i=true/\(aH d.l i).kind=1/\(aH d.l i).text=s)/\setX x 1 i ⟨#[]⟩ s 0=(y,c)/\ops'=Xu ops c ⟨7,i,0,0,⟨#[]⟩,s⟩/\
   ∀τ,Ct prog 161 [iG x,oC ⟨7,i,0,0,⟨#[]⟩,s⟩] τ (fun r τ'=>r= .tup [iG y,D.int c]/\τ'=τ))):=by
 by_cases q:eL d.l i=true/\(aH d.l i).kind=1/\(aH d.l i).text=s
 .exact⟨d,rk,x,0,ops,σ,Wa k m M l d rk x ops i s σ h (by omega) q,h.keep,Oth.refl _ _ _ _,.inl ⟨q,rfl,rfl,rfl⟩⟩
 obtain⟨d',rk',y,c,σ',hc,hx,hd,hr,ho⟩:=aSc h (by omega) i s hs;obtain⟨b,b2,n,h1,h2,h3⟩:=hd;exact⟨d',rk',y,c,_,σ',aLe k m M l d rk x ops i s c σ' σ h (by omega) q hc,hx,ho,.inr ⟨q,by simpa using h3.2.2.2.2.2.2.2 (by simp) (by simp),rfl,hr⟩⟩
end
theorem gA:List.range 2= [0,1]:=rfl
theorem aS:List.range 3= [0,1,2]:=rfl
theorem aVl(N:Nat)(l:List SA):Sc N (.sl true (l.map Qd)):=Sc.sl fun d hd=>by
 obtain⟨a,_,rfl⟩:=aU.1 hd;exact Sc.agg fun e he=>by
  simp only [bP,gY,gZ] at he;rcases he with rfl | rfl | rfl <;> exact Sc.v _
theorem aUn(N:Nat)(l:List SI):Sc N (.sl true (l.map Rr)):=Sc.sl fun d hd=>by
 obtain⟨a,_,rfl⟩:=aU.1 hd;exact Sc.agg fun e he=>by
  simp only [bP,gY,gZ] at he;rcases he with rfl | rfl | rfl <;> exact Sc.v _
theorem aJ2(a b:List AT)(σ:List (List D))(ha:a.length<=99999)(hb:b.length<=99999):Ct prog 118 [.sl false (a.map cW),.sl false (b.map cW)] σ (fun r σ'=>r= .sl true ((iS nA xG a b).map Qd)/\σ'=σ):=
 Vi (aFh a b σ ha hb) fun r hr=>by rw [hr];exact aVl _ _
theorem aL8(a b:List PI)(σ:List (List D))(ha:a.length<=99999)(hb:b.length<=99999):Ct prog 124 [.sl false (a.map cQ),.sl false (b.map cQ)] σ (fun r σ'=>r= .sl true ((iS nP zP a b).map Rr)/\σ'=σ):=
 Vi (aD7 a b σ ha hb) fun r hr=>by rw [hr];exact aUn _ _
def Ae(o:OW)(k:Nat):Ls:=o.classes++(o.attrs.take k).map AT.name
def zN(o:OW)(k:Nat):Ls:=o.classes++o.attrs.map AT.name++(o.styles.take k).map PI.name
def fD(o:OW):Ls:=o.classes++o.attrs.map AT.name++o.styles.map PI.name
theorem Pp(o:OW) {k:Nat} (h:k<o.attrs.length):Ae o (k+1)=Ae o k++ [o.attrs[k].name]:=by unfold Ae;rw [bN _ k h,cN,<- bU];rfl
theorem Nt(o:OW) {k:Nat} (h:k<o.styles.length):zN o (k+1)=zN o k++ [o.styles[k].name]:=by unfold zN;rw [bN _ k h,cN,<- bU];rfl
theorem Uk(o:OW)(k:Nat)(h:k<=o.attrs.length):(Ae o k).length=o.classes.length+k:=by simp [Ae];omega
theorem Wy(o:OW)(k:Nat)(h:k<=o.styles.length):(zN o k).length=o.classes.length+o.attrs.length+k:=by simp [zN];omega
theorem Va(o:OW):Ae o o.attrs.length=zN o 0:=by simp [Ae,zN]
theorem Vw(o:OW):zN o o.styles.length=fD o:=by unfold zN fD;rw [dS]
def Qb(n:ND)(is:Bool)(o:OW):Int:=if is=false then 11 else if n.ID=0 then 1 else if ¬n.kind=2 then 14 else if(fD o).any (fun s=> !dP s)=true then 2 else 0
theorem aGu {α:Type} (p:α->Bool)(l:List α):(0<=vY p l)↔l.any p=true:=by
 unfold vY;split
 .rename_i k h;rw [qH] at h;obtain⟨hk,he,_⟩:=h;simp only [oU];exact⟨fun _=>⟨_,cB hk,he⟩,fun _=>by omega⟩
 rename_i h;rw [qF] at h;constructor
 .intro q;omega
 intro q;obtain⟨x,h1,h2⟩:=oU.1 q;rw [h x h1] at h2;cases h2
@[simp] abbrev q31_1:Cfg:=⟨[2,3,18,31,37],[],[],[],[]⟩
theorem aIh(o:OW)(σ:List (List D))(h1:o.classes.length<=9999)(h2:o.attrs.length<=9999)(h3:o.styles.length<=9999):Ct prog 191 [Cp o] σ (fun r σ'=>r=dlo (fD o)/\σ'=σ):=by
 refine zf func191 ?_;refine zr q31_1 fun _ _ Z=>?_;simp(disch:=omega);apply Z;refine zr q31_1 fun _ _ Z=>?_;refine zs 2 fun _ Y=>?_;simp(disch:=omega);apply Y;refine aE fun _ Y=>?_;simp(disch:=omega);refine cH (Jb o.classes _ (by omega)) ?_;apply Y;simp(disch:=omega);apply Z;apply aF;refine zr q31_1 fun _ _ Z=>?_;simp(disch:=omega);and_intros<;>(try omega);apply Z;apply aR;refine zk [1,2,3,12,13,14] ?_;refine aY (fun(k:Nat)=> [(14,.d (.v (.int .i64 (k:Int)))),(3,.d (dlo (Ae o k))),(5,.d (.any))]) [3,5,14,15,16,17,18,19,20,21,22,23] (fun(k:Nat)=>k<=o.attrs.length) (fun(k:Nat)=>o.attrs.length - k) (0) (by simp <;> rfl) ?_ ?_ ?_
 .simp [Ae]
 .simp
 rintro k hk;simp only [aQ,aP];have hnl:=Uk o k hk;refine zr q31_1 fun _ _ Z=>?_;simp(disch:=omega);apply Z;apply aF;refine zI ?_ ?_<;>intro c1<;>try simp at c1
 .have hnn:=Pp o c1;apply jY;refine zr q31_1 fun _ _ Z=>?_;simp(disch:=omega);and_intros<;>(try omega);apply Z;refine zt q31_1 fun _ _ Z=>?_;simp(disch:=omega);and_intros<;>(try omega);apply Z;apply zB;refine zk [1,2,3,5,12,13,14] ?_;refine zt q31_1 fun _ _ Z=>?_;simp(disch:=omega);and_intros<;>(try omega);apply Z;refine zq (k+1) ?_ ?_ ?_
  .omega
  .try dsimp only
   omega
  simp(disch:=omega)[hnn]
 obtain rfl:k=o.attrs.length:=by omega
 rw [Va];apply zE;apply aF;refine zr q31_1 fun _ _ Z=>?_;simp(disch:=omega);and_intros<;>(try omega);apply Z;apply aR;refine zk [2,3,25,26,27] ?_;refine aY (fun(j:Nat)=> [(27,.d (.v (.int .i64 (j:Int)))),(3,.d (dlo (zN o j))),(7,.d (.any))]) [3,7,27,28,29,30,31,32,33,34,35,36] (fun(j:Nat)=>j<=o.styles.length) (fun(j:Nat)=>o.styles.length - j) (0) (by simp <;> rfl) ?_ ?_ ?_
 .simp
 .simp
 rintro j hj;simp only [aQ,aP];have hnl:=Wy o j hj;refine zr q31_1 fun _ _ Z=>?_;simp(disch:=omega);apply Z;apply aF;refine zI ?_ ?_<;>intro c2<;>try simp at c2
 .have hnn:=Nt o c2;apply jY;refine zr q31_1 fun _ _ Z=>?_;simp(disch:=omega);and_intros<;>(try omega);apply Z;refine zt q31_1 fun _ _ Z=>?_;simp(disch:=omega);and_intros<;>(try omega);apply Z;apply zB;refine zk [2,3,7,25,26,27] ?_;refine zt q31_1 fun _ _ Z=>?_;simp(disch:=omega);and_intros<;>(try omega);apply Z;refine zq (j+1) ?_ ?_ ?_
  .omega
  .try dsimp only
   omega
  simp(disch:=omega)[hnn]
 obtain rfl:j=o.styles.length:=by omega
 rw [Vw];apply zE;refine zr q31_1 fun _ _ Z=>?_;simp(disch:=omega);apply Z;apply aC;simp [aI]
theorem aNv(s:ByteArray)(σ:List (List D))(hs:s.size<=9223372036854775807):Ct prog 192 [D.str s] σ (fun r σ'=>r= .bool (!dP s)/\σ'=σ):=by
 refine zf func192 ?_;refine aZ fun _ _ Z=>?_;simp;apply Z;refine aZ fun _ _ Z=>?_;refine zs 1 fun _ Y=>?_;simp;apply Y;refine aE fun _ Y=>?_;simp;refine cH (uI s _ hs) ?_;apply Y;simp;apply Z;apply aC;simp [aI]
theorem aFn(l:Ls)(p:ByteArray->Bool)(f:FuncId)(caps:List D)(σ:List (List D))(hl:l.length<=1000000)(hcp:∀d∈caps,d.plain=true)(hcs:caps.map D.strip=caps)(hp:∀x∈l,∀τ,Ct prog f (D.str x::caps) τ (fun r τ'=>r= .bool (p x)/\τ'=τ)):Ct prog 226 [dl l,.clo (.func f) [] caps] σ (fun r σ'=>r= .int (vY p l)/\σ'=σ):=by
 refine zf func226 ?_;refine aZ fun _ _ Z=>?_;simp(disch:=omega)[hcs];apply Z;apply aF;refine aZ fun _ _ Z=>?_;simp(disch:=omega)[hcs];and_intros<;>(try omega);apply Z;apply aR;refine zk [0,1,4,7,8] ?_;refine aY (fun(k:Nat)=> [(8,.d (.v (.int .i64 (k:Int))))]) [4,5,8,9,10,11,12,13,14,15,16,17,18] (fun(k:Nat)=>k<=l.length/\∀x∈l.take k,p x=false) (fun(k:Nat)=>l.length - k) (0) (by simp <;> rfl) ?_ ?_ ?_
 .simp
 .simp
 rintro k ⟨hk,hh⟩;simp only [aQ,aP];refine aZ fun _ _ Z=>?_;simp(disch:=omega)[hcs];apply Z;apply aF;refine zI ?_ ?_<;>intro c1<;>try simp at c1
 .apply jY;refine aZ fun _ _ Z=>?_;simp(disch:=omega)[hcs];apply Z;refine aZ fun _ _ Z=>?_;refine zs 5 fun _ Y=>?_;simp(disch:=omega)[hcs];and_intros<;>(try omega);apply Y;refine aE fun _ Y=>?_;simp(disch:=omega)[hcs];refine⟨hcp,?_⟩;refine cH (hp l[k] (cB (by omega)) _) ?_;apply Y;simp only [dL];apply Z;refine zI ?_ ?_<;>intro c2<;>try simp at c2
  .refine zk [0,1,5,7,8] ?_;refine aZ fun _ _ Z=>?_;simp(disch:=omega)[hcs];apply Z;apply aC;simp [aI];exact(Hx c1 hh c2).symm
  apply nI;refine zk [0,1,7,8] ?_;refine pB fun _ _ Z=>?_;simp(disch:=omega)[hcs];and_intros<;>(try omega);apply Z;refine zq (k+1) ?_ ?_ ?_
  .exact⟨by omega,uR (by omega) hh c2⟩
  .try dsimp only
   omega
  simp(disch:=omega)[hcs]
 apply zE;refine aZ fun _ _ Z=>?_;simp(disch:=omega)[hcs];apply Z;apply aC;simp [aI];rw [bX (by omega)] at hh;exact(xV hh).symm
theorem Rs(l:Ls)(p:ByteArray->Bool)(f:FuncId)(σ:List (List D))(hl:l.length<=1000000)(hp:∀x∈l,∀τ,Ct prog f [D.str x] τ (fun r τ'=>r= .bool (p x)/\τ'=τ)):Ct prog 190 [dl l,.clo (.func f) [] []] σ (fun r σ'=>r= .bool (l.any p)/\σ'=σ):=by
 refine zf func190 ?_;refine aZ fun _ _ Z=>?_;simp;apply Z;refine aZ fun _ _ Z=>?_;refine zs 2 fun _ Y=>?_;simp;apply Y;refine aE fun _ Y=>?_;simp;refine cH (aFn l p f [] _ hl (by simp) (by simp) hp) ?_;apply Y;simp;apply Z;apply aC;simp [aI,aGu];rw [jA];simp
theorem aUa(n:ND)(is:Bool)(o:OW)(σ:List (List D))(h1:o.classes.length<=9999)(h2:o.attrs.length<=9999)(h3:o.styles.length<=9999)(hs:∀s∈fD o,s.size<=9223372036854775807):Ct prog 113 [Fy n,.bool is,Cp o] σ (fun r σ'=>r= .int (Qb n is o)/\σ'=σ):=by
 refine zf func113 ?_;have hnl:(fD o).length<=99999:=by simp [fD];omega
 refine aZ fun _ _ Z=>?_;simp;apply Z;apply Sy;refine aZ fun _ _ Z=>?_;simp;apply Z;refine zI ?_ ?_<;>intro c1<;>try simp at c1
 .refine aZ fun _ _ Z=>?_;simp;apply Z;apply aC;simp [aI,Qb, *]
 refine aZ fun _ _ Z=>?_;simp;apply Z;refine zI ?_ ?_<;>intro c2<;>try simp at c2
 .refine aZ fun _ _ Z=>?_;simp;apply Z;apply aC;simp [aI,Qb, *]
 refine aZ fun _ _ Z=>?_;simp;apply Z;refine zI ?_ ?_<;>intro c3<;>try simp at c3
 .refine zk [6] ?_;refine aZ fun _ _ Z=>?_;simp;apply Z;apply aC;simp [aI,Qb, *]
 refine zk [5,6] ?_;refine aZ fun _ _ Z=>?_;refine zs 1 fun _ Y=>?_;simp;apply Y;refine aE fun _ Y=>?_;simp;refine cH (aIh o _ h1 h2 h3) ?_;apply Y;refine aE fun _ Y=>?_;simp;refine cH (Rs (fD o) (fun s=> !dP s) 192 _ (by omega) (fun x hx τ=>aNv x τ (hs x hx))) ?_;apply Y;simp;apply Z;refine zI ?_ ?_<;>intro c4<;>try simp at c4
 .refine aZ fun _ _ Z=>?_;simp;apply Z;apply aC;simp [aI,Qb, *]
 apply nI;refine aZ fun _ _ Z=>?_;simp;apply Z;apply aC;simp [aI,Qb, *];simpa using c4
theorem aM6(S:List SA)(fs fd:FuncId)(caps:List D)(st:Nat->List (List D))(hl:S.length<=99999)(hcp:∀d∈caps,d.plain=true)(hcs:caps.map D.strip=caps)(hs:∀j (hj:j<S.length),(S[j].drop=true->Ct prog fd (D.str S[j].name::caps) (st j) (fun r τ=>r= .tup []/\τ=st (j+1)))/\(S[j].drop=false->Ct prog fs (Qd S[j]::caps) (st j) (fun r τ=>r= .tup []/\τ=st (j+1)))):Ct prog 117 [.sl false (S.map Qd),.clo (.func fs) [] caps,.clo (.func fd) [] caps] (st 0) (fun r σ'=>r= .tup []/\σ'=st S.length):=by
 refine zf func117 ?_;refine aZ fun _ _ Z=>?_;simp(disch:=omega)[hcs];and_intros<;>(try omega);apply Z;apply aR;refine zk [1,2,8,9,10] ?_;refine oS (fun(j:Nat)=> [(10,.d (.v (.int .i64 (j:Int)))),(7,.d (.any))]) (fun(j:Nat)=> []) (fun(j:Nat)=>st j) [7,10,11,12,13,14,15,16,17,18,19,20,21,22,23] (fun(j:Nat)=>j<=S.length) (fun(j:Nat)=>S.length - j) (0) (by simp <;> rfl) ?_ (by simp) (by simp) ?_ ?_
 .simp
 .simp
 rintro j hj;simp only [aQ,aP];refine aZ fun _ _ Z=>?_;simp(disch:=omega)[hcs];apply Z;apply aF;refine zI ?_ ?_<;>intro c1<;>try simp at c1
 .apply jY;refine aZ fun _ _ Z=>?_;simp(disch:=omega)[hcs];and_intros<;>(try omega);apply Z;refine aZ fun _ _ Z=>?_;simp(disch:=omega)[hcs];apply Z;refine zI ?_ ?_<;>intro c2<;>try simp at c2
  .refine zk [1,2,7,8,9,10] ?_;refine pB fun _ _ Z=>?_;refine zs 3 fun _ Y=>?_;simp(disch:=omega)[hcs];apply Y;refine aE fun _ Y=>?_;simp(disch:=omega)[hcs];refine⟨hcp,?_⟩;refine cH ((hs j (by omega)).1 c2) ?_;apply Y;simp only [dL];apply Z;apply zB;refine pB fun _ _ Z=>?_;simp(disch:=omega)[hcs];and_intros<;>(try omega);apply Z;refine zq (j+1) ?_ ?_ ?_
   .omega
   .try dsimp only
    omega
   simp(disch:=omega)[hcs]
  refine zk [1,2,7,8,9,10] ?_;refine pB fun _ _ Z=>?_;refine zs 2 fun _ Y=>?_;simp(disch:=omega)[hcs];apply Y;refine aE fun _ Y=>?_;simp(disch:=omega)[hcs];refine⟨hcp,?_⟩;refine cH ((hs j (by omega)).2 c2) ?_;apply Y;simp only [dL];apply Z;apply zB;refine pB fun _ _ Z=>?_;simp(disch:=omega)[hcs];and_intros<;>(try omega);apply Z;refine zq (j+1) ?_ ?_ ?_
  .omega
  .try dsimp only
   omega
  simp(disch:=omega)[hcs]
 obtain rfl:j=S.length:=by omega
 apply Cg;apply Ce;apply Ck;apply yV;simp [aI]
theorem aLt(S:List SI)(fs fd:FuncId)(caps:List D)(st:Nat->List (List D))(hl:S.length<=99999)(hcp:∀d∈caps,d.plain=true)(hcs:caps.map D.strip=caps)(hs:∀j (hj:j<S.length),(S[j].drop=true->Ct prog fd (D.str S[j].name::caps) (st j) (fun r τ=>r= .tup []/\τ=st (j+1)))/\(S[j].drop=false->Ct prog fs (Rr S[j]::caps) (st j) (fun r τ=>r= .tup []/\τ=st (j+1)))):Ct prog 123 [.sl false (S.map Rr),.clo (.func fs) [] caps,.clo (.func fd) [] caps] (st 0) (fun r σ'=>r= .tup []/\σ'=st S.length):=by
 refine zf func123 ?_;refine aZ fun _ _ Z=>?_;simp(disch:=omega)[hcs];and_intros<;>(try omega);apply Z;apply aR;refine zk [1,2,8,9,10] ?_;refine oS (fun(j:Nat)=> [(10,.d (.v (.int .i64 (j:Int)))),(7,.d (.any))]) (fun(j:Nat)=> []) (fun(j:Nat)=>st j) [7,10,11,12,13,14,15,16,17,18,19,20,21,22,23] (fun(j:Nat)=>j<=S.length) (fun(j:Nat)=>S.length - j) (0) (by simp <;> rfl) ?_ (by simp) (by simp) ?_ ?_
 .simp
 .simp
 rintro j hj;simp only [aQ,aP];refine aZ fun _ _ Z=>?_;simp(disch:=omega)[hcs];apply Z;apply aF;refine zI ?_ ?_<;>intro c1<;>try simp at c1
 .apply jY;refine aZ fun _ _ Z=>?_;simp(disch:=omega)[hcs];and_intros<;>(try omega);apply Z;refine aZ fun _ _ Z=>?_;simp(disch:=omega)[hcs];apply Z;refine zI ?_ ?_<;>intro c2<;>try simp at c2
  .refine zk [1,2,7,8,9,10] ?_;refine pB fun _ _ Z=>?_;refine zs 3 fun _ Y=>?_;simp(disch:=omega)[hcs];apply Y;refine aE fun _ Y=>?_;simp(disch:=omega)[hcs];refine⟨hcp,?_⟩;refine cH ((hs j (by omega)).1 c2) ?_;apply Y;simp only [dL];apply Z;apply zB;refine pB fun _ _ Z=>?_;simp(disch:=omega)[hcs];and_intros<;>(try omega);apply Z;refine zq (j+1) ?_ ?_ ?_
   .omega
   .try dsimp only
    omega
   simp(disch:=omega)[hcs]
  refine zk [1,2,7,8,9,10] ?_;refine pB fun _ _ Z=>?_;refine zs 2 fun _ Y=>?_;simp(disch:=omega)[hcs];apply Y;refine aE fun _ Y=>?_;simp(disch:=omega)[hcs];refine⟨hcp,?_⟩;refine cH ((hs j (by omega)).2 c2) ?_;apply Y;simp only [dL];apply Z;apply zB;refine pB fun _ _ Z=>?_;simp(disch:=omega)[hcs];and_intros<;>(try omega);apply Z;refine zq (j+1) ?_ ?_ ?_
  .omega
  .try dsimp only
   omega
  simp(disch:=omega)[hcs]
 obtain rfl:j=S.length:=by omega
 apply Cg;apply Ce;apply Ck;apply yV;simp [aI]
end Go.Proofs.YtbgfljpnhhdkoaaGreat
