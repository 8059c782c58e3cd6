import Derived.Test.YtbgfljpnhhdkoaaGreatWkPa2
import Derived.Test.YtbgfljpnhhdkoaaGreatPaKid
import Derived.Test.YtbgfljpnhhdkoaaGreatWkAr11
set_option linter.all false
set_option maxHeartbeats 8000000
set_option maxRecDepth 20000
open Go.Proofs.Tryz
namespace Go.Proofs.YtbgfljpnhhdkoaaGreat
open Go Go.Vm
theorem WT.permP {a b:List ND} {rk:Int->Nat} (h:a.Perm b)(hw:WT b rk):WT a rk:=by
 have hm:∀n,n∈a↔n∈b:=fun n=>h.mem_iff;refine⟨(h.map ND.ID).nodup_iff.2 hw.nd,fun n hn k hk=>?_,fun n hn=>?_,fun n hn=>hw.nn n ((hm n).1 hn),fun n hn=>hw.kn n ((hm n).1 hn),fun n hn=>hw.dec n ((hm n).1 hn)⟩
 .obtain⟨c,h1,h2⟩:=hw.kids n ((hm n).1 hn) k hk;exact⟨c,(hm c).2 h1,h2⟩
 rcases hw.par n ((hm n).1 hn)with h1 | ⟨p,h1,h2⟩
 .exact .inl h1
 exact .inr ⟨p,(hm p).2 h1,h2⟩
variable {k m M l:Nat} {d:DS} {rk:Int->Nat} {x y:RD} {σ:List (List D)} {ops' o:List TOp} {p c co:Int} {to:List Int}
theorem aMa(h:IX k m M d rk x σ):De x.l=De d.l:=by
 funext b p s;unfold De oN;rw [h.xp.fd,h.xp.il,h.xp.wb]
theorem Te(h:IX k m M d rk x σ):aG x.l=aG d.l:=h.xp.fd
theorem aAo(h:IX k m M d rk x σ):eN x.l=eN d.l:=h.xp.il
theorem aV3(h:IX k m M d rk x σ):WT x.l rk:=h.iv.wt.permP h.xp.l
theorem aWe(h:IX k m M d rk x σ):cF x.l rk=cF d.l rk:=vB h.xp.fd rk
theorem aB2(h:IX k m M d rk x σ) {ops:List TOp} (h1:eN d.l p=true)(h2:(aG d.l p).kind=2)(hb:∀s∈kY (aG d.l p).kids to,¬De d.l (cF d.l rk) p s)(hk:KR p (kY (aG d.l p).kids to) x ops y ops')(z0:RD):
  ops'=ops++(kY (aG d.l p).kids to).map (Rx p)/\KI x y p (oH (aG d.l p).kids (cZ to) (cZ (nI (aG d.l p).kids (cZ to))) (cZ to).length).1/\(RPath z0 ops x->RPath z0 ops' y):=by
 rw [<- Te h] at *;rw [<- aAo h] at h1;rw [<- aMa h,<- aWe h] at hb;have hw:=aV3 h;have hnd:(aG x.l p).kids.Nodup:=by
  obtain⟨P,hP,hPi,hPe⟩:=fE h1;rw [hPe];exact hw.kn P hP
 have e:kY (aG x.l p).kids to=(oH (aG x.l p).kids (cZ to) (cZ (nI (aG x.l p).kids (cZ to))) (cZ to).length).2:=by unfold kY;rw [Vo hnd]
 rw [e] at hb hk |-;exact aJ4 hw h1 h2 (xL to) (Xm fun i hi=>by have:=Lis.ofP_lt _ i hi;rwa [sI] at this) (aV _) hb hk
variable {M k l m:Nat}{d:DS}{o:List TOp}{rk:Int->Nat}{x y:RD}{σ:List (List D)}
theorem aIk(k m M l:Nat)(d:DS)(rk:Int->Nat)(x y:RD)(ops:List TOp)(σ:List (List D))(h:LX k m M l d rk y ops σ)(hk:k<=800)(hp:RPath x ops y):Ct prog 19 [.ref l 0,gB x,.sl false (ops.map kF)] σ (fun r σ'=>r= .bool true/\σ'=σ):=by
 refine zf func19 ?_;have hg:=h.at_;have hol:=h.len;refine bE fun _ _ Z=>?_;simp(disch:=omega)[hg];apply Z;refine bE fun _ _ Z=>?_;refine zs 1 fun _ Y=>?_;simp(disch:=omega)[hg];apply Y;refine aE fun _ Y=>?_;simp(disch:=omega)[hg];refine cB (Jd l m ops _ (by omega) hg) ?_;apply Y;simp(disch:=omega)[hg];apply Z;apply aF;refine bE fun _ _ Z=>?_;simp(disch:=omega)[hg];and_intros<;>(try omega);apply Z;refine zI ?_ ?_<;>intro c1<;>try simp at c1
 apply zA;apply aF;refine bE fun _ _ Z=>?_;simp(disch:=omega)[hg];and_intros<;>(try omega);apply Z;apply aS;refine zk [0,2,4,6,7,20,21] ?_;refine aZ (fun(j:Nat)=> [(21,.d (.v (.int .i64 (j:Int)))),(8,.d (.any))]) [6,8,21,22,23,24,25,26,27,28,29,30,31,32,33] (fun(j:Nat)=>j<=ops.length) (fun(j:Nat)=>ops.length - j) (0) (by simp <;> rfl) ?_ ?_ ?_
 .simp
 .simp
 rintro j hj;simp only [aP,aN];refine bE fun _ _ Z=>?_;simp(disch:=omega)[hg];apply Z;apply aF;refine zI ?_ ?_<;>intro c2<;>try simp at c2
 .apply kR;refine bE fun _ _ Z=>?_;simp(disch:=omega)[hg];apply Z;refine zd ⟨[],[],[],[],[]⟩ [.op {},.op {},.op {},.op {},.op {},.op {},.op {},.op {},.op {}] fun all hall _ Z=>?_;refine iU 8 fun _ Y=>?_;simp(disch:=omega)[hg];and_intros<;>(try omega);apply Y;simp(disch:=omega)[hg];apply Z;refine zI ?_ ?_<;>intro c3<;>try simp at c3
  apply mM;refine zk [0,2,4,7,8,20,21] ?_;refine rB fun _ _ Z=>?_;simp(disch:=omega)[hg];and_intros<;>(try omega);apply Z;refine zq (j+1) ?_ ?_ ?_
  .omega
  .try dsimp only
   omega
  simp(disch:=omega)[hg]
 apply zE;refine bE fun _ _ Z=>?_;refine zs 2 fun _ Y=>?_;simp(disch:=omega)[hg];apply Y;refine aE fun _ Y=>?_;simp(disch:=omega)[hg];refine cB (hp.replay (by omega) _) ?_;apply Y;simp(disch:=omega)[hg];apply Z;refine zk [0,2,9,10,11] ?_;refine zd ⟨[],[],[],[],[]⟩ [.op {},.op {},.op {},.op {},.op {},.op {},.op {},.op {},.op {},.op {},.op {},.op {},.op {rO:=true},.op {rL:=true},.read,.op {},.op {}] fun all hall _ Z=>?_;have ga4:aT all 4=some 45:=hall 4;have ga8:aT all 8=some 49:=hall 8;refine iU 5 fun _ Y=>?_;simp(disch:=omega)[hg,ga4,ga8];and_intros<;>(try omega);apply Y;refine Yg 45 ?_ ?_<;>intro g4<;>try simp at g4
 refine iU 4 fun _ Y=>?_;simp(disch:=omega)[hg,ga4,ga8];apply Y;refine Yg 49 ?_ ?_<;>intro g5<;>try simp at g5
 refine iU 5 fun _ Y=>?_;simp(disch:=omega)[hg,ga4,ga8];apply Y;refine zdg ga8 fun _ Y=>?_;simp(disch:=omega)[hg,ga4,ga8];refine zdr (aXn k m M d rk y _ h.ix hk) ?_;apply Y;simp(disch:=omega)[hg,ga4,ga8];apply Z;apply aD;simp [aK]
theorem aKt(k m M l:Nat)(d:DS)(rk:Int->Nat)(x:RD)(ops:List TOp)(i:Int)(s:ByteArray)(σ:List (List D))(h:LX k m M l d rk x ops σ)(hk:k<=800)(hs:(eN d.l i=true/\¬i=0/\(aG d.l i).kind=2/\(aG d.l i).tag=s)):Ct prog 23 [.ref l 0,D.int i,D.str s] σ (fun r σ'=>r= .int 0/\σ'=σ):=by
 refine zf func23 ?_;have hg:=h.at_;have hnb:=h.ix.iv.ip.NB (by omega);refine bE fun _ _ Z=>?_;simp(disch:=omega)[hg,hs];apply Z;apply aF;refine bE fun _ _ Z=>?_;refine zs 5 fun _ Y=>?_;simp(disch:=omega)[hg,hs];apply Y;refine aE fun _ Y=>?_;simp(disch:=omega)[hg,hs];refine cB (Be m M d i _ h.ix.iv.ho hnb) ?_;apply Y;simp(disch:=omega)[hg,hs];apply Z;refine zk [0,1,2,6,7,8] ?_;refine pB ⟨[],[],[],[],[]⟩ fun all hall _ Z=>?_;have ga1:aT all 1=some 19:=hall 1;have ga5:aT all 5=some 23:=hall 5;have ga10:aT all 10=some 28:=hall 10;refine zs 2 fun _ Y=>?_;simp(disch:=omega)[hg,hs,ga1,ga5,ga10];apply Y;refine zb 19 ?_ ?_<;>intro g1<;>try simp at g1
 refine zs 4 fun _ Y=>?_;simp(disch:=omega)[hg,hs,ga1,ga5,ga10];apply Y;refine zb 23 ?_ ?_<;>intro g2<;>try simp at g2
 refine zs 5 fun _ Y=>?_;simp(disch:=omega)[hg,hs,ga1,ga5,ga10];apply Y;refine zb 28 ?_ ?_<;>intro g3<;>try simp at g3
 simp(disch:=omega)[hg,hs,ga1,ga5,ga10];apply Z;refine zI ?_ ?_<;>intro c4<;>try simp at c4
 refine zk [0,1,2,6] ?_;refine bE fun _ _ Z=>?_;simp(disch:=omega)[hg,hs];apply Z;apply aD;simp [aK]
theorem aMr(k m M l:Nat)(d:DS)(rk:Int->Nat)(x:RD)(ops:List TOp)(i:Int)(s:ByteArray)(c:Int)(σ2:List (List D))(σ:List (List D))(h:LX k m M l d rk x ops σ)(hk:k<=800)(hs:¬(eN d.l i=true/\¬i=0/\(aG d.l i).kind=2/\(aG d.l i).tag=s))(hc:Ct prog 80 [.ref l 0,D.int i,D.str s] σ (fun r τ=>r=D.int c/\τ=σ2)):Ct prog 23 [.ref l 0,D.int i,D.str s] σ (fun r σ'=>r=D.int c/\σ'=σ2):=by
 refine zf func23 ?_;have hg:=h.at_;have hnb:=h.ix.iv.ip.NB (by omega);refine bE fun _ _ Z=>?_;simp(disch:=omega)[hg];apply Z;apply aF;refine bE fun _ _ Z=>?_;refine zs 5 fun _ Y=>?_;simp(disch:=omega)[hg];apply Y;refine aE fun _ Y=>?_;simp(disch:=omega)[hg];refine cB (Be m M d i _ h.ix.iv.ho hnb) ?_;apply Y;simp(disch:=omega)[hg];apply Z;refine zk [0,1,2,6,7,8] ?_;refine pB ⟨[],[],[],[],[]⟩ fun all hall _ Z=>?_;have ga1:aT all 1=some 19:=hall 1;have ga5:aT all 5=some 23:=hall 5;have ga10:aT all 10=some 28:=hall 10;refine zs 2 fun _ Y=>?_;simp(disch:=omega)[hg,ga1,ga5,ga10];apply Y;refine zb 19 ?_ ?_<;>intro g1<;>try simp at g1
 .refine zs 4 fun _ Y=>?_;simp(disch:=omega)[hg,ga1,ga5,ga10];apply Y;refine zb 23 ?_ ?_<;>intro g2<;>try simp at g2
  .refine zs 5 fun _ Y=>?_;simp(disch:=omega)[hg,ga1,ga5,ga10];apply Y;refine zb 28 ?_ ?_<;>intro g3<;>try simp at g3
   .simp(disch:=omega)[hg,ga1,ga5,ga10];apply Z;refine zI ?_ ?_<;>intro c4<;>try simp at c4
    .exact absurd ⟨g1,g2,g3,c4⟩ hs
    apply zA;refine zk [0,1,2,6] ?_;refine bE fun _ _ Z=>?_;refine zs 3 fun _ Y=>?_;simp(disch:=omega)[hg];apply Y;refine aE fun _ Y=>?_;simp(disch:=omega)[hg];refine cB (hc) ?_;apply Y;simp(disch:=omega)[hg];apply Z;apply aD;simp [aK]
   simp(disch:=omega)[hg,ga1,ga5,ga10];apply Z;refine bS (t:=false) (by simp) (fun h=>by cases h) (fun _=>?_);apply zA;refine zk [0,1,2,6] ?_;refine bE fun _ _ Z=>?_;refine zs 3 fun _ Y=>?_;simp(disch:=omega)[hg];apply Y;refine aE fun _ Y=>?_;simp(disch:=omega)[hg];refine cB (hc) ?_;apply Y;simp(disch:=omega)[hg];apply Z;apply aD;simp [aK]
  refine zs 5 fun _ Y=>?_;simp(disch:=omega)[hg,ga1,ga5,ga10];apply Y;simp(disch:=omega)[hg,ga1,ga5,ga10];apply Z;refine bS (t:=false) (by simp) (fun h=>by cases h) (fun _=>?_);apply zA;refine zk [0,1,2,6] ?_;refine bE fun _ _ Z=>?_;refine zs 3 fun _ Y=>?_;simp(disch:=omega)[hg];apply Y;refine aE fun _ Y=>?_;simp(disch:=omega)[hg];refine cB (hc) ?_;apply Y;simp(disch:=omega)[hg];apply Z;apply aD;simp [aK]
 refine zs 4 fun _ Y=>?_;simp(disch:=omega)[hg,ga1,ga5,ga10];apply Y;refine zs 5 fun _ Y=>?_;simp(disch:=omega)[hg,ga1,ga5,ga10];apply Y;simp(disch:=omega)[hg,ga1,ga5,ga10];apply Z;refine bS (t:=false) (by simp) (fun h=>by cases h) (fun _=>?_);apply zA;refine zk [0,1,2,6] ?_;refine bE fun _ _ Z=>?_;refine zs 3 fun _ Y=>?_;simp(disch:=omega)[hg];apply Y;refine aE fun _ Y=>?_;simp(disch:=omega)[hg];refine cB (hc) ?_;apply Y;simp(disch:=omega)[hg];apply Z;apply aD;simp [aK]
def TagOk(n:ND):Prop:=n.ID≠0->n.kind=2->fF n.tag=true
def TagsOk(x:RD):Prop:=∀n∈x.l,TagOk n
theorem TagsOk.new(most:Int):TagsOk (newX most):=fun n hn=>by
 have:n=pF:=by simpa [newX] using hn
 subst this;intro h;exact absurd rfl h
theorem TagsOk.find {x:RD} (h:TagsOk x) {id:Int} (hl:eN x.l id=true):TagOk (aG x.l id):=by
 obtain⟨n,h1,h2,h3⟩:=fE hl;rw [h3];exact h n h1
theorem TagOk.put {l:List ND} (h:∀n∈l,TagOk n) {n':ND} (hn:TagOk n'):∀n∈fI l n',TagOk n:=fun n hm=>by
 unfold fI at hm;obtain⟨y,hy,rfl⟩:=aX.1 hm;split
 .exact hn
 exact h y hy
theorem TagsOk.add (h:TagsOk x)(kind:Int)(s:ByteArray)(hk:kind=1\/kind=2):TagsOk (addX x kind s).1:=by
 unfold addX;split
 .exact h
 rename_i c1;split
 .exact h
 intro n hn;rcases cK.1 hn with hn | hn
 .exact h n hn
 have:n=oE x.next kind s:=by simpa using hn
 subst this;intro h1 h2;have hk2:kind=2:=h2;subst hk2;have:fF s=true:=by
  cases hs:fF s with
  | true=>rfl
  | false=>exact absurd ⟨rfl,hs⟩ c1
 simpa [oE] using this
theorem TagsOk.ins (h:TagsOk x)(b:Int->List Int)(p at_ id:Int):TagsOk (insX x b p at_ id).1:=by
 unfold insX;split
 .exact h
 rename_i c1;have i1:eN x.l p=true:=by cases q:eN x.l p with | true=>rfl | false=>exact absurd (.inl q) c1
 have i2:eN x.l id=true:=by cases q:eN x.l id with | true=>rfl | false=>exact absurd (.inr q) c1
 split
 .exact h
 split
 .exact h
 show ∀n∈fI (fI x.l _) _,TagOk n
 refine TagOk.put (TagOk.put h ?_) ?_
 .exact h.find i1
 exact h.find i2
theorem TagsOk.mov (h:TagsOk x)(id at_:Int):TagsOk (movX x id at_).1:=by
 unfold movX;split
 .exact h
 split
 .exact h
 rename_i c2;have i1:eN x.l (aG x.l id).parent=true:=by cases q:eN x.l (aG x.l id).parent with | true=>rfl | false=>exact absurd (.inl q) c2
 show ∀n∈fI x.l _,TagOk n
 refine TagOk.put h ?_;exact h.find i1
theorem TagsOk.rem (h:TagsOk x)(b:Int->List Int)(id:Int):TagsOk (remX x b id).1:=by
 unfold remX;split
 .exact h
 split
 .exact h
 intro n hn;have hn:=(cY.1 hn).1;unfold remP at hn;split at hn
 .rename_i c;exact TagOk.put h (by exact h.find c) n hn
 exact h n hn
theorem TagsOk.chN {n n':ND} (h:TagOk n) {kind:Int} {name v:ByteArray} {num:Int} (hv:¬(¬kind=1/\fF name=false))(e:chN n kind name v num=some n'):TagOk n':=by
 unfold Go.Proofs.YtbgfljpnhhdkoaaGreat.chN at e;split at e
 .rename_i c;cases e;intro _ _;cases q:fF name with
  | true=>rfl
  | false=>exact absurd ⟨by omega,q⟩ hv
 all_goals first | (cases e;exact h) | skip
 (repeat' split at e) <;> first | (cases e;exact h) | cases e
theorem TagsOk.set (h:TagsOk x)(kind id:Int)(name v:ByteArray)(num:Int):TagsOk (setX x kind id name v num).1:=by
 unfold setX;split
 .exact h
 rename_i c1;have i1:eN x.l id=true:=by cases q:eN x.l id with | true=>rfl | false=>exact absurd q c1
 split
 .exact h
 split
 .exact h
 split
 .exact h
 rename_i c4;split
 .exact h
 rename_i n hn;exact TagOk.put h (TagsOk.chN (h.find i1) c4 hn)
theorem TagsOk.act {a:Act} (h:TagsOk x)(hd:DoS a x y):TagsOk y:=by
 cases hd with
 | el q=>exact h.add _ _ (.inr rfl)
 | tx q=>exact h.add _ _ (.inl rfl)
 | ins b q hb=>exact h.ins _ _ _ _
 | mov q=>exact h.mov _ _
 | rem b q hb=>exact h.rem _ _
 | set q=>exact h.set _ _ _ _ _
 | no=>exact h
section
variable {ops:List TOp}
theorem aNo(h:LX k m M l d rk x ops σ)(hk:k<=790)(i:Int)(s:ByteArray)(hs:s.size<=1000):∃d' rk' y c ops' σ',Ct prog 23 [.ref l 0,D.int i,D.str s] σ (fun r τ=>r=D.int c/\τ=σ')/\LX (k+1) m M l d' rk' y ops' σ'/\
  Oth m (· =l) d d' σ σ'/\(((eN d.l i=true/\¬i=0/\(aG d.l i).kind=2/\(aG d.l i).tag=s)/\c=0/\y=x/\ops'=ops)\/(¬(eN d.l i=true/\¬i=0/\(aG d.l i).kind=2/\(aG d.l i).tag=s)/\setX x 0 i s ⟨#[]⟩ 0=(y,c)/\ops'=Nv ops c ⟨6,i,0,0,s,⟨#[]⟩⟩/\
   ∀τ,Ct prog 161 [gB x,kF ⟨6,i,0,0,s,⟨#[]⟩⟩] τ (fun r τ'=>r= .tup [gB y,D.int c]/\τ'=τ))):=by
 by_cases q:eN d.l i=true/\¬i=0/\(aG d.l i).kind=2/\(aG d.l i).tag=s
 .exact⟨d,rk,x,0,ops,σ,aKt k m M l d rk x ops i s σ h (by omega) q,h.keep,Oth.refl _ _ _ _,.inl ⟨q,rfl,rfl,rfl⟩⟩
 obtain⟨d',rk',y,c,σ',hc,hx,hd,hr,ho⟩:=aT5 h (by omega) i s hs;obtain⟨b,b2,n,h1,h2,h3⟩:=hd;exact⟨d',rk',y,c,_,σ',aMr k m M l d rk x ops i s c σ' σ h (by omega) q hc,hx,ho,.inr ⟨q,by simpa using h3.2.2.2.2.2.2.2 (by simp) (by simp),rfl,hr⟩⟩
end
abbrev ulB:ByteArray:=⟨#[117,108]⟩
abbrev liB:ByteArray:=⟨#[108,105]⟩
def pAw:List Act:= [⟨0,0,0,0,ulB,⟨#[]⟩⟩,⟨0,0,0,0,liB,⟨#[]⟩⟩,⟨0,0,0,0,liB,⟨#[]⟩⟩]
def pX:Nat->RD
 | 0=>newX 20
 | k+1=>(addX (pX k) 2 (if k=0 then ulB else liB)).1
theorem DoS.el' {a:Act} (h:DoS a x y)(q:(dG a).kind=0):y=(addX x 2 (dG a).name).1:=by
 cases h with
 | el=>rfl
 | tx q1=>omega
 | ins b q1=>omega
 | mov q1=>omega
 | rem b q1=>omega
 | set q1=>omega
 | no q1=>exact absurd q q1
theorem aIn(k:Nat)(hk:k<pAw.length)(x y:RD)(hx:x=pX k)(h:DoS pAw[k] x y):y=pX (k+1):=by
 subst hx
 match k,hk with
 | 0,_=>exact h.el' rfl
 | 1,_=>exact h.el' rfl
 | 2,_=>exact h.el' rfl
def pN(i:Int)(s:ByteArray):ND:=⟨i,2,s,⟨#[]⟩, [], [], [], -1, []⟩
def pX3:RD:=⟨20,4, [pF,pN 1 ulB,pN 2 liB,pN 3 liB]⟩
theorem aYc:pX 3=pX3:=by decide+kernel
theorem pS1:kY [] [2,3]= [⟨2,3,0⟩,⟨2,2,0⟩]:=by decide+kernel
theorem pR1:(oH [] (cZ [2,3]) (cZ (nI [] (cZ [2,3]))) (cZ [2,3]).length).1= [2,3]:=by decide+kernel
theorem pS2:∃i a,kY [2,3] [3,2]= [⟨3,i,a⟩]:=⟨_,_,(by decide+kernel:kY [2,3] [3,2]= [⟨3,3,0⟩])⟩
theorem aXb:aG (pX 3).l 1=pN 1 ulB/\aG (pX 3).l 2=pN 2 liB/\aG (pX 3).l 3=pN 3 liB/\eN (pX 3).l 1=true/\eN (pX 3).l 2=true/\eN (pX 3).l 3=true/\eN (pX 3).l 9=false:=by
 rw [aYc];exact⟨rfl,rfl,rfl,rfl,rfl,rfl,rfl⟩
theorem aKd {l:List ND} (hd:Dec l rk) {i:Int} (h:(aG l i).kids= []):cF l rk i= [i]:=by rw [jI hd,h];rfl
theorem Kw {l:List ND} (hd:Dec l rk) {p i:Int} (h:(aG l i).kids= [])(hl:eN l i=true)(h0:¬i=0)(hp:(aG l i).parent<0)(hne:¬i=p):oN l (cF l rk) p i=true:=by
 rw [aFo];refine⟨hl,h0,hp,?_⟩;unfold oB;rw [aKd hd h];simp [hne]
theorem aV6 (h:LX k m M l d rk (pX 3) [] σ) {c:Int} (hk:aN5 d rk (pX 3) [] 1 (kY (aG d.l 1).kids [2,3]) c y o):
  c=0/\KI (pX 3) y 1 [2,3]/\∃p1 p2,o= [p1,p2]:=by
 obtain⟨f1,f2,f3,l1,l2,l3,l9⟩:=aXb;have hf:=Te h.ix;have hl:=aAo h.ix;have hD:=h.ix.iv.wt.Dec;rw [hf] at f1 f2 f3;rw [hl] at l1 l2 l3;have e1:(aG d.l 1).kids= []:=by rw [f1];rfl
 have hS:kY (aG d.l 1).kids [2,3]= [⟨2,3,0⟩,⟨2,2,0⟩]:=by rw [e1];exact pS1
 have hb:∀s∈kY (aG d.l 1).kids [2,3],¬De d.l (cF d.l rk) 1 s:=by
  rw [hS];intro s hs;simp only [bU,fJ,fU] at hs;rcases hs with rfl | rfl
  .exact Ju rfl (Kw hD (by rw [f3];rfl) l3 (by decide) (by rw [f3];decide) (by decide))
  exact Ju rfl (Kw hD (by rw [f2];rfl) l2 (by decide) (by rw [f2];decide) (by decide))
 have hk2:(aG d.l 1).kind=2:=by rw [f1];rfl
 rcases hk with ⟨a, -⟩ | ⟨-,a, -⟩ | ⟨-, -,⟨⟨s,a1,a2⟩, -⟩ | ⟨-,rfl,a⟩⟩
 .rw [l1] at a;cases a
 .exact absurd hk2 a
 .exact absurd a2 (hb s a1)
 obtain⟨r1,r2, -⟩:=aB2 h.ix l1 hk2 hb a (pX 3);rw [e1,pR1] at r2;rw [hS] at r1;exact⟨rfl,r2,_,_,r1⟩
theorem aXs (h:LX k m M l d rk y o σ)(ki:KI (pX 3) y 1 [2,3]) {c:Int} {z:RD} {o2:List TOp} (hk:aN5 d rk y o 1 (kY (aG d.l 1).kids [3,2]) c z o2):
  c=0/\(∃q,o2=o++ [q]/\q.kind=4)/\eN z.l 9=false:=by
 obtain⟨f1,f2,f3,l1,l2,l3,l9⟩:=aXb;have hf:=Te h.ix;have hl:=aAo h.ix;have e1:(aG d.l 1).kids= [2,3]:=by rw [<- hf,ki.kk 1,aI rfl]
 have hk2:(aG d.l 1).kind=2:=by rw [<- hf];exact ki.kd
 have hl1:eN d.l 1=true:=by rw [<- hl,ki.il];exact l1
 obtain⟨i,a,hS⟩:=pS2;rw [<- e1] at hS;have hb:∀s∈kY (aG d.l 1).kids [3,2],¬De d.l (cF d.l rk) 1 s:=by
  rw [hS];intro s hs;simp only [bU,fJ,fU] at hs;subst hs;exact Ux (by simp) (by simp)
 rcases hk with ⟨a, -⟩ | ⟨-,a, -⟩ | ⟨-, -,⟨⟨s,a1,a2⟩, -⟩ | ⟨-,rfl,a⟩⟩
 .rw [hl1] at a;cases a
 .exact absurd hk2 a
 .exact absurd a2 (hb s a1)
 obtain⟨r1,r2, -⟩:=aB2 h.ix hl1 hk2 hb a y;rw [hS] at r1;exact⟨rfl,⟨_,r1,rfl⟩,by rw [r2.il,ki.il];exact l9⟩
theorem aUp (h:LX k m M l d rk y o σ)(hk:k<=700)(h9:eN y.l 9=false):∃σ',Ct prog 23 [.ref l 0,D.int 9,D.str ⟨#[112]⟩] σ (fun r τ=>r=D.int 11/\τ=σ'):=by
 obtain⟨d',rk',z,c,o',σ',hc, -, -,hh⟩:=aNo h (by omega) 9 ⟨#[112]⟩ (by decide);rw [aAo h.ix] at h9;rcases hh with ⟨⟨a, -⟩, -⟩ | ⟨-,hs, -⟩
 .rw [h9] at a;cases a
 rw [Rr (by rw [aAo h.ix];exact h9)] at hs;cases hs;exact⟨σ',hc⟩
theorem sT:List.range 2= [0,1]:=rfl
theorem tG:List.range 3= [0,1,2]:=rfl
theorem aN3(σ:List (List D)):Ct prog 13 [.sl false [uA ⟨0,0,0,0,ulB,⟨#[]⟩⟩,uA ⟨0,0,0,0,liB,⟨#[]⟩⟩,uA ⟨0,0,0,0,liB,⟨#[]⟩⟩]] σ (fun r σ'=>∃m M l d rk,r= .tup [.ref l 0,gB (pX 3)]/\LX 3 m M l d rk (pX 3) [] σ'):=by
 refine(Ou pAw (fun k x=>x=pX k) rfl (fun k hk x y=>aIn k hk x y) σ (by decide) (fun a ha=>?_)).mono ?_
 .simp only [pAw,bU,fJ,fU] at ha;rcases ha with rfl | rfl | rfl <;> decide
 rintro r σ' ⟨k,m,M,l,d,rk,x,k1,k2,k3,hr,hx,hg⟩;have e:pAw.length=3:=rfl;obtain rfl:k=3:=by omega
 subst hg;exact⟨m,M,l,d,rk,hr,hx⟩
theorem aBm  (σ:List (List D))  :Ct prog 12 [] σ (fun r σ'=>r= .bool true):=by
 refine zf func12 ?_;refine bE fun _ _ Z=>?_;simp[sT,tG];apply Z;refine bE fun _ _ Z=>?_;refine zs 4 fun _ Y=>?_;simp[sT,tG];and_intros<;>(try omega);apply Y;refine aE fun _ Y=>?_;simp[sT,tG];refine zcm (aN3 _) ?_;rintro _ τ0 ⟨m,M,l,d,rk,hr9,hx⟩;subst hr9;have hg:=hx.at_;apply Y;simp[sT,tG,hg];apply Z;apply aF;refine pB ⟨[],[],[],[],[]⟩ fun all hall _ Z=>?_;have ga2:aT all 2=some 15:=hall 2;refine zs 3 fun _ Y=>?_;simp[sT,tG,ga2,hg];apply Y;refine zb 15 ?_ ?_<;>intro g1<;>try simp at g1
 simp[sT,tG,ga2,hg];apply Z;refine zI ?_ ?_<;>intro c2<;>try simp at c2
 apply zA;refine zk [0,1] ?_;refine bE fun _ _ Z=>?_;refine zs 2 fun _ Y=>?_;simp[sT,tG,hg];and_intros<;>(try omega);apply Y;refine aE fun _ Y=>?_;simp[sT,tG,hg];refine zcm (aC1 3 m M l d rk (pX 3) [] 1 [2,3] _ hx (by omega) (by decide)) ?_;rintro _ τ1 ⟨cc1,k1,d1,rk1,y1,o1,hr9,hk1,hx1,hkr, -⟩;subst hr9;obtain⟨rfl,ki,p1,p2,rfl⟩:=aV6 hx hkr;apply Y;simp[sT,tG,hg];apply Z;refine bE fun _ _ Z=>?_;refine zs 2 fun _ Y=>?_;simp[sT,tG,hg];and_intros<;>(try omega);apply Y;refine aE fun _ Y=>?_;simp[sT,tG,hg];refine zcm (aC1 k1 m M l d1 rk1 y1 [p1,p2] 1 [3,2] _ hx1 (by simp at hk1;omega) (by decide)) ?_;rintro _ τ2 ⟨cc2,k2,d2,rk2,y2,o2,hr9,hk2,hx2,hkr2, -⟩;subst hr9;obtain⟨rfl,⟨q,rfl,hq⟩,h9⟩:=aXs hx1 ki hkr2;have hg2:=hx2.at_;simp only [aP,aN] at hx2 hg2;apply Y;simp[sT,tG,hg,hg2,hq];apply Z;refine zk [0,1,3,4] ?_;refine pB ⟨[],[],[],[],[]⟩ fun all hall _ Z=>?_;have ga2:aT all 2=some 30:=hall 2;have ga6:aT all 6=some 34:=hall 6;have ga12:aT all 12=some 40:=hall 12;have ga20:aT all 20=some 48:=hall 20;refine zs 3 fun _ Y=>?_;simp[sT,tG,ga2,ga6,ga12,ga20,hg,hg2,hq];apply Y;refine zb 30 ?_ ?_<;>intro g3<;>try simp at g3
 refine zs 4 fun _ Y=>?_;simp[sT,tG,ga2,ga6,ga12,ga20,hg,hg2,hq];apply Y;refine zb 34 ?_ ?_<;>intro g4<;>try simp at g4
 refine zs 1 fun _ Y=>?_;simp[sT,tG,ga2,ga6,ga12,ga20,hg,hg2,hq];apply Y;refine zg ga6 fun _ Y=>?_;simp[sT,tG,ga2,ga6,ga12,ga20,hg,hg2,hq];refine cB (Jd l m [p1,p2,q] _ (by simp) hg2) ?_;apply Y;refine zs 4 fun _ Y=>?_;simp[sT,tG,ga2,ga6,ga12,ga20,hg,hg2,hq];and_intros<;>(try omega);apply Y;refine zb 40 ?_ ?_<;>intro g5<;>try simp at g5
 refine zs 1 fun _ Y=>?_;simp[sT,tG,ga2,ga6,ga12,ga20,hg,hg2,hq];apply Y;refine zg ga12 fun _ Y=>?_;simp[sT,tG,ga2,ga6,ga12,ga20,hg,hg2,hq];refine cB (Jd l m [p1,p2,q] _ (by simp) hg2) ?_;apply Y;refine zs 6 fun _ Y=>?_;simp[sT,tG,ga2,ga6,ga12,ga20,hg,hg2,hq];and_intros<;>(try omega);apply Y;refine zb 48 ?_ ?_<;>intro g6<;>try simp at g6
 refine zs 1 fun _ Y=>?_;simp[sT,tG,ga2,ga6,ga12,ga20,hg,hg2,hq];apply Y;refine zg ga20 fun _ Y=>?_;simp[sT,tG,ga2,ga6,ga12,ga20,hg,hg2,hq];obtain⟨σ3,hc3⟩:=aUp hx2 (by simp at hk1 hk2;omega) h9;refine cB (hc3) ?_;apply Y;simp[sT,tG,ga2,ga6,ga12,ga20,hg,hg2,hq];apply Z;apply aD;simp [aK]
theorem aV7(N:Nat)(l:List SA):Sc N (.sl true (l.map Sf)):=Sc.sl fun d hd=>by
 obtain⟨a,_,rfl⟩:=aX.1 hd;exact Sc.agg fun e he=>by
  simp only [bU,fJ,fU] at he;rcases he with rfl | rfl | rfl <;> exact Sc.v _
theorem aXz(N:Nat)(l:List SI):Sc N (.sl true (l.map Il)):=Sc.sl fun d hd=>by
 obtain⟨a,_,rfl⟩:=aX.1 hd;exact Sc.agg fun e he=>by
  simp only [bU,fJ,fU] at he;rcases he with rfl | rfl | rfl <;> exact Sc.v _
theorem aKb(a b:List AT)(σ:List (List D))(ha:a.length<=99999)(hb:b.length<=99999):Ct prog 118 [.sl false (a.map dU),.sl false (b.map dU)] σ (fun r σ'=>r= .sl true ((jF nA zD a b).map Sf)/\σ'=σ):=
 xA (aGh a b σ ha hb) fun r hr=>by rw [hr];exact aV7 _ _
theorem aJr(a b:List PI)(σ:List (List D))(ha:a.length<=99999)(hb:b.length<=99999):Ct prog 124 [.sl false (a.map cM),.sl false (b.map cM)] σ (fun r σ'=>r= .sl true ((jF nP Ao a b).map Il)/\σ'=σ):=
 xA (aHi a b σ ha hb) fun r hr=>by rw [hr];exact aXz _ _
def Jk(o:OW)(k:Nat):Ls:=o.classes++(o.attrs.take k).map AT.name
def Ka(o:OW)(k:Nat):Ls:=o.classes++o.attrs.map AT.name++(o.styles.take k).map PI.name
def iO(o:OW):Ls:=o.classes++o.attrs.map AT.name++o.styles.map PI.name
theorem Pu(o:OW) (h:k<o.attrs.length):Jk o (k+1)=Jk o k++ [o.attrs[k].name]:=by unfold Jk;rw [bK _ k h,dK,<- bM];rfl
theorem Rh(o:OW) (h:k<o.styles.length):Ka o (k+1)=Ka o k++ [o.styles[k].name]:=by unfold Ka;rw [bK _ k h,dK,<- bM];rfl
theorem Un(o:OW)(k:Nat)(h:k<=o.attrs.length):(Jk o k).length=o.classes.length+k:=by simp [Jk];omega
theorem Ye(o:OW)(k:Nat)(h:k<=o.styles.length):(Ka o k).length=o.classes.length+o.attrs.length+k:=by simp [Ka];omega
theorem Vv(o:OW):Jk o o.attrs.length=Ka o 0:=by simp [Jk,Ka]
theorem Xo(o:OW):Ka o o.styles.length=iO o:=by unfold Ka iO;rw [eH]
def Jw(n:ND)(is:Bool)(o:OW):Int:=if is=false then 11 else if n.ID=0 then 1 else if ¬n.kind=2 then 14 else if(iO o).any (fun s=> !fF s)=true then 2 else 0
theorem aNr {α:Type} (p:α->Bool)(l:List α):(0<=wQ p l)↔l.any p=true:=by
 unfold wQ;split
 .rename_i k h;rw [qL] at h;obtain⟨hk,he,_⟩:=h;simp only [lU];exact⟨fun _=>⟨_,cN hk,he⟩,fun _=>by omega⟩
 rename_i h;rw [qX] at h;constructor
 .intro q;omega
 intro q;obtain⟨x,h1,h2⟩:=lU.1 q;rw [h x h1] at h2;cases h2
@[simp] abbrev q42_1:Cfg:=⟨[2,3,18,31,37],[],[],[],[]⟩
theorem aK8(o:OW)(σ:List (List D))(h1:o.classes.length<=9999)(h2:o.attrs.length<=9999)(h3:o.styles.length<=9999):Ct prog 191 [Yz o] σ (fun r σ'=>r=dlo (iO o)/\σ'=σ):=by
 refine zf func191 ?_;refine zr q42_1 fun _ _ Z=>?_;simp(disch:=omega);apply Z;refine zr q42_1 fun _ _ Z=>?_;refine zs 2 fun _ Y=>?_;simp(disch:=omega);apply Y;refine aE fun _ Y=>?_;simp(disch:=omega);refine cB (Ly o.classes _ (by omega)) ?_;apply Y;simp(disch:=omega);apply Z;apply aF;refine zr q42_1 fun _ _ Z=>?_;simp(disch:=omega);and_intros<;>(try omega);apply Z;apply aS;refine zk [1,2,3,12,13,14] ?_;refine aZ (fun(k:Nat)=> [(14,.d (.v (.int .i64 (k:Int)))),(3,.d (dlo (Jk o k))),(5,.d (.any))]) [3,5,14,15,16,17,18,19,20,21,22,23] (fun(k:Nat)=>k<=o.attrs.length) (fun(k:Nat)=>o.attrs.length - k) (0) (by simp <;> rfl) ?_ ?_ ?_
 .simp [Jk]
 .simp
 rintro k hk;simp only [aP,aN];have hnl:=Un o k hk;refine zr q42_1 fun _ _ Z=>?_;simp(disch:=omega);apply Z;apply aF;refine zI ?_ ?_<;>intro c1<;>try simp at c1
 .have hnn:=Pu o c1;apply kR;refine zr q42_1 fun _ _ Z=>?_;simp(disch:=omega);and_intros<;>(try omega);apply Z;refine zt q42_1 fun _ _ Z=>?_;simp(disch:=omega);and_intros<;>(try omega);apply Z;apply zB;refine zk [1,2,3,5,12,13,14] ?_;refine zt q42_1 fun _ _ Z=>?_;simp(disch:=omega);and_intros<;>(try omega);apply Z;refine zq (k+1) ?_ ?_ ?_
  .omega
  .try dsimp only
   omega
  simp(disch:=omega)[hnn]
 obtain rfl:k=o.attrs.length:=by omega
 rw [Vv];apply zE;apply aF;refine zr q42_1 fun _ _ Z=>?_;simp(disch:=omega);and_intros<;>(try omega);apply Z;apply aS;refine zk [2,3,25,26,27] ?_;refine aZ (fun(j:Nat)=> [(27,.d (.v (.int .i64 (j:Int)))),(3,.d (dlo (Ka o j))),(7,.d (.any))]) [3,7,27,28,29,30,31,32,33,34,35,36] (fun(j:Nat)=>j<=o.styles.length) (fun(j:Nat)=>o.styles.length - j) (0) (by simp <;> rfl) ?_ ?_ ?_
 .simp
 .simp
 rintro j hj;simp only [aP,aN];have hnl:=Ye o j hj;refine zr q42_1 fun _ _ Z=>?_;simp(disch:=omega);apply Z;apply aF;refine zI ?_ ?_<;>intro c2<;>try simp at c2
 .have hnn:=Rh o c2;apply kR;refine zr q42_1 fun _ _ Z=>?_;simp(disch:=omega);and_intros<;>(try omega);apply Z;refine zt q42_1 fun _ _ Z=>?_;simp(disch:=omega);and_intros<;>(try omega);apply Z;apply zB;refine zk [2,3,7,25,26,27] ?_;refine zt q42_1 fun _ _ Z=>?_;simp(disch:=omega);and_intros<;>(try omega);apply Z;refine zq (j+1) ?_ ?_ ?_
  .omega
  .try dsimp only
   omega
  simp(disch:=omega)[hnn]
 obtain rfl:j=o.styles.length:=by omega
 rw [Xo];apply zE;refine zr q42_1 fun _ _ Z=>?_;simp(disch:=omega);apply Z;apply aD;simp [aK]
theorem aRc(s:ByteArray)(σ:List (List D))(hs:s.size<=9223372036854775807):Ct prog 192 [D.str s] σ (fun r σ'=>r= .bool (!fF s)/\σ'=σ):=by
 refine zf func192 ?_;refine bE fun _ _ Z=>?_;simp;apply Z;refine bE fun _ _ Z=>?_;refine zs 1 fun _ Y=>?_;simp;apply Y;refine aE fun _ Y=>?_;simp;refine cB (uG s _ hs) ?_;apply Y;simp;apply Z;apply aD;simp [aK]
theorem aD8(l:Ls)(p:ByteArray->Bool)(f:FuncId)(caps:List D)(σ:List (List D))(hl:l.length<=1000000)(hcp:∀d∈caps,d.plain=true)(hcs:caps.map D.strip=caps)(hp:∀x∈l,∀τ,Ct prog f (D.str x::caps) τ (fun r τ'=>r= .bool (p x)/\τ'=τ)):Ct prog 226 [dl l,.clo (.func f) [] caps] σ (fun r σ'=>r= .int (wQ p l)/\σ'=σ):=by
 refine zf func226 ?_;refine bE fun _ _ Z=>?_;simp(disch:=omega)[hcs];apply Z;apply aF;refine bE fun _ _ Z=>?_;simp(disch:=omega)[hcs];and_intros<;>(try omega);apply Z;apply aS;refine zk [0,1,4,7,8] ?_;refine aZ (fun(k:Nat)=> [(8,.d (.v (.int .i64 (k:Int))))]) [4,5,8,9,10,11,12,13,14,15,16,17,18] (fun(k:Nat)=>k<=l.length/\∀x∈l.take k,p x=false) (fun(k:Nat)=>l.length - k) (0) (by simp <;> rfl) ?_ ?_ ?_
 .simp
 .simp
 rintro k ⟨hk,hh⟩;simp only [aP,aN];refine bE fun _ _ Z=>?_;simp(disch:=omega)[hcs];apply Z;apply aF;refine zI ?_ ?_<;>intro c1<;>try simp at c1
 .apply kR;refine bE fun _ _ Z=>?_;simp(disch:=omega)[hcs];apply Z;refine bE fun _ _ Z=>?_;refine zs 5 fun _ Y=>?_;simp(disch:=omega)[hcs];and_intros<;>(try omega);apply Y;refine aE fun _ Y=>?_;simp(disch:=omega)[hcs];refine⟨hcp,?_⟩;refine cB (hp l[k] (cN (by omega)) _) ?_;apply Y;simp only [eE];apply Z;refine zI ?_ ?_<;>intro c2<;>try simp at c2
  .refine zk [0,1,5,7,8] ?_;refine bE fun _ _ Z=>?_;simp(disch:=omega)[hcs];apply Z;apply aD;simp [aK];exact(tZ c1 hh c2).symm
  apply mM;refine zk [0,1,7,8] ?_;refine rB fun _ _ Z=>?_;simp(disch:=omega)[hcs];and_intros<;>(try omega);apply Z;refine zq (k+1) ?_ ?_ ?_
  .exact⟨by omega,oF (by omega) hh c2⟩
  .try dsimp only
   omega
  simp(disch:=omega)[hcs]
 apply zE;refine bE fun _ _ Z=>?_;simp(disch:=omega)[hcs];apply Z;apply aD;simp [aK];rw [bL (by omega)] at hh;exact(qQ hh).symm
theorem Tz(l:Ls)(p:ByteArray->Bool)(f:FuncId)(σ:List (List D))(hl:l.length<=1000000)(hp:∀x∈l,∀τ,Ct prog f [D.str x] τ (fun r τ'=>r= .bool (p x)/\τ'=τ)):Ct prog 190 [dl l,.clo (.func f) [] []] σ (fun r σ'=>r= .bool (l.any p)/\σ'=σ):=by
 refine zf func190 ?_;refine bE fun _ _ Z=>?_;simp;apply Z;refine bE fun _ _ Z=>?_;refine zs 2 fun _ Y=>?_;simp;apply Y;refine aE fun _ Y=>?_;simp;refine cB (aD8 l p f [] _ hl (by simp) (by simp) hp) ?_;apply Y;simp;apply Z;apply aD;simp [aK,aNr];rw [iQ];simp
theorem aNp(n:ND)(is:Bool)(o:OW)(σ:List (List D))(h1:o.classes.length<=9999)(h2:o.attrs.length<=9999)(h3:o.styles.length<=9999)(hs:∀s∈iO o,s.size<=9223372036854775807):Ct prog 113 [xE n,.bool is,Yz o] σ (fun r σ'=>r= .int (Jw n is o)/\σ'=σ):=by
 refine zf func113 ?_;have hnl:(iO o).length<=99999:=by simp [iO];omega
 refine bE fun _ _ Z=>?_;simp;apply Z;apply Ea;refine bE fun _ _ Z=>?_;simp;apply Z;refine zI ?_ ?_<;>intro c1<;>try simp at c1
 .refine bE fun _ _ Z=>?_;simp;apply Z;apply aD;simp [aK,Jw, *]
 refine bE fun _ _ Z=>?_;simp;apply Z;refine zI ?_ ?_<;>intro c2<;>try simp at c2
 .refine bE fun _ _ Z=>?_;simp;apply Z;apply aD;simp [aK,Jw, *]
 refine bE fun _ _ Z=>?_;simp;apply Z;refine zI ?_ ?_<;>intro c3<;>try simp at c3
 .refine zk [6] ?_;refine bE fun _ _ Z=>?_;simp;apply Z;apply aD;simp [aK,Jw, *]
 refine zk [5,6] ?_;refine bE fun _ _ Z=>?_;refine zs 1 fun _ Y=>?_;simp;apply Y;refine aE fun _ Y=>?_;simp;refine cB (aK8 o _ h1 h2 h3) ?_;apply Y;refine aE fun _ Y=>?_;simp;refine cB (Tz (iO o) (fun s=> !fF s) 192 _ (by omega) (fun x hx τ=>aRc x τ (hs x hx))) ?_;apply Y;simp;apply Z;refine zI ?_ ?_<;>intro c4<;>try simp at c4
 .refine bE fun _ _ Z=>?_;simp;apply Z;apply aD;simp [aK,Jw, *]
 apply mM;refine bE fun _ _ Z=>?_;simp;apply Z;apply aD;simp [aK,Jw, *];simpa using c4
theorem aJp(S:List SA)(fs fd:FuncId)(caps:List D)(st:Nat->List (List D))(hl:S.length<=99999)(hcp:∀d∈caps,d.plain=true)(hcs:caps.map D.strip=caps)(hs:∀j (hj:j<S.length),(S[j].drop=true->Ct prog fd (D.str S[j].name::caps) (st j) (fun r τ=>r= .tup []/\τ=st (j+1)))/\(S[j].drop=false->Ct prog fs (Sf S[j]::caps) (st j) (fun r τ=>r= .tup []/\τ=st (j+1)))):Ct prog 117 [.sl false (S.map Sf),.clo (.func fs) [] caps,.clo (.func fd) [] caps] (st 0) (fun r σ'=>r= .tup []/\σ'=st S.length):=by
 refine zf func117 ?_;refine bE fun _ _ Z=>?_;simp(disch:=omega)[hcs];and_intros<;>(try omega);apply Z;apply aS;refine zk [1,2,8,9,10] ?_;refine jR (fun(j:Nat)=> [(10,.d (.v (.int .i64 (j:Int)))),(7,.d (.any))]) (fun(j:Nat)=> []) (fun(j:Nat)=>st j) [7,10,11,12,13,14,15,16,17,18,19,20,21,22,23] (fun(j:Nat)=>j<=S.length) (fun(j:Nat)=>S.length - j) (0) (by simp <;> rfl) ?_ (by simp) (by simp) ?_ ?_
 .simp
 .simp
 rintro j hj;simp only [aP,aN];refine bE fun _ _ Z=>?_;simp(disch:=omega)[hcs];apply Z;apply aF;refine zI ?_ ?_<;>intro c1<;>try simp at c1
 .apply kR;refine bE fun _ _ Z=>?_;simp(disch:=omega)[hcs];and_intros<;>(try omega);apply Z;refine bE fun _ _ Z=>?_;simp(disch:=omega)[hcs];apply Z;refine zI ?_ ?_<;>intro c2<;>try simp at c2
  .refine zk [1,2,7,8,9,10] ?_;refine rB fun _ _ Z=>?_;refine zs 3 fun _ Y=>?_;simp(disch:=omega)[hcs];apply Y;refine aE fun _ Y=>?_;simp(disch:=omega)[hcs];refine⟨hcp,?_⟩;refine cB ((hs j (by omega)).1 c2) ?_;apply Y;simp only [eE];apply Z;apply zB;refine rB fun _ _ Z=>?_;simp(disch:=omega)[hcs];and_intros<;>(try omega);apply Z;refine zq (j+1) ?_ ?_ ?_
   .omega
   .try dsimp only
    omega
   simp(disch:=omega)[hcs]
  refine zk [1,2,7,8,9,10] ?_;refine rB fun _ _ Z=>?_;refine zs 2 fun _ Y=>?_;simp(disch:=omega)[hcs];apply Y;refine aE fun _ Y=>?_;simp(disch:=omega)[hcs];refine⟨hcp,?_⟩;refine cB ((hs j (by omega)).2 c2) ?_;apply Y;simp only [eE];apply Z;apply zB;refine rB fun _ _ Z=>?_;simp(disch:=omega)[hcs];and_intros<;>(try omega);apply Z;refine zq (j+1) ?_ ?_ ?_
  .omega
  .try dsimp only
   omega
  simp(disch:=omega)[hcs]
 obtain rfl:j=S.length:=by omega
 apply uV;apply vH;apply yB;apply sL;simp [aK]
theorem aI5(S:List SI)(fs fd:FuncId)(caps:List D)(st:Nat->List (List D))(hl:S.length<=99999)(hcp:∀d∈caps,d.plain=true)(hcs:caps.map D.strip=caps)(hs:∀j (hj:j<S.length),(S[j].drop=true->Ct prog fd (D.str S[j].name::caps) (st j) (fun r τ=>r= .tup []/\τ=st (j+1)))/\(S[j].drop=false->Ct prog fs (Il S[j]::caps) (st j) (fun r τ=>r= .tup []/\τ=st (j+1)))):Ct prog 123 [.sl false (S.map Il),.clo (.func fs) [] caps,.clo (.func fd) [] caps] (st 0) (fun r σ'=>r= .tup []/\σ'=st S.length):=by
 refine zf func123 ?_;refine bE fun _ _ Z=>?_;simp(disch:=omega)[hcs];and_intros<;>(try omega);apply Z;apply aS;refine zk [1,2,8,9,10] ?_;refine jR (fun(j:Nat)=> [(10,.d (.v (.int .i64 (j:Int)))),(7,.d (.any))]) (fun(j:Nat)=> []) (fun(j:Nat)=>st j) [7,10,11,12,13,14,15,16,17,18,19,20,21,22,23] (fun(j:Nat)=>j<=S.length) (fun(j:Nat)=>S.length - j) (0) (by simp <;> rfl) ?_ (by simp) (by simp) ?_ ?_
 .simp
 .simp
 rintro j hj;simp only [aP,aN];refine bE fun _ _ Z=>?_;simp(disch:=omega)[hcs];apply Z;apply aF;refine zI ?_ ?_<;>intro c1<;>try simp at c1
 .apply kR;refine bE fun _ _ Z=>?_;simp(disch:=omega)[hcs];and_intros<;>(try omega);apply Z;refine bE fun _ _ Z=>?_;simp(disch:=omega)[hcs];apply Z;refine zI ?_ ?_<;>intro c2<;>try simp at c2
  .refine zk [1,2,7,8,9,10] ?_;refine rB fun _ _ Z=>?_;refine zs 3 fun _ Y=>?_;simp(disch:=omega)[hcs];apply Y;refine aE fun _ Y=>?_;simp(disch:=omega)[hcs];refine⟨hcp,?_⟩;refine cB ((hs j (by omega)).1 c2) ?_;apply Y;simp only [eE];apply Z;apply zB;refine rB fun _ _ Z=>?_;simp(disch:=omega)[hcs];and_intros<;>(try omega);apply Z;refine zq (j+1) ?_ ?_ ?_
   .omega
   .try dsimp only
    omega
   simp(disch:=omega)[hcs]
  refine zk [1,2,7,8,9,10] ?_;refine rB fun _ _ Z=>?_;refine zs 2 fun _ Y=>?_;simp(disch:=omega)[hcs];apply Y;refine aE fun _ Y=>?_;simp(disch:=omega)[hcs];refine⟨hcp,?_⟩;refine cB ((hs j (by omega)).2 c2) ?_;apply Y;simp only [eE];apply Z;apply zB;refine rB fun _ _ Z=>?_;simp(disch:=omega)[hcs];and_intros<;>(try omega);apply Z;refine zq (j+1) ?_ ?_ ?_
  .omega
  .try dsimp only
   omega
  simp(disch:=omega)[hcs]
 obtain rfl:j=S.length:=by omega
 apply uV;apply vH;apply yB;apply sL;simp [aK]
end Go.Proofs.YtbgfljpnhhdkoaaGreat
