import Derived.Test.YtbgfljpnhhdkoaaGreatWkPa2
import Derived.Test.YtbgfljpnhhdkoaaGreatPaKid
import Derived.Test.YtbgfljpnhhdkoaaGreatWkAr11
set_option maxHeartbeats 8000000
set_option linter.all false
set_option maxRecDepth 20000
open Go.Proofs.Tryz
namespace Go.Proofs.YtbgfljpnhhdkoaaGreat
open Go Go.Vm
theorem WT.permP {a b:List ND} {rk:Int->Nat} (h:a.Perm b)(hw:WT b rk):WT a rk:=by
 have hm:∀n,n∈a↔n∈b:=fun n=>h.mem_iff;refine⟨(h.map ND.ID).nodup_iff.2 hw.nd,fun n hn k hk=>?_,fun n hn=>?_,fun n hn=>hw.nn n ((hm n).1 hn),fun n hn=>hw.kn n ((hm n).1 hn),fun n hn=>hw.dec n ((hm n).1 hn)⟩
 .obtain⟨c,h1,h2⟩:=hw.kids n ((hm n).1 hn) k hk;exact⟨c,(hm c).2 h1,h2⟩
 rcases hw.par n ((hm n).1 hn)with h1 | ⟨p,h1,h2⟩
 .exact .inl h1
 exact .inr ⟨p,(hm p).2 h1,h2⟩
variable {k m M l:Nat} {d:DS} {rk:Int->Nat} {x y:RD} {σ:List (List D)} {ops' o:List TOp} {p c co:Int} {to:List Int}
theorem aEi(h:IX k m M d rk x σ):aJ x.l=aJ d.l:=h.xp.fd
theorem aXw(h:IX k m M d rk x σ):fP x.l=fP d.l:=h.xp.il
theorem aYd(h:IX k m M d rk x σ):WT x.l rk:=h.iv.wt.permP h.xp.l
theorem aXo(h:IX k m M d rk x σ):dU x.l rk=dU d.l rk:=Gw h.xp.fd rk
variable {x:RD}
def TagOk(n:ND):Prop:=n.ID≠0->n.kind=2->dT n.tag=true
def TagsOk(x:RD):Prop:=∀n∈x.l,TagOk n
theorem TagsOk.new(most:Int):TagsOk (newX most):=fun n hn=>by
 have:n=oA:=by simpa [newX] using hn
 subst this;intro h;exact absurd rfl h
theorem TagsOk.find {x:RD} (h:TagsOk x) {id:Int} (hl:fP x.l id=true):TagOk (aJ x.l id):=by
 obtain⟨n,h1,h2,h3⟩:=eX hl;rw [h3];exact h n h1
theorem TagOk.put {l:List ND} (h:∀n∈l,TagOk n) {n':ND} (hn:TagOk n'):∀n∈dK l n',TagOk n:=fun n hm=>by
 unfold dK at hm;obtain⟨y,hy,rfl⟩:=aV.1 hm;split
 .exact hn
 exact h y hy
theorem TagsOk.add (h:TagsOk x)(kind:Int)(s:ByteArray)(hk:kind=1\/kind=2):TagsOk (addX x kind s).1:=by
 unfold addX;split
 .exact h
 rename_i c1;split
 .exact h
 intro n hn;rcases bT.1 hn with hn | hn
 .exact h n hn
 have:n=gV x.next kind s:=by simpa using hn
 subst this;intro h1 h2;have hk2:kind=2:=h2;subst hk2;have:dT s=true:=by
  cases hs:dT s with
  | true=>rfl
  | false=>exact absurd ⟨rfl,hs⟩ c1
 simpa [gV] using this
theorem TagsOk.ins (h:TagsOk x)(b:Int->List Int)(p at_ id:Int):TagsOk (insX x b p at_ id).1:=by
 unfold insX;split
 .exact h
 rename_i c1;have i1:fP x.l p=true:=by cases q:fP x.l p with | true=>rfl | false=>exact absurd (.inl q) c1
 have i2:fP x.l id=true:=by cases q:fP x.l id with | true=>rfl | false=>exact absurd (.inr q) c1
 split
 .exact h
 split
 .exact h
 show ∀n∈dK (dK x.l _) _,TagOk n
 refine TagOk.put (TagOk.put h ?_) ?_
 .exact h.find i1
 exact h.find i2
theorem TagsOk.mov (h:TagsOk x)(id at_:Int):TagsOk (movX x id at_).1:=by
 unfold movX;split
 .exact h
 split
 .exact h
 rename_i c2;have i1:fP x.l (aJ x.l id).parent=true:=by cases q:fP x.l (aJ x.l id).parent with | true=>rfl | false=>exact absurd (.inl q) c2
 show ∀n∈dK x.l _,TagOk n
 refine TagOk.put h ?_;exact h.find i1
theorem TagsOk.rem (h:TagsOk x)(b:Int->List Int)(id:Int):TagsOk (remX x b id).1:=by
 unfold remX;split
 .exact h
 split
 .exact h
 intro n hn;have hn:=(cS.1 hn).1;unfold remP at hn;split at hn
 .rename_i c;exact TagOk.put h (by exact h.find c) n hn
 exact h n hn
theorem TagsOk.chN {n n':ND} (h:TagOk n) {kind:Int} {name v:ByteArray} {num:Int} (hv:¬(¬kind=1/\dT name=false))(e:chN n kind name v num=some n'):TagOk n':=by
 unfold Go.Proofs.YtbgfljpnhhdkoaaGreat.chN at e;split at e
 .rename_i c;cases e;intro _ _;cases q:dT name with
  | true=>rfl
  | false=>exact absurd ⟨by omega,q⟩ hv
 all_goals first | (cases e;exact h) | skip
 (repeat' split at e) <;> first | (cases e;exact h) | cases e
theorem TagsOk.set (h:TagsOk x)(kind id:Int)(name v:ByteArray)(num:Int):TagsOk (setX x kind id name v num).1:=by
 unfold setX;split
 .exact h
 rename_i c1;have i1:fP x.l id=true:=by cases q:fP x.l id with | true=>rfl | false=>exact absurd q c1
 split
 .exact h
 split
 .exact h
 split
 .exact h
 rename_i c4;split
 .exact h
 rename_i n hn;exact TagOk.put h (TagsOk.chN (h.find i1) c4 hn)
theorem aE9 {l:List ND} (hnd:(l.map ND.ID).Nodup) {n:ND} (hn:n∈l):dK l n=l:=by
 unfold dK
 conv=>rhs;rw [<- List.map_id l]
 refine cW fun y hy=>?_;split
 .rename_i e;exact(mP hnd hy hn e).symm
 rfl
section
variable {k m M l:Nat}{d:DS}{rk:Int->Nat}{σ:List (List D)}{ops:List TOp}
end
theorem gC:List.range 2= [0,1]:=rfl
theorem aT:List.range 3= [0,1,2]:=rfl
theorem aXk(N:Nat)(l:List SA):Sc N (.sl true (l.map Ti)):=Sc.sl fun d hd=>by
 obtain⟨a,_,rfl⟩:=aV.1 hd;exact Sc.agg fun e he=>by
  simp only [bM,gX,iB] at he;rcases he with rfl | rfl | rfl <;> exact Sc.v _
theorem aWv(N:Nat)(l:List SI):Sc N (.sl true (l.map Qz)):=Sc.sl fun d hd=>by
 obtain⟨a,_,rfl⟩:=aV.1 hd;exact Sc.agg fun e he=>by
  simp only [bM,gX,iB] at he;rcases he with rfl | rfl | rfl <;> exact Sc.v _
theorem aHx(a b:List AT)(σ:List (List D))(ha:a.length<=99999)(hb:b.length<=99999):Ct prog 118 [.sl false (a.map dA),.sl false (b.map dA)] σ (fun r σ'=>r= .sl true ((jJ nA Aj a b).map Ti)/\σ'=σ):=
 Wv (aEo a b σ ha hb) fun r hr=>by rw [hr];exact aXk _ _
theorem aNv(a b:List PI)(σ:List (List D))(ha:a.length<=99999)(hb:b.length<=99999):Ct prog 124 [.sl false (a.map cQ),.sl false (b.map cQ)] σ (fun r σ'=>r= .sl true ((jJ nP Dm a b).map Qz)/\σ'=σ):=
 Wv (aEq a b σ ha hb) fun r hr=>by rw [hr];exact aWv _ _
def Bb(o:OW)(k:Nat):Ls:=o.classes++(o.attrs.take k).map AT.name
def Ad(o:OW)(k:Nat):Ls:=o.classes++o.attrs.map AT.name++(o.styles.take k).map PI.name
def fK(o:OW):Ls:=o.classes++o.attrs.map AT.name++o.styles.map PI.name
theorem Pi(o:OW) {k:Nat} (h:k<o.attrs.length):Bb o (k+1)=Bb o k++ [o.attrs[k].name]:=by unfold Bb;rw [bL _ k h,cE,<- bW];rfl
theorem On(o:OW) {k:Nat} (h:k<o.styles.length):Ad o (k+1)=Ad o k++ [o.styles[k].name]:=by unfold Ad;rw [bL _ k h,cE,<- bW];rfl
theorem Wn(o:OW)(k:Nat)(h:k<=o.attrs.length):(Bb o k).length=o.classes.length+k:=by simp [Bb];omega
theorem Ut(o:OW)(k:Nat)(h:k<=o.styles.length):(Ad o k).length=o.classes.length+o.attrs.length+k:=by simp [Ad];omega
theorem Ue(o:OW):Bb o o.attrs.length=Ad o 0:=by simp [Bb,Ad]
theorem Vg(o:OW):Ad o o.styles.length=fK o:=by unfold Ad fK;rw [dY]
def Tg(n:ND)(is:Bool)(o:OW):Int:=if is=false then 11 else if n.ID=0 then 1 else if ¬n.kind=2 then 14 else if(fK o).any (fun s=> !dT s)=true then 2 else 0
theorem aLa {α:Type} (p:α->Bool)(l:List α):(0<=wR p l)↔l.any p=true:=by
 unfold wR;split
 .rename_i k h;rw [qB] at h;obtain⟨hk,he,_⟩:=h;simp only [oW];exact⟨fun _=>⟨_,bS hk,he⟩,fun _=>by omega⟩
 rename_i h;rw [qJ] at h;constructor
 .intro q;omega
 intro q;obtain⟨x,h1,h2⟩:=oW.1 q;rw [h x h1] at h2;cases h2
@[simp] abbrev q37_1:Cfg:=⟨[2,3,18,31,37],[],[],[],[]⟩
theorem aJp(o:OW)(σ:List (List D))(h1:o.classes.length<=9999)(h2:o.attrs.length<=9999)(h3:o.styles.length<=9999):Ct prog 191 [Ey o] σ (fun r σ'=>r=dlo (fK o)/\σ'=σ):=by
 refine zf func191 ?_;refine zr q37_1 fun _ _ Z=>?_;simp(disch:=omega);apply Z;refine zr q37_1 fun _ _ Z=>?_;refine zs 2 fun _ Y=>?_;simp(disch:=omega);apply Y;refine aF fun _ Y=>?_;simp(disch:=omega);refine cT (Mj o.classes _ (by omega)) ?_;apply Y;simp(disch:=omega);apply Z;apply aE;refine zr q37_1 fun _ _ Z=>?_;simp(disch:=omega);and_intros<;>(try omega);apply Z;apply aR;refine zk [1,2,3,12,13,14] ?_;refine aY (fun(k:Nat)=> [(14,.d (.v (.int .i64 (k:Int)))),(3,.d (dlo (Bb o k))),(5,.d (.any))]) [3,5,14,15,16,17,18,19,20,21,22,23] (fun(k:Nat)=>k<=o.attrs.length) (fun(k:Nat)=>o.attrs.length - k) (0) (by simp <;> rfl) ?_ ?_ ?_
 .simp [Bb]
 .simp
 rintro k hk;simp only [aQ,aO];have hnl:=Wn o k hk;refine zr q37_1 fun _ _ Z=>?_;simp(disch:=omega);apply Z;apply aE;refine zI ?_ ?_<;>intro c1<;>try simp at c1
 .have hnn:=Pi o c1;apply jM;refine zr q37_1 fun _ _ Z=>?_;simp(disch:=omega);and_intros<;>(try omega);apply Z;refine zt q37_1 fun _ _ Z=>?_;simp(disch:=omega);and_intros<;>(try omega);apply Z;apply zB;refine zk [1,2,3,5,12,13,14] ?_;refine zt q37_1 fun _ _ Z=>?_;simp(disch:=omega);and_intros<;>(try omega);apply Z;refine zq (k+1) ?_ ?_ ?_
  .omega
  .try dsimp only
   omega
  simp(disch:=omega)[hnn]
 obtain rfl:k=o.attrs.length:=by omega
 rw [Ue];apply zE;apply aE;refine zr q37_1 fun _ _ Z=>?_;simp(disch:=omega);and_intros<;>(try omega);apply Z;apply aR;refine zk [2,3,25,26,27] ?_;refine aY (fun(j:Nat)=> [(27,.d (.v (.int .i64 (j:Int)))),(3,.d (dlo (Ad o j))),(7,.d (.any))]) [3,7,27,28,29,30,31,32,33,34,35,36] (fun(j:Nat)=>j<=o.styles.length) (fun(j:Nat)=>o.styles.length - j) (0) (by simp <;> rfl) ?_ ?_ ?_
 .simp
 .simp
 rintro j hj;simp only [aQ,aO];have hnl:=Ut o j hj;refine zr q37_1 fun _ _ Z=>?_;simp(disch:=omega);apply Z;apply aE;refine zI ?_ ?_<;>intro c2<;>try simp at c2
 .have hnn:=On o c2;apply jM;refine zr q37_1 fun _ _ Z=>?_;simp(disch:=omega);and_intros<;>(try omega);apply Z;refine zt q37_1 fun _ _ Z=>?_;simp(disch:=omega);and_intros<;>(try omega);apply Z;apply zB;refine zk [2,3,7,25,26,27] ?_;refine zt q37_1 fun _ _ Z=>?_;simp(disch:=omega);and_intros<;>(try omega);apply Z;refine zq (j+1) ?_ ?_ ?_
  .omega
  .try dsimp only
   omega
  simp(disch:=omega)[hnn]
 obtain rfl:j=o.styles.length:=by omega
 rw [Vg];apply zE;refine zr q37_1 fun _ _ Z=>?_;simp(disch:=omega);apply Z;apply aC;simp [aH]
theorem aO7(s:ByteArray)(σ:List (List D))(hs:s.size<=9223372036854775807):Ct prog 192 [D.str s] σ (fun r σ'=>r= .bool (!dT s)/\σ'=σ):=by
 refine zf func192 ?_;refine bB fun _ _ Z=>?_;simp;apply Z;refine bB fun _ _ Z=>?_;refine zs 1 fun _ Y=>?_;simp;apply Y;refine aF fun _ Y=>?_;simp;refine cT (uY s _ hs) ?_;apply Y;simp;apply Z;apply aC;simp [aH]
theorem aGv(l:Ls)(p:ByteArray->Bool)(f:FuncId)(caps:List D)(σ:List (List D))(hl:l.length<=1000000)(hcp:∀d∈caps,d.plain=true)(hcs:caps.map D.strip=caps)(hp:∀x∈l,∀τ,Ct prog f (D.str x::caps) τ (fun r τ'=>r= .bool (p x)/\τ'=τ)):Ct prog 226 [dl l,.clo (.func f) [] caps] σ (fun r σ'=>r= .int (wR p l)/\σ'=σ):=by
 refine zf func226 ?_;refine bB fun _ _ Z=>?_;simp(disch:=omega)[hcs];apply Z;apply aE;refine bB fun _ _ Z=>?_;simp(disch:=omega)[hcs];and_intros<;>(try omega);apply Z;apply aR;refine zk [0,1,4,7,8] ?_;refine aY (fun(k:Nat)=> [(8,.d (.v (.int .i64 (k:Int))))]) [4,5,8,9,10,11,12,13,14,15,16,17,18] (fun(k:Nat)=>k<=l.length/\∀x∈l.take k,p x=false) (fun(k:Nat)=>l.length - k) (0) (by simp <;> rfl) ?_ ?_ ?_
 .simp
 .simp
 rintro k ⟨hk,hh⟩;simp only [aQ,aO];refine bB fun _ _ Z=>?_;simp(disch:=omega)[hcs];apply Z;apply aE;refine zI ?_ ?_<;>intro c1<;>try simp at c1
 .apply jM;refine bB fun _ _ Z=>?_;simp(disch:=omega)[hcs];apply Z;refine bB fun _ _ Z=>?_;refine zs 5 fun _ Y=>?_;simp(disch:=omega)[hcs];and_intros<;>(try omega);apply Y;refine aF fun _ Y=>?_;simp(disch:=omega)[hcs];refine⟨hcp,?_⟩;refine cT (hp l[k] (bS (by omega)) _) ?_;apply Y;simp only [eJ];apply Z;refine zI ?_ ?_<;>intro c2<;>try simp at c2
  .refine zk [0,1,5,7,8] ?_;refine bB fun _ _ Z=>?_;simp(disch:=omega)[hcs];apply Z;apply aC;simp [aH];exact(Iv c1 hh c2).symm
  apply mS;refine zk [0,1,7,8] ?_;refine pF fun _ _ Z=>?_;simp(disch:=omega)[hcs];and_intros<;>(try omega);apply Z;refine zq (k+1) ?_ ?_ ?_
  .exact⟨by omega,uU (by omega) hh c2⟩
  .try dsimp only
   omega
  simp(disch:=omega)[hcs]
 apply zE;refine bB fun _ _ Z=>?_;simp(disch:=omega)[hcs];apply Z;apply aC;simp [aH];rw [bZ (by omega)] at hh;exact(yF hh).symm
theorem Su(l:Ls)(p:ByteArray->Bool)(f:FuncId)(σ:List (List D))(hl:l.length<=1000000)(hp:∀x∈l,∀τ,Ct prog f [D.str x] τ (fun r τ'=>r= .bool (p x)/\τ'=τ)):Ct prog 190 [dl l,.clo (.func f) [] []] σ (fun r σ'=>r= .bool (l.any p)/\σ'=σ):=by
 refine zf func190 ?_;refine bB fun _ _ Z=>?_;simp;apply Z;refine bB fun _ _ Z=>?_;refine zs 2 fun _ Y=>?_;simp;apply Y;refine aF fun _ Y=>?_;simp;refine cT (aGv l p f [] _ hl (by simp) (by simp) hp) ?_;apply Y;simp;apply Z;apply aC;simp [aH,aLa];rw [iZ];simp
theorem aU6(n:ND)(is:Bool)(o:OW)(σ:List (List D))(h1:o.classes.length<=9999)(h2:o.attrs.length<=9999)(h3:o.styles.length<=9999)(hs:∀s∈fK o,s.size<=9223372036854775807):Ct prog 113 [Fg n,.bool is,Ey o] σ (fun r σ'=>r= .int (Tg n is o)/\σ'=σ):=by
 refine zf func113 ?_;have hnl:(fK o).length<=99999:=by simp [fK];omega
 refine bB fun _ _ Z=>?_;simp;apply Z;apply Od;refine bB fun _ _ Z=>?_;simp;apply Z;refine zI ?_ ?_<;>intro c1<;>try simp at c1
 .refine bB fun _ _ Z=>?_;simp;apply Z;apply aC;simp [aH,Tg, *]
 refine bB fun _ _ Z=>?_;simp;apply Z;refine zI ?_ ?_<;>intro c2<;>try simp at c2
 .refine bB fun _ _ Z=>?_;simp;apply Z;apply aC;simp [aH,Tg, *]
 refine bB fun _ _ Z=>?_;simp;apply Z;refine zI ?_ ?_<;>intro c3<;>try simp at c3
 .refine zk [6] ?_;refine bB fun _ _ Z=>?_;simp;apply Z;apply aC;simp [aH,Tg, *]
 refine zk [5,6] ?_;refine bB fun _ _ Z=>?_;refine zs 1 fun _ Y=>?_;simp;apply Y;refine aF fun _ Y=>?_;simp;refine cT (aJp o _ h1 h2 h3) ?_;apply Y;refine aF fun _ Y=>?_;simp;refine cT (Su (fK o) (fun s=> !dT s) 192 _ (by omega) (fun x hx τ=>aO7 x τ (hs x hx))) ?_;apply Y;simp;apply Z;refine zI ?_ ?_<;>intro c4<;>try simp at c4
 .refine bB fun _ _ Z=>?_;simp;apply Z;apply aC;simp [aH,Tg, *]
 apply mS;refine bB fun _ _ Z=>?_;simp;apply Z;apply aC;simp [aH,Tg, *];simpa using c4
theorem aH3(S:List SA)(fs fd:FuncId)(caps:List D)(st:Nat->List (List D))(hl:S.length<=99999)(hcp:∀d∈caps,d.plain=true)(hcs:caps.map D.strip=caps)(hs:∀j (hj:j<S.length),(S[j].drop=true->Ct prog fd (D.str S[j].name::caps) (st j) (fun r τ=>r= .tup []/\τ=st (j+1)))/\(S[j].drop=false->Ct prog fs (Ti S[j]::caps) (st j) (fun r τ=>r= .tup []/\τ=st (j+1)))):Ct prog 117 [.sl false (S.map Ti),.clo (.func fs) [] caps,.clo (.func fd) [] caps] (st 0) (fun r σ'=>r= .tup []/\σ'=st S.length):=by
 refine zf func117 ?_;refine bB fun _ _ Z=>?_;simp(disch:=omega)[hcs];and_intros<;>(try omega);apply Z;apply aR;refine zk [1,2,8,9,10] ?_;refine nW (fun(j:Nat)=> [(10,.d (.v (.int .i64 (j:Int)))),(7,.d (.any))]) (fun(j:Nat)=> []) (fun(j:Nat)=>st j) [7,10,11,12,13,14,15,16,17,18,19,20,21,22,23] (fun(j:Nat)=>j<=S.length) (fun(j:Nat)=>S.length - j) (0) (by simp <;> rfl) ?_ (by simp) (by simp) ?_ ?_
 .simp
 .simp
 rintro j hj;simp only [aQ,aO];refine bB fun _ _ Z=>?_;simp(disch:=omega)[hcs];apply Z;apply aE;refine zI ?_ ?_<;>intro c1<;>try simp at c1
 .apply jM;refine bB fun _ _ Z=>?_;simp(disch:=omega)[hcs];and_intros<;>(try omega);apply Z;refine bB fun _ _ Z=>?_;simp(disch:=omega)[hcs];apply Z;refine zI ?_ ?_<;>intro c2<;>try simp at c2
  .refine zk [1,2,7,8,9,10] ?_;refine pF fun _ _ Z=>?_;refine zs 3 fun _ Y=>?_;simp(disch:=omega)[hcs];apply Y;refine aF fun _ Y=>?_;simp(disch:=omega)[hcs];refine⟨hcp,?_⟩;refine cT ((hs j (by omega)).1 c2) ?_;apply Y;simp only [eJ];apply Z;apply zB;refine pF fun _ _ Z=>?_;simp(disch:=omega)[hcs];and_intros<;>(try omega);apply Z;refine zq (j+1) ?_ ?_ ?_
   .omega
   .try dsimp only
    omega
   simp(disch:=omega)[hcs]
  refine zk [1,2,7,8,9,10] ?_;refine pF fun _ _ Z=>?_;refine zs 2 fun _ Y=>?_;simp(disch:=omega)[hcs];apply Y;refine aF fun _ Y=>?_;simp(disch:=omega)[hcs];refine⟨hcp,?_⟩;refine cT ((hs j (by omega)).2 c2) ?_;apply Y;simp only [eJ];apply Z;apply zB;refine pF fun _ _ Z=>?_;simp(disch:=omega)[hcs];and_intros<;>(try omega);apply Z;refine zq (j+1) ?_ ?_ ?_
  .omega
  .try dsimp only
   omega
  simp(disch:=omega)[hcs]
 obtain rfl:j=S.length:=by omega
 apply Dw;apply Ce;apply Dn;apply yI;simp [aH]
theorem aNj(S:List SI)(fs fd:FuncId)(caps:List D)(st:Nat->List (List D))(hl:S.length<=99999)(hcp:∀d∈caps,d.plain=true)(hcs:caps.map D.strip=caps)(hs:∀j (hj:j<S.length),(S[j].drop=true->Ct prog fd (D.str S[j].name::caps) (st j) (fun r τ=>r= .tup []/\τ=st (j+1)))/\(S[j].drop=false->Ct prog fs (Qz S[j]::caps) (st j) (fun r τ=>r= .tup []/\τ=st (j+1)))):Ct prog 123 [.sl false (S.map Qz),.clo (.func fs) [] caps,.clo (.func fd) [] caps] (st 0) (fun r σ'=>r= .tup []/\σ'=st S.length):=by
 refine zf func123 ?_;refine bB fun _ _ Z=>?_;simp(disch:=omega)[hcs];and_intros<;>(try omega);apply Z;apply aR;refine zk [1,2,8,9,10] ?_;refine nW (fun(j:Nat)=> [(10,.d (.v (.int .i64 (j:Int)))),(7,.d (.any))]) (fun(j:Nat)=> []) (fun(j:Nat)=>st j) [7,10,11,12,13,14,15,16,17,18,19,20,21,22,23] (fun(j:Nat)=>j<=S.length) (fun(j:Nat)=>S.length - j) (0) (by simp <;> rfl) ?_ (by simp) (by simp) ?_ ?_
 .simp
 .simp
 rintro j hj;simp only [aQ,aO];refine bB fun _ _ Z=>?_;simp(disch:=omega)[hcs];apply Z;apply aE;refine zI ?_ ?_<;>intro c1<;>try simp at c1
 .apply jM;refine bB fun _ _ Z=>?_;simp(disch:=omega)[hcs];and_intros<;>(try omega);apply Z;refine bB fun _ _ Z=>?_;simp(disch:=omega)[hcs];apply Z;refine zI ?_ ?_<;>intro c2<;>try simp at c2
  .refine zk [1,2,7,8,9,10] ?_;refine pF fun _ _ Z=>?_;refine zs 3 fun _ Y=>?_;simp(disch:=omega)[hcs];apply Y;refine aF fun _ Y=>?_;simp(disch:=omega)[hcs];refine⟨hcp,?_⟩;refine cT ((hs j (by omega)).1 c2) ?_;apply Y;simp only [eJ];apply Z;apply zB;refine pF fun _ _ Z=>?_;simp(disch:=omega)[hcs];and_intros<;>(try omega);apply Z;refine zq (j+1) ?_ ?_ ?_
   .omega
   .try dsimp only
    omega
   simp(disch:=omega)[hcs]
  refine zk [1,2,7,8,9,10] ?_;refine pF fun _ _ Z=>?_;refine zs 2 fun _ Y=>?_;simp(disch:=omega)[hcs];apply Y;refine aF fun _ Y=>?_;simp(disch:=omega)[hcs];refine⟨hcp,?_⟩;refine cT ((hs j (by omega)).2 c2) ?_;apply Y;simp only [eJ];apply Z;apply zB;refine pF fun _ _ Z=>?_;simp(disch:=omega)[hcs];and_intros<;>(try omega);apply Z;refine zq (j+1) ?_ ?_ ?_
  .omega
  .try dsimp only
   omega
  simp(disch:=omega)[hcs]
 obtain rfl:j=S.length:=by omega
 apply Dw;apply Ce;apply Dn;apply yI;simp [aH]
end Go.Proofs.YtbgfljpnhhdkoaaGreat
