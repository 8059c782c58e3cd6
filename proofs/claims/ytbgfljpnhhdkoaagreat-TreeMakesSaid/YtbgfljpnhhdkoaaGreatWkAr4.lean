import Derived.Test.YtbgfljpnhhdkoaaGreatWkAr3
set_option maxRecDepth 20000
set_option linter.all false
set_option maxHeartbeats 8000000
open Go.Proofs.Tryz
namespace Go.Proofs.YtbgfljpnhhdkoaaGreat
open Go Go.Vm
attribute [simp] cA
theorem aAg(l:List AT):(l.map dA).flatMap D.cells=l.flatMap cA:=cX (fun _=>rfl) l
theorem aSy(l:List AT):∀d∈l.map dA,d.ncells=2/\d.arr=true:=by
 intro d hd;obtain⟨a,_,rfl⟩:=aV.1 hd;exact⟨rfl,rfl⟩
@[simp high] theorem aZ3(l:List AT):(l.flatMap cA).length=l.length * 2:=dJ (f:=cA) (fun _=>rfl) l
@[simp high] theorem bAx(l:List AT)(rest:List D)(i:Nat)(h:i<l.length):Ae true 2 ((l.flatMap cA++rest).drop (i * 2))=some (.agg (cA l[i])):=aB8 (f:=cA) (fun _=>rfl) l rest i h
@[simp high] theorem bA1(l:List AT)(rest:List D)(i:Nat)(x:AT)(h:i<l.length):dZ (l.flatMap cA++rest) (i * 2) [D.str x.name,D.str x.value]=(l.set i x).flatMap cA++rest:=Hu (f:=cA) (fun _=>rfl) l rest i x h
theorem lG(p:AT->Bool)(l:List AT)(j:Nat)(rest:List D):dZ ((ar p l j).flatMap cA++rest) ((kp p l j).length * 2) (jK #[.string ⟨#[]⟩,.string ⟨#[]⟩] (l.length - (kp p l j).length))=(kp p l j).flatMap cA++(jK #[.string ⟨#[]⟩,.string ⟨#[]⟩] (l.length - (kp p l j).length)++rest):=by
 have hz:(jK #[.string ⟨#[]⟩,.string ⟨#[]⟩] (l.length - (kp p l j).length)).length=((l.drop (kp p l j).length).flatMap cA).length:=by
  rw [dJ (f:=cA) (k:=2) (fun _=>rfl),jX (k:=2) rfl,dI]
 have hk:((kp p l j).flatMap cA).length=(kp p l j).length * 2:=dJ (f:=cA) (fun _=>rfl) _;unfold ar;rw [gR,bW,<- hk,oN _ _ _ _ hz]
theorem Zr(l:List AT)(p:AT->Bool)(f:FuncId)(caps:List D)(m cap:Nat)(rest:List D)(σ:List (List D))(hl:l.length<=9223372036854775807)(hσ:σ[m]?=some (l.flatMap cA++rest))(hcp:∀d∈caps,d.plain=true)(hcs:caps.map D.strip=caps)(hp:∀x τ,Ct prog f (dA x::caps) τ (fun r τ'=>r= .bool (p x)/\τ'=τ)):Ct prog 273 [.slo m 0 l.length cap,.clo (.func f) [] caps] σ (fun r σ'=>r= .int (wR p l)/\σ'=σ):=by
 refine zf func273 ?_;refine zr ⟨[],[],[],[7,14],[]⟩ fun _ _ Z=>?_;simp(disch:=omega)[hσ,hcs];apply Z;apply aE;refine zr ⟨[],[],[],[7,14],[]⟩ fun _ _ Z=>?_;simp(disch:=omega)[hσ,hcs];and_intros<;>(try omega);apply Z;apply aR;refine zk [0,1,4,7,8] ?_;refine aY (fun(k:Nat)=> [(8,.d (.v (.int .i64 (k:Int))))]) [4,5,8,9,10,11,12,13,14,15,16,17,18] (fun(k:Nat)=>k<=l.length/\∀x∈l.take k,p x=false) (fun(k:Nat)=>l.length - k) (0) (by simp <;> rfl) ?_ ?_ ?_
 .simp
 .simp
 rintro k ⟨hk,hh⟩;simp only [aQ,aO];refine zr ⟨[],[],[],[7,14],[]⟩ fun _ _ Z=>?_;simp(disch:=omega)[hσ,hcs];apply Z;apply aE;refine zI ?_ ?_<;>intro c1<;>try simp at c1
 .apply jM;refine zr ⟨[],[],[],[7,14],[]⟩ fun _ _ Z=>?_;simp(disch:=omega)[hσ,hcs];apply Z;refine zr ⟨[],[],[],[7,14],[]⟩ fun _ _ Z=>?_;refine zs 5 fun _ Y=>?_;simp(disch:=omega)[hσ,hcs];and_intros<;>(try omega);apply Y;refine aF fun _ Y=>?_;simp(disch:=omega)[hσ,hcs];refine⟨hcp,?_⟩;refine cT (hp l[k] _) ?_;apply Y;simp only [eJ];apply Z;refine zI ?_ ?_<;>intro c2<;>try simp at c2
  .refine zk [0,1,5,7,8] ?_;refine zr ⟨[],[],[],[7,14],[]⟩ fun _ _ Z=>?_;simp(disch:=omega)[hσ,hcs];apply Z;apply aC;simp [aH];exact(Iv c1 hh c2).symm
  apply mS;refine zk [0,1,7,8] ?_;refine zt ⟨[],[],[],[7,14],[]⟩ fun _ _ Z=>?_;simp(disch:=omega)[hσ,hcs];and_intros<;>(try omega);apply Z;refine zq (k+1) ?_ ?_ ?_
  .exact⟨by omega,uU (by omega) hh c2⟩
  .try dsimp only
   omega
  simp(disch:=omega)[hσ,hcs]
 apply zE;refine zr ⟨[],[],[],[7,14],[]⟩ fun _ _ Z=>?_;simp(disch:=omega)[hσ,hcs];apply Z;apply aC;simp [aH];rw [bZ (by omega)] at hh;exact(yF hh).symm
@[simp] abbrev q31_1:Cfg:=⟨[4,13],[],[],[18,24,33,38,41],[]⟩
theorem Tz(l:List AT)(p:AT->Bool)(f:FuncId)(caps:List D)(σ:List (List D))(hl:l.length<=1000000)(hcp:∀d∈caps,d.plain=true)(hcs:caps.map D.strip=caps)(hp:∀x τ,Ct prog f (dA x::caps) τ (fun r τ'=>r= .bool (p x)/\τ'=τ)):Ct prog 269 [.xs 2 (l.map dA),.clo (.func f) [] caps] σ (fun r σ'=>r= .xs 2 ((l.filter fun x=> !p x).map dA)/\σ'=σ++ [[]]):=by
 refine zf func269 ?_;refine sO 0 2 rfl (by decide) fun cap rest hcap hcm hrest hk0 hes=>?_;simp only [bQ] at hcap hrest |-;rw [aAg];refine zr q31_1 fun _ _ Z=>?_;simp(disch:=first|omega|assumption)[hcs,lG];apply Z;refine zr q31_1 fun _ _ Z=>?_;refine zs 2 fun _ Y=>?_;simp(disch:=first|omega|assumption)[hcs,lG];apply Y;refine aF fun _ Y=>?_;simp(disch:=first|omega|assumption)[hcs,lG];refine cT (Zr l p f caps σ.length cap rest _ (by omega) (by simp) hcp hcs hp) ?_;apply Y;simp(disch:=first|omega|assumption)[hcs,lG];apply Z;apply aE;refine zr q31_1 fun _ _ Z=>?_;simp(disch:=first|omega|assumption)[hcs,lG];apply Z;refine zI ?_ ?_<;>intro c1<;>try simp at c1
 .refine zr q31_1 fun _ _ Z=>?_;simp(disch:=first|omega|assumption)[hcs,lG];apply Z;refine fI 4 2 σ.length l.length cap (l.map dA) (l.flatMap cA++rest) (by simp <;> rfl) (by simp) (by omega) (by simp [hrest,jX (z:=#[.string ⟨#[]⟩,.string ⟨#[]⟩]) (k:=2) rfl];omega) (by simp) (aSy _) (by rw [aAg];exact dC _ _) ?_;simp only [tD];apply aC;simp [aH];rcases Bg p l with ⟨_,h⟩ | ⟨k,h,_⟩
  .rw [h]
  omega
 obtain⟨k0,e0,e1,e2,e3⟩:=Ka c1;rw [e0];apply zA;apply aE;refine zr q31_1 fun _ _ Z=>?_;simp(disch:=first|omega|assumption)[hcs,lG];and_intros<;>try first|omega|exact rfl
 apply Z;apply aR;refine zk [0,1,4,5,6] ?_;refine kI (fun(j:Nat)=> [(5,.d (.v (.int .i64 ((kp p l j).length:Int)))),(6,.d (.v (.int .i64 (j:Int))))]) (fun(j:Nat)=> []) (fun(j:Nat)=> [(σ.length,(ar p l j).flatMap cA++rest)]) [5,6,7,16,17,18,19,20,21,22,23,24,25,26,27,28,29,30,31,32,33,34,35] (fun(j:Nat)=>j<=l.length) (fun(j:Nat)=>l.length - j) (k0+1) (by simp <;> rfl) ?_ (by simp) (by simp [e1]) ?_ ?_
 .simp [e1,e2]
 .omega
 rintro j hj;simp only [aQ,aO,lE,jP,gD,fY];have hkl:=Wu p l j hj;have hal:=Te p l j;apply aE;refine zr q31_1 fun _ _ Z=>?_;simp(disch:=first|omega|assumption)[hcs,lG];and_intros<;>try first|omega|exact rfl
 apply Z;refine zI ?_ ?_<;>intro c2<;>try simp at c2
 .apply jM;refine zr q31_1 fun _ _ Z=>?_;simp(disch:=first|omega|assumption)[hcs,lG];and_intros<;>try first|omega|exact rfl
  apply Z;refine zk [0,1,4,5,6,7] ?_;refine zr q31_1 fun _ _ Z=>?_;refine zs 2 fun _ Y=>?_;simp(disch:=first|omega|assumption)[hcs,lG];apply Y;refine aF fun _ Y=>?_;simp(disch:=first|omega|assumption)[hcs,lG];simp only [aL5 p l j (by omega)];refine⟨hcp,?_⟩;refine cT (hp l[j] _) ?_;apply Y;simp(disch:=first|omega|assumption)[hcs,lG];apply Z;refine zI ?_ ?_<;>intro c3<;>try simp at c3
  .refine zr q31_1 fun _ _ Z=>?_;simp(disch:=first|omega|assumption)[hcs,lG];and_intros<;>try first|omega|exact rfl
   apply Z;refine zk [0,1,4,5,6] ?_;refine zt q31_1 fun _ _ Z=>?_;simp(disch:=first|omega|assumption)[hcs,lG];and_intros<;>try first|omega|exact rfl
   apply Z;apply zB;refine zt q31_1 fun _ _ Z=>?_;simp(disch:=first|omega|assumption)[hcs,lG];and_intros<;>try first|omega|exact rfl
   apply Z;refine fB (j+1) ?_ ?_ (dW rfl ?_ (by simp) (by first | (simp [<- (Hv p l j (by omega) c3).1];done) | (simp [(Hv p l j (by omega) c3).1];done)))
   .omega
   .try dsimp only
    omega
   simp(disch:=first|omega|assumption)[hcs,lG,(Hv p l j (by omega) c3).2]
  apply mS;refine zt q31_1 fun _ _ Z=>?_;simp(disch:=first|omega|assumption)[hcs,lG];and_intros<;>try first|omega|exact rfl
  apply Z;refine fB (j+1) ?_ ?_ (dW rfl ?_ (by simp) (by simp [(Bo p l j (by omega) c3).1]))
  .omega
  .try dsimp only
   omega
  simp(disch:=first|omega|assumption)[hcs,lG,(Bo p l j (by omega) c3).2]
 apply zE;refine zr q31_1 fun _ _ Z=>?_;simp(disch:=first|omega|assumption)[hcs,lG];and_intros<;>try first|omega|exact rfl
 apply Z;refine zk [0,4,5] ?_;refine zr q31_1 fun _ _ Z=>?_;simp(disch:=first|omega|assumption)[hcs,lG];and_intros<;>try first|omega|exact rfl
 apply Z;refine fI 4 2 σ.length (kp p l j).length cap ((kp p l j).map dA) ((kp p l j).flatMap cA++(jK #[.string ⟨#[]⟩,.string ⟨#[]⟩] (l.length - (kp p l j).length)++rest)) (by simp <;> rfl) (by simp) (by omega) (by simp [hrest,jX (z:=#[.string ⟨#[]⟩,.string ⟨#[]⟩]) (k:=2) rfl];omega) (by simp) (aSy _) (by rw [aAg];exact dC _ _) ?_;simp only [tD];apply aC;simp [aH];unfold kp;rw [bZ (by omega)]
theorem aA3(l:List AT)(p:AT->Bool)(f:FuncId)(caps:List D)(σ:List (List D))(hl:l.length<=1000000)(hcp:∀d∈caps,d.plain=true)(hcs:caps.map D.strip=caps)(hp:∀x τ,Ct prog f (dA x::caps) τ (fun r τ'=>r= .bool (p x)/\τ'=τ)):
  Ct prog 269 [.xs 2 (l.map dA),.clo (.func f) [] caps] σ (fun r σ'=>r= .xs 2 ((l.filter fun x=> !p x).map dA)/\σ'=σ):=
 (Tz l p f caps σ hl hcp hcs hp).trim fun r σ' ⟨hr,hs⟩=>⟨σ, [[]],hs,rfl,by rw [hr];exact aUj _ _,fun n cs h=> .inl h,hr,rfl⟩
theorem aEk(l:List AT)(σ:List (List D))(hl:l.length<=1000000):Ct prog 154 [.sl false (l.map dA)] σ (fun r σ'=>r= .sl true (l.map dA)/\σ'=σ):=by
 refine zf func154 ?_;refine zr ⟨[2],[],[],[],[]⟩ fun _ _ Z=>?_;simp;apply Z;apply aE;refine zr ⟨[2],[],[],[],[]⟩ fun _ _ Z=>?_;refine zs 1 fun _ Y=>?_;simp;apply Y;refine aF fun _ Y=>?_;simp;refine⟨Y _ ?_,fun e1=>Y _ ?_⟩
 .simp only [eJ];apply Z;refine bA (t:=false) (by simp) (fun h=>by cases h) (fun _=>?_);apply zA;refine zr ⟨[2],[],[],[],[]⟩ fun _ _ Z=>?_;simp;and_intros<;>(try omega);apply Z;apply aC;simp [aH]
 simp only [eJ];apply Z;refine bA (t:=true) (by simp) (fun _=>?_) (fun h=>by cases h);refine zr ⟨[2],[],[],[],[]⟩ fun _ _ Z=>?_;simp;apply Z;apply aC;simp [aH,e1]
attribute [simp] cP
theorem aAd(l:List PI):(l.map cQ).flatMap D.cells=l.flatMap cP:=cX (fun _=>rfl) l
theorem aSe(l:List PI):∀d∈l.map cQ,d.ncells=2/\d.arr=true:=by
 intro d hd;obtain⟨a,_,rfl⟩:=aV.1 hd;exact⟨rfl,rfl⟩
@[simp high] theorem bAl(l:List PI):(l.flatMap cP).length=l.length * 2:=dJ (f:=cP) (fun _=>rfl) l
@[simp high] theorem bA9(l:List PI)(rest:List D)(i:Nat)(h:i<l.length):Ae true 2 ((l.flatMap cP++rest).drop (i * 2))=some (.agg (cP l[i])):=aB8 (f:=cP) (fun _=>rfl) l rest i h
@[simp high] theorem bBe(l:List PI)(rest:List D)(i:Nat)(x:PI)(h:i<l.length):dZ (l.flatMap cP++rest) (i * 2) [D.str x.name,D.int x.value]=(l.set i x).flatMap cP++rest:=Hu (f:=cP) (fun _=>rfl) l rest i x h
theorem lD(p:PI->Bool)(l:List PI)(j:Nat)(rest:List D):dZ ((ar p l j).flatMap cP++rest) ((kp p l j).length * 2) (jK #[.string ⟨#[]⟩,.int .i64 0] (l.length - (kp p l j).length))=(kp p l j).flatMap cP++(jK #[.string ⟨#[]⟩,.int .i64 0] (l.length - (kp p l j).length)++rest):=by
 have hz:(jK #[.string ⟨#[]⟩,.int .i64 0] (l.length - (kp p l j).length)).length=((l.drop (kp p l j).length).flatMap cP).length:=by
  rw [dJ (f:=cP) (k:=2) (fun _=>rfl),jX (k:=2) rfl,dI]
 have hk:((kp p l j).flatMap cP).length=(kp p l j).length * 2:=dJ (f:=cP) (fun _=>rfl) _;unfold ar;rw [gR,bW,<- hk,oN _ _ _ _ hz]
theorem aAe(l:List PI)(p:PI->Bool)(f:FuncId)(caps:List D)(m cap:Nat)(rest:List D)(σ:List (List D))(hl:l.length<=9223372036854775807)(hσ:σ[m]?=some (l.flatMap cP++rest))(hcp:∀d∈caps,d.plain=true)(hcs:caps.map D.strip=caps)(hp:∀x τ,Ct prog f (cQ x::caps) τ (fun r τ'=>r= .bool (p x)/\τ'=τ)):Ct prog 274 [.slo m 0 l.length cap,.clo (.func f) [] caps] σ (fun r σ'=>r= .int (wR p l)/\σ'=σ):=by
 refine zf func274 ?_;refine zr ⟨[],[],[],[7,14],[]⟩ fun _ _ Z=>?_;simp(disch:=omega)[hσ,hcs];apply Z;apply aE;refine zr ⟨[],[],[],[7,14],[]⟩ fun _ _ Z=>?_;simp(disch:=omega)[hσ,hcs];and_intros<;>(try omega);apply Z;apply aR;refine zk [0,1,4,7,8] ?_;refine aY (fun(k:Nat)=> [(8,.d (.v (.int .i64 (k:Int))))]) [4,5,8,9,10,11,12,13,14,15,16,17,18] (fun(k:Nat)=>k<=l.length/\∀x∈l.take k,p x=false) (fun(k:Nat)=>l.length - k) (0) (by simp <;> rfl) ?_ ?_ ?_
 .simp
 .simp
 rintro k ⟨hk,hh⟩;simp only [aQ,aO];refine zr ⟨[],[],[],[7,14],[]⟩ fun _ _ Z=>?_;simp(disch:=omega)[hσ,hcs];apply Z;apply aE;refine zI ?_ ?_<;>intro c1<;>try simp at c1
 .apply jM;refine zr ⟨[],[],[],[7,14],[]⟩ fun _ _ Z=>?_;simp(disch:=omega)[hσ,hcs];apply Z;refine zr ⟨[],[],[],[7,14],[]⟩ fun _ _ Z=>?_;refine zs 5 fun _ Y=>?_;simp(disch:=omega)[hσ,hcs];and_intros<;>(try omega);apply Y;refine aF fun _ Y=>?_;simp(disch:=omega)[hσ,hcs];refine⟨hcp,?_⟩;refine cT (hp l[k] _) ?_;apply Y;simp only [eJ];apply Z;refine zI ?_ ?_<;>intro c2<;>try simp at c2
  .refine zk [0,1,5,7,8] ?_;refine zr ⟨[],[],[],[7,14],[]⟩ fun _ _ Z=>?_;simp(disch:=omega)[hσ,hcs];apply Z;apply aC;simp [aH];exact(Iv c1 hh c2).symm
  apply mS;refine zk [0,1,7,8] ?_;refine zt ⟨[],[],[],[7,14],[]⟩ fun _ _ Z=>?_;simp(disch:=omega)[hσ,hcs];and_intros<;>(try omega);apply Z;refine zq (k+1) ?_ ?_ ?_
  .exact⟨by omega,uU (by omega) hh c2⟩
  .try dsimp only
   omega
  simp(disch:=omega)[hσ,hcs]
 apply zE;refine zr ⟨[],[],[],[7,14],[]⟩ fun _ _ Z=>?_;simp(disch:=omega)[hσ,hcs];apply Z;apply aC;simp [aH];rw [bZ (by omega)] at hh;exact(yF hh).symm
theorem Vb(l:List PI)(p:PI->Bool)(f:FuncId)(caps:List D)(σ:List (List D))(hl:l.length<=1000000)(hcp:∀d∈caps,d.plain=true)(hcs:caps.map D.strip=caps)(hp:∀x τ,Ct prog f (cQ x::caps) τ (fun r τ'=>r= .bool (p x)/\τ'=τ)):Ct prog 270 [.xs 2 (l.map cQ),.clo (.func f) [] caps] σ (fun r σ'=>r= .xs 2 ((l.filter fun x=> !p x).map cQ)/\σ'=σ++ [[]]):=by
 refine zf func270 ?_;refine sO 0 2 rfl (by decide) fun cap rest hcap hcm hrest hk0 hes=>?_;simp only [bQ] at hcap hrest |-;rw [aAd];refine zr q31_1 fun _ _ Z=>?_;simp(disch:=first|omega|assumption)[hcs,lD];apply Z;refine zr q31_1 fun _ _ Z=>?_;refine zs 2 fun _ Y=>?_;simp(disch:=first|omega|assumption)[hcs,lD];apply Y;refine aF fun _ Y=>?_;simp(disch:=first|omega|assumption)[hcs,lD];refine cT (aAe l p f caps σ.length cap rest _ (by omega) (by simp) hcp hcs hp) ?_;apply Y;simp(disch:=first|omega|assumption)[hcs,lD];apply Z;apply aE;refine zr q31_1 fun _ _ Z=>?_;simp(disch:=first|omega|assumption)[hcs,lD];apply Z;refine zI ?_ ?_<;>intro c1<;>try simp at c1
 .refine zr q31_1 fun _ _ Z=>?_;simp(disch:=first|omega|assumption)[hcs,lD];apply Z;refine fI 4 2 σ.length l.length cap (l.map cQ) (l.flatMap cP++rest) (by simp <;> rfl) (by simp) (by omega) (by simp [hrest,jX (z:=#[.string ⟨#[]⟩,.int .i64 0]) (k:=2) rfl];omega) (by simp) (aSe _) (by rw [aAd];exact dC _ _) ?_;simp only [tD];apply aC;simp [aH];rcases Bg p l with ⟨_,h⟩ | ⟨k,h,_⟩
  .rw [h]
  omega
 obtain⟨k0,e0,e1,e2,e3⟩:=Ka c1;rw [e0];apply zA;apply aE;refine zr q31_1 fun _ _ Z=>?_;simp(disch:=first|omega|assumption)[hcs,lD];and_intros<;>try first|omega|exact rfl
 apply Z;apply aR;refine zk [0,1,4,5,6] ?_;refine kI (fun(j:Nat)=> [(5,.d (.v (.int .i64 ((kp p l j).length:Int)))),(6,.d (.v (.int .i64 (j:Int))))]) (fun(j:Nat)=> []) (fun(j:Nat)=> [(σ.length,(ar p l j).flatMap cP++rest)]) [5,6,7,16,17,18,19,20,21,22,23,24,25,26,27,28,29,30,31,32,33,34,35] (fun(j:Nat)=>j<=l.length) (fun(j:Nat)=>l.length - j) (k0+1) (by simp <;> rfl) ?_ (by simp) (by simp [e1]) ?_ ?_
 .simp [e1,e2]
 .omega
 rintro j hj;simp only [aQ,aO,lE,jP,gD,fY];have hkl:=Wu p l j hj;have hal:=Te p l j;apply aE;refine zr q31_1 fun _ _ Z=>?_;simp(disch:=first|omega|assumption)[hcs,lD];and_intros<;>try first|omega|exact rfl
 apply Z;refine zI ?_ ?_<;>intro c2<;>try simp at c2
 .apply jM;refine zr q31_1 fun _ _ Z=>?_;simp(disch:=first|omega|assumption)[hcs,lD];and_intros<;>try first|omega|exact rfl
  apply Z;refine zk [0,1,4,5,6,7] ?_;refine zr q31_1 fun _ _ Z=>?_;refine zs 2 fun _ Y=>?_;simp(disch:=first|omega|assumption)[hcs,lD];apply Y;refine aF fun _ Y=>?_;simp(disch:=first|omega|assumption)[hcs,lD];simp only [aL5 p l j (by omega)];refine⟨hcp,?_⟩;refine cT (hp l[j] _) ?_;apply Y;simp(disch:=first|omega|assumption)[hcs,lD];apply Z;refine zI ?_ ?_<;>intro c3<;>try simp at c3
  .refine zr q31_1 fun _ _ Z=>?_;simp(disch:=first|omega|assumption)[hcs,lD];and_intros<;>try first|omega|exact rfl
   apply Z;refine zk [0,1,4,5,6] ?_;refine zt q31_1 fun _ _ Z=>?_;simp(disch:=first|omega|assumption)[hcs,lD];and_intros<;>try first|omega|exact rfl
   apply Z;apply zB;refine zt q31_1 fun _ _ Z=>?_;simp(disch:=first|omega|assumption)[hcs,lD];and_intros<;>try first|omega|exact rfl
   apply Z;refine fB (j+1) ?_ ?_ (dW rfl ?_ (by simp) (by first | (simp [<- (Hv p l j (by omega) c3).1];done) | (simp [(Hv p l j (by omega) c3).1];done)))
   .omega
   .try dsimp only
    omega
   simp(disch:=first|omega|assumption)[hcs,lD,(Hv p l j (by omega) c3).2]
  apply mS;refine zt q31_1 fun _ _ Z=>?_;simp(disch:=first|omega|assumption)[hcs,lD];and_intros<;>try first|omega|exact rfl
  apply Z;refine fB (j+1) ?_ ?_ (dW rfl ?_ (by simp) (by simp [(Bo p l j (by omega) c3).1]))
  .omega
  .try dsimp only
   omega
  simp(disch:=first|omega|assumption)[hcs,lD,(Bo p l j (by omega) c3).2]
 apply zE;refine zr q31_1 fun _ _ Z=>?_;simp(disch:=first|omega|assumption)[hcs,lD];and_intros<;>try first|omega|exact rfl
 apply Z;refine zk [0,4,5] ?_;refine zr q31_1 fun _ _ Z=>?_;simp(disch:=first|omega|assumption)[hcs,lD];and_intros<;>try first|omega|exact rfl
 apply Z;refine fI 4 2 σ.length (kp p l j).length cap ((kp p l j).map cQ) ((kp p l j).flatMap cP++(jK #[.string ⟨#[]⟩,.int .i64 0] (l.length - (kp p l j).length)++rest)) (by simp <;> rfl) (by simp) (by omega) (by simp [hrest,jX (z:=#[.string ⟨#[]⟩,.int .i64 0]) (k:=2) rfl];omega) (by simp) (aSe _) (by rw [aAd];exact dC _ _) ?_;simp only [tD];apply aC;simp [aH];unfold kp;rw [bZ (by omega)]
theorem Yz(l:List PI)(p:PI->Bool)(f:FuncId)(caps:List D)(σ:List (List D))(hl:l.length<=1000000)(hcp:∀d∈caps,d.plain=true)(hcs:caps.map D.strip=caps)(hp:∀x τ,Ct prog f (cQ x::caps) τ (fun r τ'=>r= .bool (p x)/\τ'=τ)):
  Ct prog 270 [.xs 2 (l.map cQ),.clo (.func f) [] caps] σ (fun r σ'=>r= .xs 2 ((l.filter fun x=> !p x).map cQ)/\σ'=σ):=
 (Vb l p f caps σ hl hcp hcs hp).trim fun r σ' ⟨hr,hs⟩=>⟨σ, [[]],hs,rfl,by rw [hr];exact aS9 _ _,fun n cs h=> .inl h,hr,rfl⟩
theorem aEg(l:List PI)(σ:List (List D))(hl:l.length<=1000000):Ct prog 155 [.sl false (l.map cQ)] σ (fun r σ'=>r= .sl true (l.map cQ)/\σ'=σ):=by
 refine zf func155 ?_;refine zr ⟨[2],[],[],[],[]⟩ fun _ _ Z=>?_;simp;apply Z;apply aE;refine zr ⟨[2],[],[],[],[]⟩ fun _ _ Z=>?_;refine zs 1 fun _ Y=>?_;simp;apply Y;refine aF fun _ Y=>?_;simp;refine⟨Y _ ?_,fun e1=>Y _ ?_⟩
 .simp only [eJ];apply Z;refine bA (t:=false) (by simp) (fun h=>by cases h) (fun _=>?_);apply zA;refine zr ⟨[2],[],[],[],[]⟩ fun _ _ Z=>?_;simp;and_intros<;>(try omega);apply Z;apply aC;simp [aH]
 simp only [eJ];apply Z;refine bA (t:=true) (by simp) (fun _=>?_) (fun h=>by cases h);refine zr ⟨[2],[],[],[],[]⟩ fun _ _ Z=>?_;simp;apply Z;apply aC;simp [aH,e1]
theorem Yh(N cap:Nat)(l:List Int)(rest:List D)(σ:List (List D))(hl:l.length<=1000000)(hN:σ[N]?=some (l.map D.int++rest)):Ct prog 153 [.slo N 0 l.length cap] σ (fun r σ'=>wP 1 (l.map D.int) r/\σ'=σ):=by
 refine zf func153 ?_;refine zr ⟨[2,7],[],[],[],[7]⟩ fun _ _ Z=>?_;simp[hN];apply Z;apply aE;refine zr ⟨[2,7],[],[],[],[7]⟩ fun _ _ Z=>?_;refine zs 1 fun _ Y=>?_;simp[hN];apply Y;refine aF fun _ Y=>?_;simp[hN];refine⟨Y _ ?_,fun e1=>Y _ ?_⟩
 .simp only [eJ];apply Z;refine bA (t:=false) (by simp) (fun h=>by cases h) (fun _=>?_);apply zA;refine zr ⟨[2,7],[],[],[],[7]⟩ fun _ _ Z=>?_;refine zs 3 fun _ Y=>?_;simp[hN];refine⟨l.map D.int,⟨⟨by simp,by rw [uH (f:=D.int) (fun _=>rfl)];exact dC _ _⟩,mR (d:=D.int) (fun _=>⟨rfl,rfl⟩) _,by first | rfl | trivial⟩,⟨by simp;omega,by simp;omega⟩,?_⟩;and_intros<;>(try omega);apply Y;simp[hN];apply Z;apply aC;simp [aH,wP]
 simp only [eJ];apply Z;refine bA (t:=true) (by simp) (fun _=>?_) (fun h=>by cases h);refine zr ⟨[2,7],[],[],[],[7]⟩ fun _ _ Z=>?_;simp[hN];apply Z;apply aC;simp [aH,wP,e1]
theorem aDx(N cap:Nat)(l:List Int)(rest:List D)(σ:List (List D))(hl:l.length<=1000000)(hN:σ[N]?=some (l.map D.int++rest)):Ct prog 153 [.slo N 0 l.length cap] σ (fun r σ'=>r= .sl false (l.map D.int)/\σ'=σ):=((Yh N cap l rest σ hl hN).toX fun _ _ h=>h).freeze fun _ _ h=>h
def aGy(c:Int)(l:List Int):Int:=wR (fun x=>decide (x=c)) l
end Go.Proofs.YtbgfljpnhhdkoaaGreat
