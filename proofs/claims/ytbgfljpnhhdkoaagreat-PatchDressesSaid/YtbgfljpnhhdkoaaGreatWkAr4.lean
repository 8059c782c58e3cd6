import Derived.Test.YtbgfljpnhhdkoaaGreatWkAr3
set_option maxRecDepth 20000
set_option linter.all false
set_option maxHeartbeats 8000000
open Go.Proofs.Tryz
namespace Go.Proofs.YtbgfljpnhhdkoaaGreat
open Go Go.Vm
theorem Kq(l:List Int)(p:Int->Bool)(f:FuncId)(caps:List D)(m cap:Nat)(rest:List D)(σ:List (List D))(hl:l.length<=9223372036854775807)(hσ:σ[m]?=some (l.map D.int++rest))(hcp:∀d∈caps,d.plain=true)(hcs:caps.map D.strip=caps)(hp:∀x τ,σ<+:τ->Ct prog f (D.int x::caps) τ (fun r τ'=>r= .bool (p x)/\τ'=τ)):Ct prog 248 [.slo m 0 l.length cap,.clo (.func f) [] caps] σ (fun r σ'=>r= .int (wQ p l)/\σ'=σ):=by
 refine zf func248 ?_;refine zr ⟨[],[],[],[7,14],[]⟩ fun _ _ Z=>?_;simp(disch:=omega)[hσ,hcs,bD];apply Z;apply aF;refine zr ⟨[],[],[],[7,14],[]⟩ fun _ _ Z=>?_;simp(disch:=omega)[hσ,hcs,bD];and_intros<;>(try omega);apply Z;apply aS;refine zk [0,1,4,7,8] ?_;refine aZ (fun(k:Nat)=> [(8,.d (.v (.int .i64 (k:Int))))]) [4,5,8,9,10,11,12,13,14,15,16,17,18] (fun(k:Nat)=>k<=l.length/\∀x∈l.take k,p x=false) (fun(k:Nat)=>l.length - k) (0) (by simp <;> rfl) ?_ ?_ ?_
 .simp
 .simp
 rintro k ⟨hk,hh⟩;simp only [aP,aN];refine zr ⟨[],[],[],[7,14],[]⟩ fun _ _ Z=>?_;simp(disch:=omega)[hσ,hcs,bD];apply Z;apply aF;refine zI ?_ ?_<;>intro c1<;>try simp at c1
 .apply kR;refine zr ⟨[],[],[],[7,14],[]⟩ fun _ _ Z=>?_;simp(disch:=omega)[hσ,hcs,bD];apply Z;refine zr ⟨[],[],[],[7,14],[]⟩ fun _ _ Z=>?_;refine zs 5 fun _ Y=>?_;simp(disch:=omega)[hσ,hcs,bD];and_intros<;>(try omega);apply Y;refine aE fun _ Y=>?_;simp(disch:=omega)[hσ,hcs,bD];refine⟨hcp,?_⟩;refine cB (hp l[k] _ (Ae _)) ?_;apply Y;simp only [eE];apply Z;refine zI ?_ ?_<;>intro c2<;>try simp at c2
  .refine zk [0,1,5,7,8] ?_;refine zr ⟨[],[],[],[7,14],[]⟩ fun _ _ Z=>?_;simp(disch:=omega)[hσ,hcs,bD];apply Z;apply aD;simp [aK];exact(tZ c1 hh c2).symm
  apply mM;refine zk [0,1,7,8] ?_;refine zt ⟨[],[],[],[7,14],[]⟩ fun _ _ Z=>?_;simp(disch:=omega)[hσ,hcs,bD];and_intros<;>(try omega);apply Z;refine zq (k+1) ?_ ?_ ?_
  .exact⟨by omega,oF (by omega) hh c2⟩
  .try dsimp only
   omega
  simp(disch:=omega)[hσ,hcs,bD]
 apply zE;refine zr ⟨[],[],[],[7,14],[]⟩ fun _ _ Z=>?_;simp(disch:=omega)[hσ,hcs,bD];apply Z;apply aD;simp [aK];rw [bL (by omega)] at hh;exact(qQ hh).symm
theorem Mc(f:FuncId)(caps:List D)(σ:List (List D))(hcp:∀d∈caps,d.plain=true):Ct prog 248 [.xl 0,.clo (.func f) [] caps] σ (fun r σ'=>r= .int (-1)/\σ'=σ):=by
 refine zf func248 ?_;refine zr ⟨[],[],[],[7],[]⟩ fun _ _ Z=>?_;simp;apply Z;apply aF;refine zr ⟨[],[],[],[7],[]⟩ fun _ _ Z=>?_;simp;and_intros<;>(try omega);apply Z;apply aS;refine zk [0,1,4,7,8] ?_;refine aZ (fun(k:Nat)=> [(8,.d (.int 0))]) [4,5,8,9,10,11,12,13,14,15,16,17,18] (fun(k:Nat)=>k=0) (fun(k:Nat)=>0) (0) (by simp <;> rfl) ?_ ?_ ?_
 .simp
 .rfl
 rintro k hk;simp only [aP,aN];refine zr ⟨[],[],[],[7],[]⟩ fun _ _ Z=>?_;simp;apply Z;apply aF;refine zI ?_ ?_<;>intro c1<;>try simp at c1
 apply zE;refine zr ⟨[],[],[],[7],[]⟩ fun _ _ Z=>?_;simp;apply Z;apply aD;simp [aK]
theorem Ru(p:Int->Bool)(l k:List Int)(rest:List D):List.take k.length ((k++l).map D.int++rest)=k.map D.int:=by
 rw [dK,bM,Gg (by simp)];rw [bL (by simp)]
@[simp] abbrev q34_1:Cfg:=⟨[4,13],[],[],[18,24,33,38,41],[]⟩
theorem Ip(l:List Int)(p:Int->Bool)(f:FuncId)(caps:List D)(σ:List (List D))(hl:l.length<=1000000)(hne:l≠ [])(hcp:∀d∈caps,d.plain=true)(hcs:caps.map D.strip=caps)(hp:∀x τ,σ<+:τ->Ct prog f (D.int x::caps) τ (fun r τ'=>r= .bool (p x)/\τ'=τ)):Ct prog 212 [.xs 1 (l.map D.int),.clo (.func f) [] caps] σ (fun r σ'=>r= .xs 1 ((l.filter fun x=> !p x).map D.int)/\σ'=σ++ [[]]):=by
 refine zf func212 ?_;refine qO 0 1 rfl (by decide) fun cap rest hcap hcm hrest hk0 hes=>?_;simp only [bI] at hcap hrest |-;rw [gH (f:=D.int) (fun _=>rfl)];refine zr q34_1 fun _ _ Z=>?_;simp(disch:=first|omega|assumption)[hcs,bD,dI];apply Z;refine zr q34_1 fun _ _ Z=>?_;refine zs 2 fun _ Y=>?_;simp(disch:=first|omega|assumption)[hcs,bD,dI];apply Y;refine aE fun _ Y=>?_;simp(disch:=first|omega|assumption)[hcs,bD,dI];refine cB (Kq l p f caps σ.length cap rest _ (by omega) (by simp) hcp hcs fun x τ h=>hp x τ (List.IsPrefix.trans (cD _ _) h)) ?_;apply Y;simp(disch:=first|omega|assumption)[hcs,bD,dI];apply Z;apply aF;refine zr q34_1 fun _ _ Z=>?_;simp(disch:=first|omega|assumption)[hcs,bD,dI];apply Z;refine zI ?_ ?_<;>intro c1<;>try simp at c1
 .refine zr q34_1 fun _ _ Z=>?_;simp(disch:=first|omega|assumption)[hcs,bD,dI];apply Z;refine eW 4 1 σ.length l.length cap (l.map D.int) (l.map D.int++rest) (by simp <;> rfl) (by simp) (by omega) (by simp [hrest];omega) (by simp) (by simp) (by rw [gH (fun _=>rfl)];exact cD _ _) ?_;simp only [pH];apply aD;simp [aK];rcases wT p l with ⟨_,h⟩ | ⟨k,h,_⟩
  .rw [h]
  omega
 obtain⟨k0,e0,e1,e2,e3⟩:=Cr c1;rw [e0];apply zA;apply aF;refine zr q34_1 fun _ _ Z=>?_;simp(disch:=first|omega|assumption)[hcs,bD,dI];and_intros<;>try first|omega|exact rfl
 apply Z;apply aS;refine zk [0,1,4,5,6] ?_;refine qB (fun(j:Nat)=> [(5,.d (.v (.int .i64 ((kp p l j).length:Int)))),(6,.d (.v (.int .i64 (j:Int))))]) (fun(j:Nat)=> []) (fun(j:Nat)=> [(σ.length,(ar p l j).map D.int++rest)]) [5,6,7,16,17,18,19,20,21,22,23,24,25,26,27,28,29,30,31,32,33,34,35] (fun(j:Nat)=>j<=l.length) (fun(j:Nat)=>l.length - j) (k0+1) (by simp <;> rfl) ?_ (by simp) (by simp [e1]) ?_ ?_
 .simp [e1,e2]
 .omega
 rintro j hj;simp only [aP,aN,rK,oS,eQ,gR];have hkl:=Oo p l j hj;have hal:=Mo p l j;apply aF;refine zr q34_1 fun _ _ Z=>?_;simp(disch:=first|omega|assumption)[hcs,bD,dI];and_intros<;>try first|omega|exact rfl
 apply Z;refine zI ?_ ?_<;>intro c2<;>try simp at c2
 .apply kR;refine zr q34_1 fun _ _ Z=>?_;simp(disch:=first|omega|assumption)[hcs,bD,dI];and_intros<;>try first|omega|exact rfl
  apply Z;refine zk [0,1,4,5,6,7] ?_;refine zr q34_1 fun _ _ Z=>?_;refine zs 2 fun _ Y=>?_;simp(disch:=first|omega|assumption)[hcs,bD,dI];apply Y;refine aE fun _ Y=>?_;simp(disch:=first|omega|assumption)[hcs,bD,dI];simp only [aBt p l j (by omega)];refine⟨hcp,?_⟩;refine cB (hp l[j] _ (cD _ _)) ?_;apply Y;simp(disch:=first|omega|assumption)[hcs,bD,dI];apply Z;refine zI ?_ ?_<;>intro c3<;>try simp at c3
  .refine zr q34_1 fun _ _ Z=>?_;simp(disch:=first|omega|assumption)[hcs,bD,dI];and_intros<;>try first|omega|exact rfl
   apply Z;refine zk [0,1,4,5,6] ?_;refine zt q34_1 fun _ _ Z=>?_;simp(disch:=first|omega|assumption)[hcs,bD,dI];and_intros<;>try first|omega|exact rfl
   apply Z;apply zB;refine zt q34_1 fun _ _ Z=>?_;simp(disch:=first|omega|assumption)[hcs,bD,dI];and_intros<;>try first|omega|exact rfl
   apply Z;refine eX (j+1) ?_ ?_ (dX rfl ?_ (by simp) (by rw [<- (Aw p l j (by omega) c3).1];simp(disch:=omega) [Wq,hal]))
   .omega
   .try dsimp only
    omega
   simp(disch:=first|omega|assumption)[hcs,bD,dI,(Aw p l j (by omega) c3).2]
  apply mM;refine zt q34_1 fun _ _ Z=>?_;simp(disch:=first|omega|assumption)[hcs,bD,dI];and_intros<;>try first|omega|exact rfl
  apply Z;refine eX (j+1) ?_ ?_ (dX rfl ?_ (by simp) (by simp [(vX p l j (by omega) c3).1]))
  .omega
  .try dsimp only
   omega
  simp(disch:=first|omega|assumption)[hcs,bD,dI,(vX p l j (by omega) c3).2]
 apply zE;refine zr q34_1 fun _ _ Z=>?_;simp(disch:=first|omega|assumption)[hcs,bD,dI];and_intros<;>try first|omega|exact rfl
 apply Z;refine zk [0,4,5] ?_;refine zr q34_1 fun _ _ Z=>?_;simp(disch:=first|omega|assumption)[hcs,bD,dI];and_intros<;>try first|omega|exact rfl
 apply Z;refine eW 4 1 σ.length (kp p l j).length cap ((kp p l j).map D.int) ((kp p l j).map D.int++(jE #[.int .i64 0] (l.length - (kp p l j).length)++rest)) (by simp <;> rfl) (by rw [show List.map D.int (kp p l j)=List.take (kp p l j).length (List.map D.int (ar p l j)++rest)from(Ru p _ _ rest).symm];simp [jA (z:=#[.int .i64 0]) (k:=1) rfl,show(kp p l j).length+(l.length - (kp p l j).length)=l.length by omega,Vn D.int (ar p l j) rest l.length hal.symm]) (by omega) (by simp [hrest,jA (z:=#[.int .i64 0]) (k:=1) rfl];omega) (by simp) (by simp) (by rw [gH (fun _=>rfl)];exact cD _ _) ?_;simp only [pH];apply aD;simp [aK];unfold kp;rw [bL (by omega)]
theorem It(f:FuncId)(caps:List D)(σ:List (List D))(hcp:∀d∈caps,d.plain=true):Ct prog 212 [.xs 1 [],.clo (.func f) [] caps] σ (fun r σ'=>r= .xs 1 []/\σ'=σ):=by
 refine zf func212 ?_;refine zr ⟨[4,13],[],[],[],[]⟩ fun _ _ Z=>?_;simp;apply Z;refine zr ⟨[4,13],[],[],[],[]⟩ fun _ _ Z=>?_;refine zs 2 fun _ Y=>?_;simp;apply Y;refine aE fun _ Y=>?_;simp;refine cB (Mc f caps _ hcp) ?_;apply Y;simp;apply Z;apply aF;refine zr ⟨[4,13],[],[],[],[]⟩ fun _ _ Z=>?_;simp;apply Z;refine zI ?_ ?_<;>intro c1<;>try simp at c1
 refine zr ⟨[4,13],[],[],[],[]⟩ fun _ _ Z=>?_;simp;apply Z;apply aD;simp[aK]
theorem Nj(l:List Int)(p:Int->Bool)(f:FuncId)(caps:List D)(σ:List (List D))(hl:l.length<=1000000)(hcp:∀d∈caps,d.plain=true)(hcs:caps.map D.strip=caps)(hp:∀x τ,σ<+:τ->Ct prog f (D.int x::caps) τ (fun r τ'=>r= .bool (p x)/\τ'=τ)):
  Ct prog 212 [.xs 1 (l.map D.int),.clo (.func f) [] caps] σ (fun r σ'=>r= .xs 1 ((l.filter fun x=> !p x).map D.int)/\σ'=σ):=by
 by_cases hne:l= []
 .subst hne;exact It f caps σ hcp
 exact(Ip l p f caps σ hl hne hcp hcs hp).trim fun r σ' ⟨hr,hs⟩=>⟨σ, [[]],hs,rfl,by rw [hr];exact aEa _ _,fun n cs h=> .inl h,hr,rfl⟩
attribute [simp] cA
theorem Yt(l:List AT):(l.map dU).flatMap D.cells=l.flatMap cA:=cW (fun _=>rfl) l
theorem aSp(l:List AT):∀d∈l.map dU,d.ncells=2/\d.arr=true:=by
 intro d hd;obtain⟨a,_,rfl⟩:=aX.1 hd;exact⟨rfl,rfl⟩
@[simp high] theorem aZi(l:List AT):(l.flatMap cA).length=l.length * 2:=dJ (f:=cA) (fun _=>rfl) l
@[simp high] theorem bAc(l:List AT)(rest:List D)(i:Nat)(h:i<l.length):An true 2 ((l.flatMap cA++rest).drop (i * 2))=some (.agg (cA l[i])):=aBu (f:=cA) (fun _=>rfl) l rest i h
@[simp high] theorem aZ7(l:List AT)(rest:List D)(i:Nat)(x:AT)(h:i<l.length):eV (l.flatMap cA++rest) (i * 2) [D.str x.name,D.str x.value]=(l.set i x).flatMap cA++rest:=Hw (f:=cA) (fun _=>rfl) l rest i x h
theorem lG(p:AT->Bool)(l:List AT)(j:Nat)(rest:List D):eV ((ar p l j).flatMap cA++rest) ((kp p l j).length * 2) (jE #[.string ⟨#[]⟩,.string ⟨#[]⟩] (l.length - (kp p l j).length))=(kp p l j).flatMap cA++(jE #[.string ⟨#[]⟩,.string ⟨#[]⟩] (l.length - (kp p l j).length)++rest):=by
 have hz:(jE #[.string ⟨#[]⟩,.string ⟨#[]⟩] (l.length - (kp p l j).length)).length=((l.drop (kp p l j).length).flatMap cA).length:=by
  rw [dJ (f:=cA) (k:=2) (fun _=>rfl),jA (k:=2) rfl,dW]
 have hk:((kp p l j).flatMap cA).length=(kp p l j).length * 2:=dJ (f:=cA) (fun _=>rfl) _;unfold ar;rw [iB,bM,<- hk,oK _ _ _ _ hz]
theorem aAn(l:List AT)(p:AT->Bool)(f:FuncId)(caps:List D)(m cap:Nat)(rest:List D)(σ:List (List D))(hl:l.length<=9223372036854775807)(hσ:σ[m]?=some (l.flatMap cA++rest))(hcp:∀d∈caps,d.plain=true)(hcs:caps.map D.strip=caps)(hp:∀x τ,Ct prog f (dU x::caps) τ (fun r τ'=>r= .bool (p x)/\τ'=τ)):Ct prog 273 [.slo m 0 l.length cap,.clo (.func f) [] caps] σ (fun r σ'=>r= .int (wQ p l)/\σ'=σ):=by
 refine zf func273 ?_;refine zr ⟨[],[],[],[7,14],[]⟩ fun _ _ Z=>?_;simp(disch:=omega)[hσ,hcs];apply Z;apply aF;refine zr ⟨[],[],[],[7,14],[]⟩ fun _ _ Z=>?_;simp(disch:=omega)[hσ,hcs];and_intros<;>(try omega);apply Z;apply aS;refine zk [0,1,4,7,8] ?_;refine aZ (fun(k:Nat)=> [(8,.d (.v (.int .i64 (k:Int))))]) [4,5,8,9,10,11,12,13,14,15,16,17,18] (fun(k:Nat)=>k<=l.length/\∀x∈l.take k,p x=false) (fun(k:Nat)=>l.length - k) (0) (by simp <;> rfl) ?_ ?_ ?_
 .simp
 .simp
 rintro k ⟨hk,hh⟩;simp only [aP,aN];refine zr ⟨[],[],[],[7,14],[]⟩ fun _ _ Z=>?_;simp(disch:=omega)[hσ,hcs];apply Z;apply aF;refine zI ?_ ?_<;>intro c1<;>try simp at c1
 .apply kR;refine zr ⟨[],[],[],[7,14],[]⟩ fun _ _ Z=>?_;simp(disch:=omega)[hσ,hcs];apply Z;refine zr ⟨[],[],[],[7,14],[]⟩ fun _ _ Z=>?_;refine zs 5 fun _ Y=>?_;simp(disch:=omega)[hσ,hcs];and_intros<;>(try omega);apply Y;refine aE fun _ Y=>?_;simp(disch:=omega)[hσ,hcs];refine⟨hcp,?_⟩;refine cB (hp l[k] _) ?_;apply Y;simp only [eE];apply Z;refine zI ?_ ?_<;>intro c2<;>try simp at c2
  .refine zk [0,1,5,7,8] ?_;refine zr ⟨[],[],[],[7,14],[]⟩ fun _ _ Z=>?_;simp(disch:=omega)[hσ,hcs];apply Z;apply aD;simp [aK];exact(tZ c1 hh c2).symm
  apply mM;refine zk [0,1,7,8] ?_;refine zt ⟨[],[],[],[7,14],[]⟩ fun _ _ Z=>?_;simp(disch:=omega)[hσ,hcs];and_intros<;>(try omega);apply Z;refine zq (k+1) ?_ ?_ ?_
  .exact⟨by omega,oF (by omega) hh c2⟩
  .try dsimp only
   omega
  simp(disch:=omega)[hσ,hcs]
 apply zE;refine zr ⟨[],[],[],[7,14],[]⟩ fun _ _ Z=>?_;simp(disch:=omega)[hσ,hcs];apply Z;apply aD;simp [aK];rw [bL (by omega)] at hh;exact(qQ hh).symm
theorem Uo(l:List AT)(p:AT->Bool)(f:FuncId)(caps:List D)(σ:List (List D))(hl:l.length<=1000000)(hcp:∀d∈caps,d.plain=true)(hcs:caps.map D.strip=caps)(hp:∀x τ,Ct prog f (dU x::caps) τ (fun r τ'=>r= .bool (p x)/\τ'=τ)):Ct prog 269 [.xs 2 (l.map dU),.clo (.func f) [] caps] σ (fun r σ'=>r= .xs 2 ((l.filter fun x=> !p x).map dU)/\σ'=σ++ [[]]):=by
 refine zf func269 ?_;refine qO 0 2 rfl (by decide) fun cap rest hcap hcm hrest hk0 hes=>?_;simp only [bI] at hcap hrest |-;rw [Yt];refine zr q34_1 fun _ _ Z=>?_;simp(disch:=first|omega|assumption)[hcs,lG];apply Z;refine zr q34_1 fun _ _ Z=>?_;refine zs 2 fun _ Y=>?_;simp(disch:=first|omega|assumption)[hcs,lG];apply Y;refine aE fun _ Y=>?_;simp(disch:=first|omega|assumption)[hcs,lG];refine cB (aAn l p f caps σ.length cap rest _ (by omega) (by simp) hcp hcs hp) ?_;apply Y;simp(disch:=first|omega|assumption)[hcs,lG];apply Z;apply aF;refine zr q34_1 fun _ _ Z=>?_;simp(disch:=first|omega|assumption)[hcs,lG];apply Z;refine zI ?_ ?_<;>intro c1<;>try simp at c1
 .refine zr q34_1 fun _ _ Z=>?_;simp(disch:=first|omega|assumption)[hcs,lG];apply Z;refine eW 4 2 σ.length l.length cap (l.map dU) (l.flatMap cA++rest) (by simp <;> rfl) (by simp) (by omega) (by simp [hrest,jA (z:=#[.string ⟨#[]⟩,.string ⟨#[]⟩]) (k:=2) rfl];omega) (by simp) (aSp _) (by rw [Yt];exact cD _ _) ?_;simp only [pH];apply aD;simp [aK];rcases wT p l with ⟨_,h⟩ | ⟨k,h,_⟩
  .rw [h]
  omega
 obtain⟨k0,e0,e1,e2,e3⟩:=Cr c1;rw [e0];apply zA;apply aF;refine zr q34_1 fun _ _ Z=>?_;simp(disch:=first|omega|assumption)[hcs,lG];and_intros<;>try first|omega|exact rfl
 apply Z;apply aS;refine zk [0,1,4,5,6] ?_;refine qB (fun(j:Nat)=> [(5,.d (.v (.int .i64 ((kp p l j).length:Int)))),(6,.d (.v (.int .i64 (j:Int))))]) (fun(j:Nat)=> []) (fun(j:Nat)=> [(σ.length,(ar p l j).flatMap cA++rest)]) [5,6,7,16,17,18,19,20,21,22,23,24,25,26,27,28,29,30,31,32,33,34,35] (fun(j:Nat)=>j<=l.length) (fun(j:Nat)=>l.length - j) (k0+1) (by simp <;> rfl) ?_ (by simp) (by simp [e1]) ?_ ?_
 .simp [e1,e2]
 .omega
 rintro j hj;simp only [aP,aN,rK,oS,eQ,gR];have hkl:=Oo p l j hj;have hal:=Mo p l j;apply aF;refine zr q34_1 fun _ _ Z=>?_;simp(disch:=first|omega|assumption)[hcs,lG];and_intros<;>try first|omega|exact rfl
 apply Z;refine zI ?_ ?_<;>intro c2<;>try simp at c2
 .apply kR;refine zr q34_1 fun _ _ Z=>?_;simp(disch:=first|omega|assumption)[hcs,lG];and_intros<;>try first|omega|exact rfl
  apply Z;refine zk [0,1,4,5,6,7] ?_;refine zr q34_1 fun _ _ Z=>?_;refine zs 2 fun _ Y=>?_;simp(disch:=first|omega|assumption)[hcs,lG];apply Y;refine aE fun _ Y=>?_;simp(disch:=first|omega|assumption)[hcs,lG];simp only [aBt p l j (by omega)];refine⟨hcp,?_⟩;refine cB (hp l[j] _) ?_;apply Y;simp(disch:=first|omega|assumption)[hcs,lG];apply Z;refine zI ?_ ?_<;>intro c3<;>try simp at c3
  .refine zr q34_1 fun _ _ Z=>?_;simp(disch:=first|omega|assumption)[hcs,lG];and_intros<;>try first|omega|exact rfl
   apply Z;refine zk [0,1,4,5,6] ?_;refine zt q34_1 fun _ _ Z=>?_;simp(disch:=first|omega|assumption)[hcs,lG];and_intros<;>try first|omega|exact rfl
   apply Z;apply zB;refine zt q34_1 fun _ _ Z=>?_;simp(disch:=first|omega|assumption)[hcs,lG];and_intros<;>try first|omega|exact rfl
   apply Z;refine eX (j+1) ?_ ?_ (dX rfl ?_ (by simp) (by first | (simp [<- (Aw p l j (by omega) c3).1];done) | (simp [(Aw p l j (by omega) c3).1];done)))
   .omega
   .try dsimp only
    omega
   simp(disch:=first|omega|assumption)[hcs,lG,(Aw p l j (by omega) c3).2]
  apply mM;refine zt q34_1 fun _ _ Z=>?_;simp(disch:=first|omega|assumption)[hcs,lG];and_intros<;>try first|omega|exact rfl
  apply Z;refine eX (j+1) ?_ ?_ (dX rfl ?_ (by simp) (by simp [(vX p l j (by omega) c3).1]))
  .omega
  .try dsimp only
   omega
  simp(disch:=first|omega|assumption)[hcs,lG,(vX p l j (by omega) c3).2]
 apply zE;refine zr q34_1 fun _ _ Z=>?_;simp(disch:=first|omega|assumption)[hcs,lG];and_intros<;>try first|omega|exact rfl
 apply Z;refine zk [0,4,5] ?_;refine zr q34_1 fun _ _ Z=>?_;simp(disch:=first|omega|assumption)[hcs,lG];and_intros<;>try first|omega|exact rfl
 apply Z;refine eW 4 2 σ.length (kp p l j).length cap ((kp p l j).map dU) ((kp p l j).flatMap cA++(jE #[.string ⟨#[]⟩,.string ⟨#[]⟩] (l.length - (kp p l j).length)++rest)) (by simp <;> rfl) (by simp) (by omega) (by simp [hrest,jA (z:=#[.string ⟨#[]⟩,.string ⟨#[]⟩]) (k:=2) rfl];omega) (by simp) (aSp _) (by rw [Yt];exact cD _ _) ?_;simp only [pH];apply aD;simp [aK];unfold kp;rw [bL (by omega)]
theorem Zn(l:List AT)(p:AT->Bool)(f:FuncId)(caps:List D)(σ:List (List D))(hl:l.length<=1000000)(hcp:∀d∈caps,d.plain=true)(hcs:caps.map D.strip=caps)(hp:∀x τ,Ct prog f (dU x::caps) τ (fun r τ'=>r= .bool (p x)/\τ'=τ)):
  Ct prog 269 [.xs 2 (l.map dU),.clo (.func f) [] caps] σ (fun r σ'=>r= .xs 2 ((l.filter fun x=> !p x).map dU)/\σ'=σ):=
 (Uo l p f caps σ hl hcp hcs hp).trim fun r σ' ⟨hr,hs⟩=>⟨σ, [[]],hs,rfl,by rw [hr];exact aU3 _ _,fun n cs h=> .inl h,hr,rfl⟩
theorem aF0(l:List AT)(σ:List (List D))(hl:l.length<=1000000):Ct prog 154 [.sl false (l.map dU)] σ (fun r σ'=>r= .sl true (l.map dU)/\σ'=σ):=by
 refine zf func154 ?_;refine zr ⟨[2],[],[],[],[]⟩ fun _ _ Z=>?_;simp;apply Z;apply aF;refine zr ⟨[2],[],[],[],[]⟩ fun _ _ Z=>?_;refine zs 1 fun _ Y=>?_;simp;apply Y;refine aE fun _ Y=>?_;simp;refine⟨Y _ ?_,fun e1=>Y _ ?_⟩
 .simp only [eE];apply Z;refine bS (t:=false) (by simp) (fun h=>by cases h) (fun _=>?_);apply zA;refine zr ⟨[2],[],[],[],[]⟩ fun _ _ Z=>?_;simp;and_intros<;>(try omega);apply Z;apply aD;simp [aK]
 simp only [eE];apply Z;refine bS (t:=true) (by simp) (fun _=>?_) (fun h=>by cases h);refine zr ⟨[2],[],[],[],[]⟩ fun _ _ Z=>?_;simp;apply Z;apply aD;simp [aK,e1]
attribute [simp] cP
theorem Yq(l:List PI):(l.map cM).flatMap D.cells=l.flatMap cP:=cW (fun _=>rfl) l
theorem aSm(l:List PI):∀d∈l.map cM,d.ncells=2/\d.arr=true:=by
 intro d hd;obtain⟨a,_,rfl⟩:=aX.1 hd;exact⟨rfl,rfl⟩
@[simp high] theorem aY1(l:List PI):(l.flatMap cP).length=l.length * 2:=dJ (f:=cP) (fun _=>rfl) l
@[simp high] theorem aZp(l:List PI)(rest:List D)(i:Nat)(h:i<l.length):An true 2 ((l.flatMap cP++rest).drop (i * 2))=some (.agg (cP l[i])):=aBu (f:=cP) (fun _=>rfl) l rest i h
@[simp high] theorem bAb(l:List PI)(rest:List D)(i:Nat)(x:PI)(h:i<l.length):eV (l.flatMap cP++rest) (i * 2) [D.str x.name,D.int x.value]=(l.set i x).flatMap cP++rest:=Hw (f:=cP) (fun _=>rfl) l rest i x h
theorem lV(p:PI->Bool)(l:List PI)(j:Nat)(rest:List D):eV ((ar p l j).flatMap cP++rest) ((kp p l j).length * 2) (jE #[.string ⟨#[]⟩,.int .i64 0] (l.length - (kp p l j).length))=(kp p l j).flatMap cP++(jE #[.string ⟨#[]⟩,.int .i64 0] (l.length - (kp p l j).length)++rest):=by
 have hz:(jE #[.string ⟨#[]⟩,.int .i64 0] (l.length - (kp p l j).length)).length=((l.drop (kp p l j).length).flatMap cP).length:=by
  rw [dJ (f:=cP) (k:=2) (fun _=>rfl),jA (k:=2) rfl,dW]
 have hk:((kp p l j).flatMap cP).length=(kp p l j).length * 2:=dJ (f:=cP) (fun _=>rfl) _;unfold ar;rw [iB,bM,<- hk,oK _ _ _ _ hz]
theorem aAq(l:List PI)(p:PI->Bool)(f:FuncId)(caps:List D)(m cap:Nat)(rest:List D)(σ:List (List D))(hl:l.length<=9223372036854775807)(hσ:σ[m]?=some (l.flatMap cP++rest))(hcp:∀d∈caps,d.plain=true)(hcs:caps.map D.strip=caps)(hp:∀x τ,Ct prog f (cM x::caps) τ (fun r τ'=>r= .bool (p x)/\τ'=τ)):Ct prog 274 [.slo m 0 l.length cap,.clo (.func f) [] caps] σ (fun r σ'=>r= .int (wQ p l)/\σ'=σ):=by
 refine zf func274 ?_;refine zr ⟨[],[],[],[7,14],[]⟩ fun _ _ Z=>?_;simp(disch:=omega)[hσ,hcs];apply Z;apply aF;refine zr ⟨[],[],[],[7,14],[]⟩ fun _ _ Z=>?_;simp(disch:=omega)[hσ,hcs];and_intros<;>(try omega);apply Z;apply aS;refine zk [0,1,4,7,8] ?_;refine aZ (fun(k:Nat)=> [(8,.d (.v (.int .i64 (k:Int))))]) [4,5,8,9,10,11,12,13,14,15,16,17,18] (fun(k:Nat)=>k<=l.length/\∀x∈l.take k,p x=false) (fun(k:Nat)=>l.length - k) (0) (by simp <;> rfl) ?_ ?_ ?_
 .simp
 .simp
 rintro k ⟨hk,hh⟩;simp only [aP,aN];refine zr ⟨[],[],[],[7,14],[]⟩ fun _ _ Z=>?_;simp(disch:=omega)[hσ,hcs];apply Z;apply aF;refine zI ?_ ?_<;>intro c1<;>try simp at c1
 .apply kR;refine zr ⟨[],[],[],[7,14],[]⟩ fun _ _ Z=>?_;simp(disch:=omega)[hσ,hcs];apply Z;refine zr ⟨[],[],[],[7,14],[]⟩ fun _ _ Z=>?_;refine zs 5 fun _ Y=>?_;simp(disch:=omega)[hσ,hcs];and_intros<;>(try omega);apply Y;refine aE fun _ Y=>?_;simp(disch:=omega)[hσ,hcs];refine⟨hcp,?_⟩;refine cB (hp l[k] _) ?_;apply Y;simp only [eE];apply Z;refine zI ?_ ?_<;>intro c2<;>try simp at c2
  .refine zk [0,1,5,7,8] ?_;refine zr ⟨[],[],[],[7,14],[]⟩ fun _ _ Z=>?_;simp(disch:=omega)[hσ,hcs];apply Z;apply aD;simp [aK];exact(tZ c1 hh c2).symm
  apply mM;refine zk [0,1,7,8] ?_;refine zt ⟨[],[],[],[7,14],[]⟩ fun _ _ Z=>?_;simp(disch:=omega)[hσ,hcs];and_intros<;>(try omega);apply Z;refine zq (k+1) ?_ ?_ ?_
  .exact⟨by omega,oF (by omega) hh c2⟩
  .try dsimp only
   omega
  simp(disch:=omega)[hσ,hcs]
 apply zE;refine zr ⟨[],[],[],[7,14],[]⟩ fun _ _ Z=>?_;simp(disch:=omega)[hσ,hcs];apply Z;apply aD;simp [aK];rw [bL (by omega)] at hh;exact(qQ hh).symm
theorem Wn(l:List PI)(p:PI->Bool)(f:FuncId)(caps:List D)(σ:List (List D))(hl:l.length<=1000000)(hcp:∀d∈caps,d.plain=true)(hcs:caps.map D.strip=caps)(hp:∀x τ,Ct prog f (cM x::caps) τ (fun r τ'=>r= .bool (p x)/\τ'=τ)):Ct prog 270 [.xs 2 (l.map cM),.clo (.func f) [] caps] σ (fun r σ'=>r= .xs 2 ((l.filter fun x=> !p x).map cM)/\σ'=σ++ [[]]):=by
 refine zf func270 ?_;refine qO 0 2 rfl (by decide) fun cap rest hcap hcm hrest hk0 hes=>?_;simp only [bI] at hcap hrest |-;rw [Yq];refine zr q34_1 fun _ _ Z=>?_;simp(disch:=first|omega|assumption)[hcs,lV];apply Z;refine zr q34_1 fun _ _ Z=>?_;refine zs 2 fun _ Y=>?_;simp(disch:=first|omega|assumption)[hcs,lV];apply Y;refine aE fun _ Y=>?_;simp(disch:=first|omega|assumption)[hcs,lV];refine cB (aAq l p f caps σ.length cap rest _ (by omega) (by simp) hcp hcs hp) ?_;apply Y;simp(disch:=first|omega|assumption)[hcs,lV];apply Z;apply aF;refine zr q34_1 fun _ _ Z=>?_;simp(disch:=first|omega|assumption)[hcs,lV];apply Z;refine zI ?_ ?_<;>intro c1<;>try simp at c1
 .refine zr q34_1 fun _ _ Z=>?_;simp(disch:=first|omega|assumption)[hcs,lV];apply Z;refine eW 4 2 σ.length l.length cap (l.map cM) (l.flatMap cP++rest) (by simp <;> rfl) (by simp) (by omega) (by simp [hrest,jA (z:=#[.string ⟨#[]⟩,.int .i64 0]) (k:=2) rfl];omega) (by simp) (aSm _) (by rw [Yq];exact cD _ _) ?_;simp only [pH];apply aD;simp [aK];rcases wT p l with ⟨_,h⟩ | ⟨k,h,_⟩
  .rw [h]
  omega
 obtain⟨k0,e0,e1,e2,e3⟩:=Cr c1;rw [e0];apply zA;apply aF;refine zr q34_1 fun _ _ Z=>?_;simp(disch:=first|omega|assumption)[hcs,lV];and_intros<;>try first|omega|exact rfl
 apply Z;apply aS;refine zk [0,1,4,5,6] ?_;refine qB (fun(j:Nat)=> [(5,.d (.v (.int .i64 ((kp p l j).length:Int)))),(6,.d (.v (.int .i64 (j:Int))))]) (fun(j:Nat)=> []) (fun(j:Nat)=> [(σ.length,(ar p l j).flatMap cP++rest)]) [5,6,7,16,17,18,19,20,21,22,23,24,25,26,27,28,29,30,31,32,33,34,35] (fun(j:Nat)=>j<=l.length) (fun(j:Nat)=>l.length - j) (k0+1) (by simp <;> rfl) ?_ (by simp) (by simp [e1]) ?_ ?_
 .simp [e1,e2]
 .omega
 rintro j hj;simp only [aP,aN,rK,oS,eQ,gR];have hkl:=Oo p l j hj;have hal:=Mo p l j;apply aF;refine zr q34_1 fun _ _ Z=>?_;simp(disch:=first|omega|assumption)[hcs,lV];and_intros<;>try first|omega|exact rfl
 apply Z;refine zI ?_ ?_<;>intro c2<;>try simp at c2
 .apply kR;refine zr q34_1 fun _ _ Z=>?_;simp(disch:=first|omega|assumption)[hcs,lV];and_intros<;>try first|omega|exact rfl
  apply Z;refine zk [0,1,4,5,6,7] ?_;refine zr q34_1 fun _ _ Z=>?_;refine zs 2 fun _ Y=>?_;simp(disch:=first|omega|assumption)[hcs,lV];apply Y;refine aE fun _ Y=>?_;simp(disch:=first|omega|assumption)[hcs,lV];simp only [aBt p l j (by omega)];refine⟨hcp,?_⟩;refine cB (hp l[j] _) ?_;apply Y;simp(disch:=first|omega|assumption)[hcs,lV];apply Z;refine zI ?_ ?_<;>intro c3<;>try simp at c3
  .refine zr q34_1 fun _ _ Z=>?_;simp(disch:=first|omega|assumption)[hcs,lV];and_intros<;>try first|omega|exact rfl
   apply Z;refine zk [0,1,4,5,6] ?_;refine zt q34_1 fun _ _ Z=>?_;simp(disch:=first|omega|assumption)[hcs,lV];and_intros<;>try first|omega|exact rfl
   apply Z;apply zB;refine zt q34_1 fun _ _ Z=>?_;simp(disch:=first|omega|assumption)[hcs,lV];and_intros<;>try first|omega|exact rfl
   apply Z;refine eX (j+1) ?_ ?_ (dX rfl ?_ (by simp) (by first | (simp [<- (Aw p l j (by omega) c3).1];done) | (simp [(Aw p l j (by omega) c3).1];done)))
   .omega
   .try dsimp only
    omega
   simp(disch:=first|omega|assumption)[hcs,lV,(Aw p l j (by omega) c3).2]
  apply mM;refine zt q34_1 fun _ _ Z=>?_;simp(disch:=first|omega|assumption)[hcs,lV];and_intros<;>try first|omega|exact rfl
  apply Z;refine eX (j+1) ?_ ?_ (dX rfl ?_ (by simp) (by simp [(vX p l j (by omega) c3).1]))
  .omega
  .try dsimp only
   omega
  simp(disch:=first|omega|assumption)[hcs,lV,(vX p l j (by omega) c3).2]
 apply zE;refine zr q34_1 fun _ _ Z=>?_;simp(disch:=first|omega|assumption)[hcs,lV];and_intros<;>try first|omega|exact rfl
 apply Z;refine zk [0,4,5] ?_;refine zr q34_1 fun _ _ Z=>?_;simp(disch:=first|omega|assumption)[hcs,lV];and_intros<;>try first|omega|exact rfl
 apply Z;refine eW 4 2 σ.length (kp p l j).length cap ((kp p l j).map cM) ((kp p l j).flatMap cP++(jE #[.string ⟨#[]⟩,.int .i64 0] (l.length - (kp p l j).length)++rest)) (by simp <;> rfl) (by simp) (by omega) (by simp [hrest,jA (z:=#[.string ⟨#[]⟩,.int .i64 0]) (k:=2) rfl];omega) (by simp) (aSm _) (by rw [Yq];exact cD _ _) ?_;simp only [pH];apply aD;simp [aK];unfold kp;rw [bL (by omega)]
theorem Zt(l:List PI)(p:PI->Bool)(f:FuncId)(caps:List D)(σ:List (List D))(hl:l.length<=1000000)(hcp:∀d∈caps,d.plain=true)(hcs:caps.map D.strip=caps)(hp:∀x τ,Ct prog f (cM x::caps) τ (fun r τ'=>r= .bool (p x)/\τ'=τ)):
  Ct prog 270 [.xs 2 (l.map cM),.clo (.func f) [] caps] σ (fun r σ'=>r= .xs 2 ((l.filter fun x=> !p x).map cM)/\σ'=σ):=
 (Wn l p f caps σ hl hcp hcs hp).trim fun r σ' ⟨hr,hs⟩=>⟨σ, [[]],hs,rfl,by rw [hr];exact aS2 _ _,fun n cs h=> .inl h,hr,rfl⟩
theorem aHn(l:List PI)(σ:List (List D))(hl:l.length<=1000000):Ct prog 155 [.sl false (l.map cM)] σ (fun r σ'=>r= .sl true (l.map cM)/\σ'=σ):=by
 refine zf func155 ?_;refine zr ⟨[2],[],[],[],[]⟩ fun _ _ Z=>?_;simp;apply Z;apply aF;refine zr ⟨[2],[],[],[],[]⟩ fun _ _ Z=>?_;refine zs 1 fun _ Y=>?_;simp;apply Y;refine aE fun _ Y=>?_;simp;refine⟨Y _ ?_,fun e1=>Y _ ?_⟩
 .simp only [eE];apply Z;refine bS (t:=false) (by simp) (fun h=>by cases h) (fun _=>?_);apply zA;refine zr ⟨[2],[],[],[],[]⟩ fun _ _ Z=>?_;simp;and_intros<;>(try omega);apply Z;apply aD;simp [aK]
 simp only [eE];apply Z;refine bS (t:=true) (by simp) (fun _=>?_) (fun h=>by cases h);refine zr ⟨[2],[],[],[],[]⟩ fun _ _ Z=>?_;simp;apply Z;apply aD;simp [aK,e1]
theorem Zz(N cap:Nat)(l:List Int)(rest:List D)(σ:List (List D))(hl:l.length<=1000000)(hN:σ[N]?=some (l.map D.int++rest)):Ct prog 153 [.slo N 0 l.length cap] σ (fun r σ'=>wY 1 (l.map D.int) r/\σ'=σ):=by
 refine zf func153 ?_;refine zr ⟨[2,7],[],[],[],[7]⟩ fun _ _ Z=>?_;simp[hN];apply Z;apply aF;refine zr ⟨[2,7],[],[],[],[7]⟩ fun _ _ Z=>?_;refine zs 1 fun _ Y=>?_;simp[hN];apply Y;refine aE fun _ Y=>?_;simp[hN];refine⟨Y _ ?_,fun e1=>Y _ ?_⟩
 .simp only [eE];apply Z;refine bS (t:=false) (by simp) (fun h=>by cases h) (fun _=>?_);apply zA;refine zr ⟨[2,7],[],[],[],[7]⟩ fun _ _ Z=>?_;refine zs 3 fun _ Y=>?_;simp[hN];refine⟨l.map D.int,⟨⟨by simp,by rw [gH (f:=D.int) (fun _=>rfl)];exact cD _ _⟩,mC (d:=D.int) (fun _=>⟨rfl,rfl⟩) _,by first | rfl | trivial⟩,⟨by simp;omega,by simp;omega⟩,?_⟩;and_intros<;>(try omega);apply Y;simp[hN];apply Z;apply aD;simp [aK,wY]
 simp only [eE];apply Z;refine bS (t:=true) (by simp) (fun _=>?_) (fun h=>by cases h);refine zr ⟨[2,7],[],[],[],[7]⟩ fun _ _ Z=>?_;simp[hN];apply Z;apply aD;simp [aK,wY,e1]
theorem aEy(N cap:Nat)(l:List Int)(rest:List D)(σ:List (List D))(hl:l.length<=1000000)(hN:σ[N]?=some (l.map D.int++rest)):Ct prog 153 [.slo N 0 l.length cap] σ (fun r σ'=>r= .sl false (l.map D.int)/\σ'=σ):=((Zz N cap l rest σ hl hN).toX fun _ _ h=>h).freeze fun _ _ h=>h
def Lb(c:Int)(l:List Int):Int:=wQ (fun x=>decide (x=c)) l
theorem Fm(N cap:Nat)(l:List Int)(rest:List D)(c:Int)(σ:List (List D))(hl:l.length<=1000000)(hN:σ[N]?=some (l.map D.int++rest)):Ct prog 148 [.slo N 0 l.length cap,D.int c] σ (fun r σ'=>r= .int (Lb c l)/\σ'=σ):=by
 refine zf func148 ?_;refine zr ⟨[],[],[],[7,14],[]⟩ fun _ _ Z=>?_;simp(disch:=omega)[hN,bD];apply Z;apply aF;refine zr ⟨[],[],[],[7,14],[]⟩ fun _ _ Z=>?_;simp(disch:=omega)[hN,bD];and_intros<;>(try omega);apply Z;apply aS;refine zk [0,1,4,7,8] ?_;refine aZ (fun(k:Nat)=> [(8,.d (.v (.int .i64 (k:Int)))),(5,.d (.any))]) [4,5,8,9,10,11,12,13,14,15,16,17,18] (fun(k:Nat)=>k<=l.length/\∀x∈l.take k,decide (x=c)=false) (fun(k:Nat)=>l.length - k) (0) (by simp <;> rfl) ?_ ?_ ?_
 .simp
 .simp
 rintro k ⟨hk,hh⟩;simp only [aP,aN];refine zr ⟨[],[],[],[7,14],[]⟩ fun _ _ Z=>?_;simp(disch:=omega)[hN,bD];apply Z;apply aF;refine zI ?_ ?_<;>intro c1<;>try simp at c1
 .apply kR;refine zr ⟨[],[],[],[7,14],[]⟩ fun _ _ Z=>?_;simp(disch:=omega)[hN,bD];apply Z;refine zr ⟨[],[],[],[7,14],[]⟩ fun _ _ Z=>?_;simp(disch:=omega)[hN,bD];and_intros<;>(try omega);apply Z;refine zI ?_ ?_<;>intro c2<;>try simp at c2
  .refine zk [0,1,5,7,8] ?_;refine zr ⟨[],[],[],[7,14],[]⟩ fun _ _ Z=>?_;simp(disch:=omega)[hN,bD];apply Z;apply aD;simp [aK];exact(tZ c1 hh (by simp;exact c2.symm)).symm
  apply mM;refine zk [0,1,5,7,8] ?_;refine zt ⟨[],[],[],[7,14],[]⟩ fun _ _ Z=>?_;simp(disch:=omega)[hN,bD];and_intros<;>(try omega);apply Z;refine zq (k+1) ?_ ?_ ?_
  .exact⟨by omega,oF (by omega) hh (by simp;exact fun e=>c2 e.symm)⟩
  .try dsimp only
   omega
  simp(disch:=omega)[hN,bD]
 apply zE;refine zr ⟨[],[],[],[7,14],[]⟩ fun _ _ Z=>?_;simp(disch:=omega)[hN,bD];apply Z;apply aD;simp [aK];rw [bL (by omega)] at hh;exact(qQ hh).symm
end Go.Proofs.YtbgfljpnhhdkoaaGreat
