import Derived.Test.YtbdjepeabjangaaGreatWkL1
set_option linter.all false
set_option maxRecDepth 20000
set_option maxHeartbeats 8000000
open Go.Proofs.Tryz
namespace Go.Proofs.YtbdjepeabjangaaGreat
open Go Go.Vm
attribute [simp] cA
variable {a b c:ByteArray}
theorem Pc(l:List AT):(l.map cD).flatMap D.cells=l.flatMap cA:=dB (fun _=>rfl) l
theorem aHj(l:List AT):∀d∈l.map cD,d.ncells=2/\d.arr=true:=by
  intro d hd;obtain⟨a,_,rfl⟩:=bY.1 hd;exact⟨rfl,rfl⟩
@[simp high] theorem aPg(l:List AT):(l.flatMap cA).length=l.length * 2:=dG (f:=cA) (fun _=>rfl) l
@[simp high] theorem aQk(l:List AT)(rest:List D)(i:Nat)(h:i<l.length):sH true 2 ((l.flatMap cA++rest).drop (i * 2))=some (.agg (cA l[i])):=Qf (f:=cA) (fun _=>rfl) l rest i h
@[simp high] theorem aQc(l:List AT)(rest:List D)(i:Nat)(x:AT)(h:i<l.length):dE (l.flatMap cA++rest) (i * 2) [D.str x.name,D.str x.value]=(l.set i x).flatMap cA++rest:=zU (f:=cA) (fun _=>rfl) l rest i x h
theorem iI(p:AT->Bool)(l:List AT)(j:Nat)(rest:List D):dE ((ar p l j).flatMap cA++rest) ((kp p l j).length * 2) (gN #[.string ⟨#[]⟩,.string ⟨#[]⟩] (l.length - (kp p l j).length))=(kp p l j).flatMap cA++(gN #[.string ⟨#[]⟩,.string ⟨#[]⟩] (l.length - (kp p l j).length)++rest):=by
  have hz:(gN #[.string ⟨#[]⟩,.string ⟨#[]⟩] (l.length - (kp p l j).length)).length=((l.drop (kp p l j).length).flatMap cA).length:=by
    rw [dG (f:=cA) (k:=2) (fun _=>rfl),gX (k:=2) rfl,dI]
  have hk:((kp p l j).flatMap cA).length=(kp p l j).length * 2:=dG (f:=cA) (fun _=>rfl) _;unfold ar;rw [fN,bN,<- hk,kR _ _ _ _ hz]
theorem Ph(l:List AT)(p:AT->Bool)(f:FuncId)(caps:List D)(m cap:Nat)(rest:List D)(σ:List (List D))(hl:l.length<=9223372036854775807)(hσ:σ[m]?=some (l.flatMap cA++rest))(hcp:∀d∈caps,d.plain=true)(hcs:caps.map D.strip=caps)(hp:∀x τ,Ct prog f (cD x::caps) τ (fun r τ'=>r= .bool (p x)/\τ'=τ)):Ct prog 165 [.slo m 0 l.length cap,.clo (.func f) [] caps] σ (fun r σ'=>r= .int (uC p l)/\σ'=σ):=by
  refine zf func165 ?_;refine zr ⟨[],[],[],[7,14],[]⟩ fun _ _ Z=>?_;simp(disch:=omega)[hσ,hcs];apply Z;apply aE;refine zr ⟨[],[],[],[7,14],[]⟩ fun _ _ Z=>?_;simp(disch:=omega)[hσ,hcs];and_intros<;>(try omega);apply Z;apply aQ;refine zk [0,1,4,7,8] ?_;refine bK (fun(k:Nat)=> [(8,.d (.v (.int .i64 (k:Int))))]) [4,5,8,9,10,11,12,13,14,15,16,17,18] (fun(k:Nat)=>k<=l.length/\∀x∈l.take k,p x=false) (fun(k:Nat)=>l.length - k) (0) (by simp <;> rfl) ?_ ?_ ?_
  . simp
  . simp
  rintro k ⟨hk,hh⟩;simp only [aO,aK];refine zr ⟨[],[],[],[7,14],[]⟩ fun _ _ Z=>?_;simp(disch:=omega)[hσ,hcs];apply Z;apply aE;refine zI ?_ ?_<;>intro c1<;>try simp at c1
  . apply mT
    refine zr ⟨[],[],[],[7,14],[]⟩ fun _ _ Z=>?_;simp(disch:=omega)[hσ,hcs];apply Z;refine zr ⟨[],[],[],[7,14],[]⟩ fun _ _ Z=>?_;refine zs 5 fun _ Y=>?_;simp(disch:=omega)[hσ,hcs];and_intros<;>(try omega);apply Y;refine aD fun _ Y=>?_;simp(disch:=omega)[hσ,hcs];refine⟨hcp,?_⟩;refine eH (hp l[k] _) ?_;apply Y;simp only [fJ];apply Z;refine zI ?_ ?_<;>intro c2<;>try simp at c2
    . refine zk [0,1,5,7,8] ?_
      refine zr ⟨[],[],[],[7,14],[]⟩ fun _ _ Z=>?_;simp(disch:=omega)[hσ,hcs];apply Z;apply aC;simp [aT];exact(At c1 hh c2).symm
    apply rK;refine zk [0,1,7,8] ?_;refine zt ⟨[],[],[],[7,14],[]⟩ fun _ _ Z=>?_;simp(disch:=omega)[hσ,hcs];and_intros<;>(try omega);apply Z;refine zq (k+1) ?_ ?_ ?_
    . exact⟨by omega,vY (by omega) hh c2⟩
    . try dsimp only
      omega
    simp(disch:=omega)[hσ,hcs]
  apply zE;refine zr ⟨[],[],[],[7,14],[]⟩ fun _ _ Z=>?_;simp(disch:=omega)[hσ,hcs];apply Z;apply aC;simp [aT];rw [bW (by omega)] at hh;exact(sM hh).symm
@[simp] abbrev q0_1:Cfg:=⟨[4,13],[],[],[18,24,33,38,41],[]⟩
theorem Ky (l : List AT) (p : AT -> Bool) (f : FuncId) (caps : List D) (σ : List (List D)) (hl : l.length <= 1000000) (hcp : ∀ d ∈ caps, d.plain = true) (hcs : caps.map D.strip = caps) (hp : ∀ x τ, Ct prog f (cD x :: caps) τ (fun r τ' => r = .bool (p x) /\ τ' = τ)) : Ct prog 152 [.xs 2 (l.map cD), .clo (.func f) [] caps] σ (fun r σ' => r = .xs 2 ((l.filter fun x => !p x).map cD) /\ σ' = σ ++ [[]]) := by
  refine zf func152 ?_;refine qI 0 2 rfl (by decide) fun cap rest hcap hcm hrest hk0 hes=>?_;simp only [cC] at hcap hrest |-;rw [Pc];refine zr q0_1 fun _ _ Z=>?_;simp(disch:=first|omega|assumption)[hcs,iI];apply Z;refine zr q0_1 fun _ _ Z=>?_;refine zs 2 fun _ Y=>?_;simp(disch:=first|omega|assumption)[hcs,iI];apply Y;refine aD fun _ Y=>?_;simp(disch:=first|omega|assumption)[hcs,iI];refine eH (Ph l p f caps σ.length cap rest _ (by omega) (by simp) hcp hcs hp) ?_;apply Y;simp(disch:=first|omega|assumption)[hcs,iI];apply Z;apply aE;refine zr q0_1 fun _ _ Z=>?_;simp(disch:=first|omega|assumption)[hcs,iI];apply Z;refine zI ?_ ?_<;>intro c1<;>try simp at c1
  . refine zr q0_1 fun _ _ Z=>?_
    simp(disch:=first|omega|assumption)[hcs,iI];apply Z;refine eQ 4 2 σ.length l.length cap (l.map cD) (l.flatMap cA++rest) (by simp <;> rfl) (by simp) (by omega) (by simp [hrest,gX (z:=#[.string ⟨#[]⟩,.string ⟨#[]⟩]) (k:=2) rfl];omega) (by simp) (aHj _) (by rw [Pc];exact dA _ _) ?_;simp only [oI];apply aC;simp [aT];rcases vI p l with ⟨_,h⟩ | ⟨k,h,_⟩
    . rw [h]
    omega
  obtain⟨k0,e0,e1,e2,e3⟩:=Cu c1;rw [e0];apply zA;apply aE;refine zr q0_1 fun _ _ Z=>?_;simp(disch:=first|omega|assumption)[hcs,iI];and_intros<;>try first|omega|exact rfl
  apply Z;apply aQ;refine zk [0,1,4,5,6] ?_;refine fP (fun(j:Nat)=> [(5,.d (.v (.int .i64 ((kp p l j).length:Int)))),(6,.d (.v (.int .i64 (j:Int))))]) (fun(j:Nat)=> []) (fun(j:Nat)=> [(σ.length,(ar p l j).flatMap cA++rest)]) [5,6,7,16,17,18,19,20,21,22,23,24,25,26,27,28,29,30,31,32,33,34,35] (fun(j:Nat)=>j<=l.length) (fun(j:Nat)=>l.length - j) (k0+1) (by simp <;> rfl) ?_ (by simp) (by simp [e1]) ?_ ?_
  . simp [e1,e2]
  . omega
  rintro j hj;simp only [aO,aK,eM,dS,bZ,cN];have hkl:=Ln p l j hj;have hal:=Ha p l j;apply aE;refine zr q0_1 fun _ _ Z=>?_;simp(disch:=first|omega|assumption)[hcs,iI];and_intros<;>try first|omega|exact rfl
  apply Z;refine zI ?_ ?_<;>intro c2<;>try simp at c2
  . apply mT
    refine zr q0_1 fun _ _ Z=>?_;simp(disch:=first|omega|assumption)[hcs,iI];and_intros<;>try first|omega|exact rfl
    apply Z;refine zk [0,1,4,5,6,7] ?_;refine zr q0_1 fun _ _ Z=>?_;refine zs 2 fun _ Y=>?_;simp(disch:=first|omega|assumption)[hcs,iI];apply Y;refine aD fun _ Y=>?_;simp(disch:=first|omega|assumption)[hcs,iI];simp only [aA3 p l j (by omega)];refine⟨hcp,?_⟩;refine eH (hp l[j] _) ?_;apply Y;simp(disch:=first|omega|assumption)[hcs,iI];apply Z;refine zI ?_ ?_<;>intro c3<;>try simp at c3
    . refine zr q0_1 fun _ _ Z=>?_
      simp(disch:=first|omega|assumption)[hcs,iI];and_intros<;>try first|omega|exact rfl
      apply Z;refine zk [0,1,4,5,6] ?_;refine zt q0_1 fun _ _ Z=>?_;simp(disch:=first|omega|assumption)[hcs,iI];and_intros<;>try first|omega|exact rfl
      apply Z;apply zB;refine zt q0_1 fun _ _ Z=>?_;simp(disch:=first|omega|assumption)[hcs,iI];and_intros<;>try first|omega|exact rfl
      apply Z;refine eL (j+1) ?_ ?_ (bT rfl ?_ (by simp) (by first | (simp [<- (zH p l j (by omega) c3).1];done) | (simp [(zH p l j (by omega) c3).1];done)))
      . omega
      . try dsimp only
        omega
      simp(disch:=first|omega|assumption)[hcs,iI,(zH p l j (by omega) c3).2]
    apply rK;refine zt q0_1 fun _ _ Z=>?_;simp(disch:=first|omega|assumption)[hcs,iI];and_intros<;>try first|omega|exact rfl
    apply Z;refine eL (j+1) ?_ ?_ (bT rfl ?_ (by simp) (by simp [(uN p l j (by omega) c3).1]))
    . omega
    . try dsimp only
      omega
    simp(disch:=first|omega|assumption)[hcs,iI,(uN p l j (by omega) c3).2]
  apply zE;refine zr q0_1 fun _ _ Z=>?_;simp(disch:=first|omega|assumption)[hcs,iI];and_intros<;>try first|omega|exact rfl
  apply Z;refine zk [0,4,5] ?_;refine zr q0_1 fun _ _ Z=>?_;simp(disch:=first|omega|assumption)[hcs,iI];and_intros<;>try first|omega|exact rfl
  apply Z;refine eQ 4 2 σ.length (kp p l j).length cap ((kp p l j).map cD) ((kp p l j).flatMap cA++(gN #[.string ⟨#[]⟩,.string ⟨#[]⟩] (l.length - (kp p l j).length)++rest)) (by simp <;> rfl) (by simp) (by omega) (by simp [hrest,gX (z:=#[.string ⟨#[]⟩,.string ⟨#[]⟩]) (k:=2) rfl];omega) (by simp) (aHj _) (by rw [Pc];exact dA _ _) ?_;simp only [oI];apply aC;simp [aT];unfold kp;rw [bW (by omega)]
theorem Mj(l:List AT)(p:AT->Bool)(f:FuncId)(caps:List D)(σ:List (List D))(hl:l.length<=1000000)(hcp:∀d∈caps,d.plain=true)(hcs:caps.map D.strip=caps)(hp:∀x τ,Ct prog f (cD x::caps) τ (fun r τ'=>r= .bool (p x)/\τ'=τ)):
    Ct prog 152 [.xs 2 (l.map cD),.clo (.func f) [] caps] σ (fun r σ'=>r= .xs 2 ((l.filter fun x=> !p x).map cD)/\σ'=σ):=
  (Ky l p f caps σ hl hcp hcs hp).trim fun r σ' ⟨hr,hs⟩=>⟨σ, [[]],hs,rfl,by rw [hr];exact aIu _ _,fun n cs h=> .inl h,hr,rfl⟩
theorem xV(l:List AT)(σ:List (List D))(hl:l.length<=1000000):Ct prog 113 [.sl false (l.map cD)] σ (fun r σ'=>r= .sl true (l.map cD)/\σ'=σ):=by
  refine zf func113 ?_;refine zr ⟨[2],[],[],[],[]⟩ fun _ _ Z=>?_;simp;apply Z;apply aE;refine zr ⟨[2],[],[],[],[]⟩ fun _ _ Z=>?_;refine zs 1 fun _ Y=>?_;simp;apply Y;refine aD fun _ Y=>?_;simp;refine⟨Y _ ?_,fun e1=>Y _ ?_⟩
  . simp only [fJ]
    apply Z;refine cJ (t:=false) (by simp) (fun h=>by cases h) (fun _=>?_);apply zA;refine zr ⟨[2],[],[],[],[]⟩ fun _ _ Z=>?_;simp;and_intros<;>(try omega);apply Z;apply aC;simp [aT]
  simp only [fJ];apply Z;refine cJ (t:=true) (by simp) (fun _=>?_) (fun h=>by cases h);refine zr ⟨[2],[],[],[],[]⟩ fun _ _ Z=>?_;simp;apply Z;apply aC;simp [aT,e1]
attribute [simp] cP
theorem Pw(l:List PI):(l.map bV).flatMap D.cells=l.flatMap cP:=dB (fun _=>rfl) l
theorem aH1(l:List PI):∀d∈l.map bV,d.ncells=2/\d.arr=true:=by
  intro d hd;obtain⟨a,_,rfl⟩:=bY.1 hd;exact⟨rfl,rfl⟩
@[simp high] theorem aO9(l:List PI):(l.flatMap cP).length=l.length * 2:=dG (f:=cP) (fun _=>rfl) l
@[simp high] theorem aQj(l:List PI)(rest:List D)(i:Nat)(h:i<l.length):sH true 2 ((l.flatMap cP++rest).drop (i * 2))=some (.agg (cP l[i])):=Qf (f:=cP) (fun _=>rfl) l rest i h
@[simp high] theorem aPp(l:List PI)(rest:List D)(i:Nat)(x:PI)(h:i<l.length):dE (l.flatMap cP++rest) (i * 2) [D.str x.name,D.int x.value]=(l.set i x).flatMap cP++rest:=zU (f:=cP) (fun _=>rfl) l rest i x h
theorem iO(p:PI->Bool)(l:List PI)(j:Nat)(rest:List D):dE ((ar p l j).flatMap cP++rest) ((kp p l j).length * 2) (gN #[.string ⟨#[]⟩,.int .i64 0] (l.length - (kp p l j).length))=(kp p l j).flatMap cP++(gN #[.string ⟨#[]⟩,.int .i64 0] (l.length - (kp p l j).length)++rest):=by
  have hz:(gN #[.string ⟨#[]⟩,.int .i64 0] (l.length - (kp p l j).length)).length=((l.drop (kp p l j).length).flatMap cP).length:=by
    rw [dG (f:=cP) (k:=2) (fun _=>rfl),gX (k:=2) rfl,dI]
  have hk:((kp p l j).flatMap cP).length=(kp p l j).length * 2:=dG (f:=cP) (fun _=>rfl) _;unfold ar;rw [fN,bN,<- hk,kR _ _ _ _ hz]
theorem Pe(l:List PI)(p:PI->Bool)(f:FuncId)(caps:List D)(m cap:Nat)(rest:List D)(σ:List (List D))(hl:l.length<=9223372036854775807)(hσ:σ[m]?=some (l.flatMap cP++rest))(hcp:∀d∈caps,d.plain=true)(hcs:caps.map D.strip=caps)(hp:∀x τ,Ct prog f (bV x::caps) τ (fun r τ'=>r= .bool (p x)/\τ'=τ)):Ct prog 166 [.slo m 0 l.length cap,.clo (.func f) [] caps] σ (fun r σ'=>r= .int (uC p l)/\σ'=σ):=by
  refine zf func166 ?_;refine zr ⟨[],[],[],[7,14],[]⟩ fun _ _ Z=>?_;simp(disch:=omega)[hσ,hcs];apply Z;apply aE;refine zr ⟨[],[],[],[7,14],[]⟩ fun _ _ Z=>?_;simp(disch:=omega)[hσ,hcs];and_intros<;>(try omega);apply Z;apply aQ;refine zk [0,1,4,7,8] ?_;refine bK (fun(k:Nat)=> [(8,.d (.v (.int .i64 (k:Int))))]) [4,5,8,9,10,11,12,13,14,15,16,17,18] (fun(k:Nat)=>k<=l.length/\∀x∈l.take k,p x=false) (fun(k:Nat)=>l.length - k) (0) (by simp <;> rfl) ?_ ?_ ?_
  . simp
  . simp
  rintro k ⟨hk,hh⟩;simp only [aO,aK];refine zr ⟨[],[],[],[7,14],[]⟩ fun _ _ Z=>?_;simp(disch:=omega)[hσ,hcs];apply Z;apply aE;refine zI ?_ ?_<;>intro c1<;>try simp at c1
  . apply mT
    refine zr ⟨[],[],[],[7,14],[]⟩ fun _ _ Z=>?_;simp(disch:=omega)[hσ,hcs];apply Z;refine zr ⟨[],[],[],[7,14],[]⟩ fun _ _ Z=>?_;refine zs 5 fun _ Y=>?_;simp(disch:=omega)[hσ,hcs];and_intros<;>(try omega);apply Y;refine aD fun _ Y=>?_;simp(disch:=omega)[hσ,hcs];refine⟨hcp,?_⟩;refine eH (hp l[k] _) ?_;apply Y;simp only [fJ];apply Z;refine zI ?_ ?_<;>intro c2<;>try simp at c2
    . refine zk [0,1,5,7,8] ?_
      refine zr ⟨[],[],[],[7,14],[]⟩ fun _ _ Z=>?_;simp(disch:=omega)[hσ,hcs];apply Z;apply aC;simp [aT];exact(At c1 hh c2).symm
    apply rK;refine zk [0,1,7,8] ?_;refine zt ⟨[],[],[],[7,14],[]⟩ fun _ _ Z=>?_;simp(disch:=omega)[hσ,hcs];and_intros<;>(try omega);apply Z;refine zq (k+1) ?_ ?_ ?_
    . exact⟨by omega,vY (by omega) hh c2⟩
    . try dsimp only
      omega
    simp(disch:=omega)[hσ,hcs]
  apply zE;refine zr ⟨[],[],[],[7,14],[]⟩ fun _ _ Z=>?_;simp(disch:=omega)[hσ,hcs];apply Z;apply aC;simp [aT];rw [bW (by omega)] at hh;exact(sM hh).symm
theorem Lm (l : List PI) (p : PI -> Bool) (f : FuncId) (caps : List D) (σ : List (List D)) (hl : l.length <= 1000000) (hcp : ∀ d ∈ caps, d.plain = true) (hcs : caps.map D.strip = caps) (hp : ∀ x τ, Ct prog f (bV x :: caps) τ (fun r τ' => r = .bool (p x) /\ τ' = τ)) : Ct prog 153 [.xs 2 (l.map bV), .clo (.func f) [] caps] σ (fun r σ' => r = .xs 2 ((l.filter fun x => !p x).map bV) /\ σ' = σ ++ [[]]) := by
  refine zf func153 ?_;refine qI 0 2 rfl (by decide) fun cap rest hcap hcm hrest hk0 hes=>?_;simp only [cC] at hcap hrest |-;rw [Pw];refine zr q0_1 fun _ _ Z=>?_;simp(disch:=first|omega|assumption)[hcs,iO];apply Z;refine zr q0_1 fun _ _ Z=>?_;refine zs 2 fun _ Y=>?_;simp(disch:=first|omega|assumption)[hcs,iO];apply Y;refine aD fun _ Y=>?_;simp(disch:=first|omega|assumption)[hcs,iO];refine eH (Pe l p f caps σ.length cap rest _ (by omega) (by simp) hcp hcs hp) ?_;apply Y;simp(disch:=first|omega|assumption)[hcs,iO];apply Z;apply aE;refine zr q0_1 fun _ _ Z=>?_;simp(disch:=first|omega|assumption)[hcs,iO];apply Z;refine zI ?_ ?_<;>intro c1<;>try simp at c1
  . refine zr q0_1 fun _ _ Z=>?_
    simp(disch:=first|omega|assumption)[hcs,iO];apply Z;refine eQ 4 2 σ.length l.length cap (l.map bV) (l.flatMap cP++rest) (by simp <;> rfl) (by simp) (by omega) (by simp [hrest,gX (z:=#[.string ⟨#[]⟩,.int .i64 0]) (k:=2) rfl];omega) (by simp) (aH1 _) (by rw [Pw];exact dA _ _) ?_;simp only [oI];apply aC;simp [aT];rcases vI p l with ⟨_,h⟩ | ⟨k,h,_⟩
    . rw [h]
    omega
  obtain⟨k0,e0,e1,e2,e3⟩:=Cu c1;rw [e0];apply zA;apply aE;refine zr q0_1 fun _ _ Z=>?_;simp(disch:=first|omega|assumption)[hcs,iO];and_intros<;>try first|omega|exact rfl
  apply Z;apply aQ;refine zk [0,1,4,5,6] ?_;refine fP (fun(j:Nat)=> [(5,.d (.v (.int .i64 ((kp p l j).length:Int)))),(6,.d (.v (.int .i64 (j:Int))))]) (fun(j:Nat)=> []) (fun(j:Nat)=> [(σ.length,(ar p l j).flatMap cP++rest)]) [5,6,7,16,17,18,19,20,21,22,23,24,25,26,27,28,29,30,31,32,33,34,35] (fun(j:Nat)=>j<=l.length) (fun(j:Nat)=>l.length - j) (k0+1) (by simp <;> rfl) ?_ (by simp) (by simp [e1]) ?_ ?_
  . simp [e1,e2]
  . omega
  rintro j hj;simp only [aO,aK,eM,dS,bZ,cN];have hkl:=Ln p l j hj;have hal:=Ha p l j;apply aE;refine zr q0_1 fun _ _ Z=>?_;simp(disch:=first|omega|assumption)[hcs,iO];and_intros<;>try first|omega|exact rfl
  apply Z;refine zI ?_ ?_<;>intro c2<;>try simp at c2
  . apply mT
    refine zr q0_1 fun _ _ Z=>?_;simp(disch:=first|omega|assumption)[hcs,iO];and_intros<;>try first|omega|exact rfl
    apply Z;refine zk [0,1,4,5,6,7] ?_;refine zr q0_1 fun _ _ Z=>?_;refine zs 2 fun _ Y=>?_;simp(disch:=first|omega|assumption)[hcs,iO];apply Y;refine aD fun _ Y=>?_;simp(disch:=first|omega|assumption)[hcs,iO];simp only [aA3 p l j (by omega)];refine⟨hcp,?_⟩;refine eH (hp l[j] _) ?_;apply Y;simp(disch:=first|omega|assumption)[hcs,iO];apply Z;refine zI ?_ ?_<;>intro c3<;>try simp at c3
    . refine zr q0_1 fun _ _ Z=>?_
      simp(disch:=first|omega|assumption)[hcs,iO];and_intros<;>try first|omega|exact rfl
      apply Z;refine zk [0,1,4,5,6] ?_;refine zt q0_1 fun _ _ Z=>?_;simp(disch:=first|omega|assumption)[hcs,iO];and_intros<;>try first|omega|exact rfl
      apply Z;apply zB;refine zt q0_1 fun _ _ Z=>?_;simp(disch:=first|omega|assumption)[hcs,iO];and_intros<;>try first|omega|exact rfl
      apply Z;refine eL (j+1) ?_ ?_ (bT rfl ?_ (by simp) (by first | (simp [<- (zH p l j (by omega) c3).1];done) | (simp [(zH p l j (by omega) c3).1];done)))
      . omega
      . try dsimp only
        omega
      simp(disch:=first|omega|assumption)[hcs,iO,(zH p l j (by omega) c3).2]
    apply rK;refine zt q0_1 fun _ _ Z=>?_;simp(disch:=first|omega|assumption)[hcs,iO];and_intros<;>try first|omega|exact rfl
    apply Z;refine eL (j+1) ?_ ?_ (bT rfl ?_ (by simp) (by simp [(uN p l j (by omega) c3).1]))
    . omega
    . try dsimp only
      omega
    simp(disch:=first|omega|assumption)[hcs,iO,(uN p l j (by omega) c3).2]
  apply zE;refine zr q0_1 fun _ _ Z=>?_;simp(disch:=first|omega|assumption)[hcs,iO];and_intros<;>try first|omega|exact rfl
  apply Z;refine zk [0,4,5] ?_;refine zr q0_1 fun _ _ Z=>?_;simp(disch:=first|omega|assumption)[hcs,iO];and_intros<;>try first|omega|exact rfl
  apply Z;refine eQ 4 2 σ.length (kp p l j).length cap ((kp p l j).map bV) ((kp p l j).flatMap cP++(gN #[.string ⟨#[]⟩,.int .i64 0] (l.length - (kp p l j).length)++rest)) (by simp <;> rfl) (by simp) (by omega) (by simp [hrest,gX (z:=#[.string ⟨#[]⟩,.int .i64 0]) (k:=2) rfl];omega) (by simp) (aH1 _) (by rw [Pw];exact dA _ _) ?_;simp only [oI];apply aC;simp [aT];unfold kp;rw [bW (by omega)]
theorem Ow(l:List PI)(p:PI->Bool)(f:FuncId)(caps:List D)(σ:List (List D))(hl:l.length<=1000000)(hcp:∀d∈caps,d.plain=true)(hcs:caps.map D.strip=caps)(hp:∀x τ,Ct prog f (bV x::caps) τ (fun r τ'=>r= .bool (p x)/\τ'=τ)):
    Ct prog 153 [.xs 2 (l.map bV),.clo (.func f) [] caps] σ (fun r σ'=>r= .xs 2 ((l.filter fun x=> !p x).map bV)/\σ'=σ):=
  (Lm l p f caps σ hl hcp hcs hp).trim fun r σ' ⟨hr,hs⟩=>⟨σ, [[]],hs,rfl,by rw [hr];exact aJz _ _,fun n cs h=> .inl h,hr,rfl⟩
theorem xX(l:List PI)(σ:List (List D))(hl:l.length<=1000000):Ct prog 114 [.sl false (l.map bV)] σ (fun r σ'=>r= .sl true (l.map bV)/\σ'=σ):=by
  refine zf func114 ?_;refine zr ⟨[2],[],[],[],[]⟩ fun _ _ Z=>?_;simp;apply Z;apply aE;refine zr ⟨[2],[],[],[],[]⟩ fun _ _ Z=>?_;refine zs 1 fun _ Y=>?_;simp;apply Y;refine aD fun _ Y=>?_;simp;refine⟨Y _ ?_,fun e1=>Y _ ?_⟩
  . simp only [fJ]
    apply Z;refine cJ (t:=false) (by simp) (fun h=>by cases h) (fun _=>?_);apply zA;refine zr ⟨[2],[],[],[],[]⟩ fun _ _ Z=>?_;simp;and_intros<;>(try omega);apply Z;apply aC;simp [aT]
  simp only [fJ];apply Z;refine cJ (t:=true) (by simp) (fun _=>?_) (fun h=>by cases h);refine zr ⟨[2],[],[],[],[]⟩ fun _ _ Z=>?_;simp;apply Z;apply aC;simp [aT,e1]
def fS(a b:ByteArray):Bool:=Op.bytesLess a.toList b.toList
theorem Fv:∀a:List UInt8,Op.bytesLess a a=false
  | []=>rfl
  | a::x=>by simp [Op.bytesLess,Fv x]
theorem aLr {a b:UInt8} :a<b↔a.toNat<b.toNat:=Iff.rfl
theorem Jd:∀a b c:List UInt8,Op.bytesLess a b=true->Op.bytesLess b c=true->Op.bytesLess a c=true
  | [], [],_,h,_=>by simp [Op.bytesLess] at h
  | _::_, [],_,h,_=>by simp [Op.bytesLess] at h
  | [],_::_, [],_,h=>by simp [Op.bytesLess] at h
  | _::_,_::_, [],_,h=>by simp [Op.bytesLess] at h
  | [],_::_,_::_,_,_=>by simp [Op.bytesLess]
  | a :: x, b :: y, c :: z, h1, h2 => by
    simp only [Op.bytesLess,wW,fZ,jB,sN,aLr] at *;rcases h1 with h1 | ⟨rfl,h1⟩
    . rcases h2 with h2 | ⟨rfl, h2⟩
      . left;omega
      left;exact h1
    rcases h2 with h2 | ⟨rfl,h2⟩
    . left;exact h2
    right;exact⟨rfl,Jd x y z h1 h2⟩
theorem La(a:ByteArray):fS a a=false:=Fv _
theorem uO (h1:fS a b=true)(h2:fS b c=true):fS a c=true:=Jd _ _ _ h1 h2
theorem Kp(a b:ByteArray):fS a b=true\/a=b\/fS b a=true:=by
  have h:=tK a.toList b.toList;unfold fS;cases h1:Op.bytesLess a.toList b.toList with
  | true=>left;rfl
  | false =>
    rw [h1,xJ,mA] at h;cases h2:Op.bytesLess b.toList a.toList with
    | true=>right;right;rfl
    | false=>rw [h2] at h;right;left;simpa using h
theorem vL (h:fS a b=true):a≠b:=by rintro rfl;rw [La] at h;cases h
theorem Zo (h:fS a b=false)(hn:a≠b):fS b a=true:=by
  rcases Kp a b with h1 | h1 | h1
  . rw [h1] at h;cases h
  . exact absurd h1 hn
  exact h1
def Cq(a b:ByteArray):Int:=if fS a b=true then -1 else if fS b a=true then 1 else 0
theorem Az(a b:ByteArray):Cq a b<0↔fS a b=true:=by
  unfold Cq;repeat' split
  all_goals simp_all
theorem Sf(a b:ByteArray):0<=Cq a b↔fS a b=false:=by
  have:=Az a b;rw [<- yE,<- this];omega
theorem Fq(a b:ByteArray):Cq a b=0↔a=b:=by
  unfold Cq
  repeat' split
  . rename_i h;simp;exact vL h
  . rename_i h;simp;exact fun e=>vL h e.symm
  rename_i h1 h2;simp only [true_iff];rcases Kp a b with h | h | h
  . exact absurd h h1
  . exact h
  exact absurd h h2
section
variable {α:Type} (nm:α->ByteArray)
def gH:List α->ByteArray->Nat
  | [],_=>0
  | q::l,c=>if fS (nm q) c=true then gH l c+1 else 0
def fnd:List α->ByteArray->Bool
  | [],_=>false
  | q::l,c=>if fS (nm q) c=true then fnd l c else decide (nm q=c)
def nD:List α->α->List α
  | [],p=> [p]
  | q::l,p=>if fS (nm q) (nm p)=true then q::nD l p else if nm q=nm p then p::l else p::q::l
def eC(l:List α):Prop:=l.Pairwise fun a b=>fS (nm a) (nm b)=true
def oX(l:List α):List α:=l.foldl (nD nm) []
def sE(l:List α)(c:ByteArray):Bool:=l.any fun p=>decide (nm p=c)
theorem Ii(l:List α)(c:ByteArray):gH nm l c<=l.length:=by
  induction l with
  | nil=>exact bD _
  | cons q l ih=>unfold gH;split <;> simp <;> omega
theorem Hh:∀(l:List α) (c:ByteArray) (i:Nat),i<=l.length->(∀j (h:j<l.length),j<i->fS (nm l[j]) c=true)->(∀h:i<l.length,fS (nm l[i]) c=false)->gH nm l c=i
  | [],c,i,hi,_,_=>by simp at hi;subst hi;rfl
  | q :: l, c, 0, _, _, h2 => by
    have:=h2 (by simp);simp only [xK] at this;simp [gH,this]
  | q :: l, c, i + 1, hi, h1, h2 => by
    have h0:=h1 0 (by simp) (by omega);simp only [xK] at h0;have:=Hh l c i (by simpa using hi) (fun j h hj=>h1 (j+1) (by simpa using h) (by omega)) (fun h=>h2 (by simpa using h));simp [gH,h0,this]
theorem Om:∀(l:List α) (c:ByteArray) (h:gH nm l c<l.length),fnd nm l c=decide (nm l[gH nm l c]=c)
  | [],c,h=>by simp at h
  | q :: l, c, h => by
    by_cases e:fS (nm q) c=true
    . have hp : gH nm (q :: l) c = gH nm l c + 1 := by simp [gH, e]
      have h':gH nm l c<l.length:=by rw [hp] at h;simpa using h
      have:=Om l c h';simp only [fnd,e,aJ,this,hp,zC]
    have hp:gH nm (q::l) c=0:=by simp [gH,e]
    simp only [fnd,e,aZ,hp,xK];rfl
theorem Ap:∀(l:List α) (c:ByteArray),gH nm l c=l.length->fnd nm l c=false
  | [],c,_=>rfl
  | q :: l, c, h => by
    by_cases e:fS (nm q) c=true
    . have hp : gH nm (q :: l) c = gH nm l c + 1 := by simp [gH, e]
      simp only [fnd,e,aJ];exact Ap l c (by rw [hp] at h;simpa using h)
    have hp:gH nm (q::l) c=0:=by simp [gH,e]
    rw [hp] at h;simp at h
theorem Is {l:List α} (h:fnd nm l c=true):gH nm l c<l.length:=by
  have:=Ii nm l c;rcases nY (gH nm l c) l.length with h1 | h1
  . exact h1
  have:=Ap nm l c (by omega);rw [h] at this;cases this
theorem vZ:∀(l:List α) (p:α),nD nm l p=if fnd nm l (nm p)=true then l.set (gH nm l (nm p)) p else oE l (gH nm l (nm p)) p
  | [],p=>rfl
  | q :: l, p => by
    by_cases e:fS (nm q) (nm p)=true
    . have ih := vZ l p
      simp only [nD,fnd,gH,e,aJ,ih];split <;> simp [oE]
    simp only [nD,fnd,gH,e,aZ];by_cases e2:nm q=nm p <;> simp [e2,oE]
theorem aD7(l:List α)(p:α):(nD nm l p).length<=l.length+1:=by
  induction l with
  | nil=>simp [nD]
  | cons q l ih => unfold nD; repeat' split
                   all_goals simp
                   all_goals omega
theorem aBq {l:List α} {p x:α} (h:x∈nD nm l p):x=p\/x∈l:=by
  induction l with
  | nil=>simp [nD] at h;exact .inl h
  | cons q l ih =>
    unfold nD at h;split at h
    . rcases fQ.1 h with h | h
      . exact .inr (by simp [h])
      rcases ih h with h | h
      . exact .inl h
      exact .inr (by simp [h])
    split at h
    . rcases fQ.1 h with h | h
      . exact .inl h
      exact .inr (by simp [h])
    rcases fQ.1 h with h | h
    . exact .inl h
    exact .inr h
theorem Iz {l:List α} (h:eC nm l)(p:α):eC nm (nD nm l p):=by
  induction l with
  | nil=>simp [nD,eC]
  | cons q l ih =>
    have h':=qE.1 h;unfold nD;split
    . rename_i e
      refine qE.2 ⟨fun x hx=>?_,ih h'.2⟩;rcases aBq nm hx with rfl | hx
      . exact e
      exact h'.1 x hx
    rename_i e;split
    . rename_i e2
      exact qE.2 ⟨fun x hx=>by rw [<- e2];exact h'.1 x hx,h'.2⟩
    rename_i e2;have e3:=Zo (by simpa using e) e2;refine qE.2 ⟨fun x hx=>?_,h⟩;rcases fQ.1 hx with rfl | hx
    . exact e3
    exact uO e3 (h'.1 x hx)
theorem wJ(l:List α)(p:α):oX nm (l++ [p])=nD nm (oX nm l) p:=by simp [oX,jD]
theorem Ay(l:List α)(k:Nat)(h:k<l.length):oX nm (l.take (k+1))=nD nm (oX nm (l.take k)) l[k]:=by rw [bM l k h,wJ]
theorem jV(l:List α):eC nm (oX nm l):=by
  induction l using wF with
  | h0=>simp [oX,eC]
  | h1 l x ih=>rw [wJ];exact Iz nm ih x
theorem lZ(l:List α):(oX nm l).length<=l.length:=by
  induction l using wF with
  | h0=>simp [oX]
  | h1 l x ih=>rw [wJ];have:=aD7 nm (oX nm l) x;simp;omega
theorem Vz {l:List α} {p:α} (h:∀x∈l,fS (nm x) (nm p)=true):nD nm l p=l++ [p]:=by
  induction l with
  | nil=>rfl
  | cons q l ih =>
    have:=h q (by simp);simp only [nD,this,aJ,aO];rw [ih fun x hx=>h x (by simp [hx])]
theorem qP {l:List α} (h:eC nm l):oX nm l=l:=by
  induction l using wF with
  | h0=>rfl
  | h1 l x ih =>
    have h':=List.pairwise_append.1 h;rw [wJ,ih h'.1,Vz nm fun y hy=>h'.2.2 y hy x (by simp)]
theorem As {l:List α} (h:eC nm l)(c:ByteArray):fnd nm l c=sE nm l c:=by
  induction l with
  | nil=>rfl
  | cons q l ih =>
    have h':=qE.1 h;unfold fnd sE;simp only [List.any_cons];split
    . rename_i e
      rw [ih h'.2];have:¬nm q=c:=vL e;simp [this,sE]
    rename_i e;have:(l.any fun p=>decide (nm p=c))=false:=by
      rw [List.any_eq_false];intro x hx;simp only [jB];rintro rfl;have:=h'.1 x hx;exact e this
    rw [this,tH]
theorem aHk {l:List α} {m:Nat} (hs:eC nm l)(hm:m<l.length)(h:fS (nm l[m]) c=true):∀j (h:j<l.length),j<m+1->fS (nm l[j]) c=true:=fun j hj hjm=>by
  rcases nY j m with h1 | h1
  . exact uO (tV.1 hs j m hj hm h1) h
  obtain rfl:j=m:=by omega
  exact h
theorem aHh {l:List α} {m:Nat} (hs:eC nm l)(hm:m<l.length)(h:fS (nm l[m]) c=false):∀j (h:j<l.length),m<=j->fS (nm l[j]) c=false:=fun j hj hjm=>by
  rcases nY m j with h1 | h1
  . have := tV.1 hs m j hm hj h1
    cases e:fS (nm l[j]) c with
    | false=>rfl
    | true=>rw [uO this e] at h;cases h
  obtain rfl:j=m:=by omega
  exact h
end
end Go.Proofs.YtbdjepeabjangaaGreat
