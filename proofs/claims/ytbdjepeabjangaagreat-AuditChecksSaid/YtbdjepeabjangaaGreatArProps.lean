import Derived.Test.YtbdjepeabjangaaGreatWkL1
set_option linter.all false
set_option maxRecDepth 20000
set_option maxHeartbeats 8000000
open Go.Proofs.Tryz
namespace Go.Proofs.YtbdjepeabjangaaGreat
open Go Go.Vm
attribute [simp] cA
variable {a b c:ByteArray}
theorem Tb(l:List AT):(l.map cH).flatMap D.cells=l.flatMap cA:=dI (fun _=>rfl) l
theorem aMb(l:List AT):∀d∈l.map cH,d.ncells=2/\d.arr=true:=by
  intro d hd;obtain⟨a,_,rfl⟩:=bW.1 hd;exact⟨rfl,rfl⟩
@[simp high] theorem aTj(l:List AT):(l.flatMap cA).length=l.length * 2:=dM (f:=cA) (fun _=>rfl) l
@[simp high] theorem aVg(l:List AT)(rest:List D)(i:Nat)(h:i<l.length):uH true 2 ((l.flatMap cA++rest).drop (i * 2))=some (.agg (cA l[i])):=Wg (f:=cA) (fun _=>rfl) l rest i h
@[simp high] theorem aU9(l:List AT)(rest:List D)(i:Nat)(x:AT)(h:i<l.length):dK (l.flatMap cA++rest) (i * 2) [D.str x.name,D.str x.value]=(l.set i x).flatMap cA++rest:=Ck (f:=cA) (fun _=>rfl) l rest i x h
theorem jL(p:AT->Bool)(l:List AT)(j:Nat)(rest:List D):dK ((ar p l j).flatMap cA++rest) ((kp p l j).length * 2) (gY #[.string ⟨#[]⟩,.string ⟨#[]⟩] (l.length - (kp p l j).length))=(kp p l j).flatMap cA++(gY #[.string ⟨#[]⟩,.string ⟨#[]⟩] (l.length - (kp p l j).length)++rest):=by
  have hz:(gY #[.string ⟨#[]⟩,.string ⟨#[]⟩] (l.length - (kp p l j).length)).length=((l.drop (kp p l j).length).flatMap cA).length:=by
    rw [dM (f:=cA) (k:=2) (fun _=>rfl),iF (k:=2) rfl,dO]
  have hk:((kp p l j).flatMap cA).length=(kp p l j).length * 2:=dM (f:=cA) (fun _=>rfl) _;unfold ar;rw [gB,bU,<- hk,lQ _ _ _ _ hz]
theorem Sm(l:List AT)(p:AT->Bool)(f:FuncId)(caps:List D)(m cap:Nat)(rest:List D)(σ:List (List D))(hl:l.length<=9223372036854775807)(hσ:σ[m]?=some (l.flatMap cA++rest))(hcp:∀d∈caps,d.plain=true)(hcs:caps.map D.strip=caps)(hp:∀x τ,Ct prog f (cH x::caps) τ (fun r τ'=>r= .bool (p x)/\τ'=τ)):Ct prog 165 [.slo m 0 l.length cap,.clo (.func f) [] caps] σ (fun r σ'=>r= .int (wG p l)/\σ'=σ):=by
  refine zf func165 ?_;refine zr ⟨[],[],[],[7,14],[]⟩ fun _ _ Z=>?_;simp(disch:=omega)[hσ,hcs];apply Z;apply aF;refine zr ⟨[],[],[],[7,14],[]⟩ fun _ _ Z=>?_;simp(disch:=omega)[hσ,hcs];and_intros<;>(try omega);apply Z;apply aN;refine zk [0,1,4,7,8] ?_;refine bA (fun(k:Nat)=> [(8,.d (.v (.int .i64 (k:Int))))]) [4,5,8,9,10,11,12,13,14,15,16,17,18] (fun(k:Nat)=>k<=l.length/\∀x∈l.take k,p x=false) (fun(k:Nat)=>l.length - k) (0) (by simp <;> rfl) ?_ ?_ ?_
  . simp
  . simp
  rintro k ⟨hk,hh⟩;simp only [aM,aK];refine zr ⟨[],[],[],[7,14],[]⟩ fun _ _ Z=>?_;simp(disch:=omega)[hσ,hcs];apply Z;apply aF;refine zI ?_ ?_<;>intro c1<;>try simp at c1
  . apply kL
    refine zr ⟨[],[],[],[7,14],[]⟩ fun _ _ Z=>?_;simp(disch:=omega)[hσ,hcs];apply Z;refine zr ⟨[],[],[],[7,14],[]⟩ fun _ _ Z=>?_;refine zs 5 fun _ Y=>?_;simp(disch:=omega)[hσ,hcs];and_intros<;>(try omega);apply Y;refine aG fun _ Y=>?_;simp(disch:=omega)[hσ,hcs];refine⟨hcp,?_⟩;refine dX (hp l[k] _) ?_;apply Y;simp only [fS];apply Z;refine zI ?_ ?_<;>intro c2<;>try simp at c2
    . refine zk [0,1,5,7,8] ?_
      refine zr ⟨[],[],[],[7,14],[]⟩ fun _ _ Z=>?_;simp(disch:=omega)[hσ,hcs];apply Z;apply aE;simp [aP];exact(Dm c1 hh c2).symm
    apply lP;refine zk [0,1,7,8] ?_;refine zt ⟨[],[],[],[7,14],[]⟩ fun _ _ Z=>?_;simp(disch:=omega)[hσ,hcs];and_intros<;>(try omega);apply Z;refine zq (k+1) ?_ ?_ ?_
    . exact⟨by omega,tH (by omega) hh c2⟩
    . try dsimp only
      omega
    simp(disch:=omega)[hσ,hcs]
  apply zE;refine zr ⟨[],[],[],[7,14],[]⟩ fun _ _ Z=>?_;simp(disch:=omega)[hσ,hcs];apply Z;apply aE;simp [aP];rw [bZ (by omega)] at hh;exact(vK hh).symm
@[simp] abbrev q0_1:Cfg:=⟨[4,13],[],[],[18,24,33,38,41],[]⟩
theorem Od (l : List AT) (p : AT -> Bool) (f : FuncId) (caps : List D) (σ : List (List D)) (hl : l.length <= 1000000) (hcp : ∀ d ∈ caps, d.plain = true) (hcs : caps.map D.strip = caps) (hp : ∀ x τ, Ct prog f (cH x :: caps) τ (fun r τ' => r = .bool (p x) /\ τ' = τ)) : Ct prog 152 [.xs 2 (l.map cH), .clo (.func f) [] caps] σ (fun r σ' => r = .xs 2 ((l.filter fun x => !p x).map cH) /\ σ' = σ ++ [[]]) := by
  refine zf func152 ?_;refine rE 0 2 rfl (by decide) fun cap rest hcap hcm hrest hk0 hes=>?_;simp only [cG] at hcap hrest |-;rw [Tb];refine zr q0_1 fun _ _ Z=>?_;simp(disch:=first|omega|assumption)[hcs,jL];apply Z;refine zr q0_1 fun _ _ Z=>?_;refine zs 2 fun _ Y=>?_;simp(disch:=first|omega|assumption)[hcs,jL];apply Y;refine aG fun _ Y=>?_;simp(disch:=first|omega|assumption)[hcs,jL];refine dX (Sm l p f caps σ.length cap rest _ (by omega) (by simp) hcp hcs hp) ?_;apply Y;simp(disch:=first|omega|assumption)[hcs,jL];apply Z;apply aF;refine zr q0_1 fun _ _ Z=>?_;simp(disch:=first|omega|assumption)[hcs,jL];apply Z;refine zI ?_ ?_<;>intro c1<;>try simp at c1
  . refine zr q0_1 fun _ _ Z=>?_
    simp(disch:=first|omega|assumption)[hcs,jL];apply Z;refine eY 4 2 σ.length l.length cap (l.map cH) (l.flatMap cA++rest) (by simp <;> rfl) (by simp) (by omega) (by simp [hrest,iF (z:=#[.string ⟨#[]⟩,.string ⟨#[]⟩]) (k:=2) rfl];omega) (by simp) (aMb _) (by rw [Tb];exact cU _ _) ?_;simp only [qH];apply aE;simp [aP];rcases xK p l with ⟨_,h⟩ | ⟨k,h,_⟩
    . rw [h]
    omega
  obtain⟨k0,e0,e1,e2,e3⟩:=Et c1;rw [e0];apply zA;apply aF;refine zr q0_1 fun _ _ Z=>?_;simp(disch:=first|omega|assumption)[hcs,jL];and_intros<;>try first|omega|exact rfl
  apply Z;apply aN;refine zk [0,1,4,5,6] ?_;refine eO (fun(j:Nat)=> [(5,.d (.v (.int .i64 ((kp p l j).length:Int)))),(6,.d (.v (.int .i64 (j:Int))))]) (fun(j:Nat)=> []) (fun(j:Nat)=> [(σ.length,(ar p l j).flatMap cA++rest)]) [5,6,7,16,17,18,19,20,21,22,23,24,25,26,27,28,29,30,31,32,33,34,35] (fun(j:Nat)=>j<=l.length) (fun(j:Nat)=>l.length - j) (k0+1) (by simp <;> rfl) ?_ (by simp) (by simp [e1]) ?_ ?_
  . simp [e1,e2]
  . omega
  rintro j hj;simp only [aM,aK,dD,cJ,bK,bN];have hkl:=Po p l j hj;have hal:=Kb p l j;apply aF;refine zr q0_1 fun _ _ Z=>?_;simp(disch:=first|omega|assumption)[hcs,jL];and_intros<;>try first|omega|exact rfl
  apply Z;refine zI ?_ ?_<;>intro c2<;>try simp at c2
  . apply kL
    refine zr q0_1 fun _ _ Z=>?_;simp(disch:=first|omega|assumption)[hcs,jL];and_intros<;>try first|omega|exact rfl
    apply Z;refine zk [0,1,4,5,6,7] ?_;refine zr q0_1 fun _ _ Z=>?_;refine zs 2 fun _ Y=>?_;simp(disch:=first|omega|assumption)[hcs,jL];apply Y;refine aG fun _ Y=>?_;simp(disch:=first|omega|assumption)[hcs,jL];simp only [aCu p l j (by omega)];refine⟨hcp,?_⟩;refine dX (hp l[j] _) ?_;apply Y;simp(disch:=first|omega|assumption)[hcs,jL];apply Z;refine zI ?_ ?_<;>intro c3<;>try simp at c3
    . refine zr q0_1 fun _ _ Z=>?_
      simp(disch:=first|omega|assumption)[hcs,jL];and_intros<;>try first|omega|exact rfl
      apply Z;refine zk [0,1,4,5,6] ?_;refine zt q0_1 fun _ _ Z=>?_;simp(disch:=first|omega|assumption)[hcs,jL];and_intros<;>try first|omega|exact rfl
      apply Z;apply zB;refine zt q0_1 fun _ _ Z=>?_;simp(disch:=first|omega|assumption)[hcs,jL];and_intros<;>try first|omega|exact rfl
      apply Z;refine cQ (j+1) ?_ ?_ (aU rfl ?_ (by simp) (by first | (simp [<- (Cl p l j (by omega) c3).1];done) | (simp [(Cl p l j (by omega) c3).1];done)))
      . omega
      . try dsimp only
        omega
      simp(disch:=first|omega|assumption)[hcs,jL,(Cl p l j (by omega) c3).2]
    apply lP;refine zt q0_1 fun _ _ Z=>?_;simp(disch:=first|omega|assumption)[hcs,jL];and_intros<;>try first|omega|exact rfl
    apply Z;refine cQ (j+1) ?_ ?_ (aU rfl ?_ (by simp) (by simp [(xN p l j (by omega) c3).1]))
    . omega
    . try dsimp only
      omega
    simp(disch:=first|omega|assumption)[hcs,jL,(xN p l j (by omega) c3).2]
  apply zE;refine zr q0_1 fun _ _ Z=>?_;simp(disch:=first|omega|assumption)[hcs,jL];and_intros<;>try first|omega|exact rfl
  apply Z;refine zk [0,4,5] ?_;refine zr q0_1 fun _ _ Z=>?_;simp(disch:=first|omega|assumption)[hcs,jL];and_intros<;>try first|omega|exact rfl
  apply Z;refine eY 4 2 σ.length (kp p l j).length cap ((kp p l j).map cH) ((kp p l j).flatMap cA++(gY #[.string ⟨#[]⟩,.string ⟨#[]⟩] (l.length - (kp p l j).length)++rest)) (by simp <;> rfl) (by simp) (by omega) (by simp [hrest,iF (z:=#[.string ⟨#[]⟩,.string ⟨#[]⟩]) (k:=2) rfl];omega) (by simp) (aMb _) (by rw [Tb];exact cU _ _) ?_;simp only [qH];apply aE;simp [aP];unfold kp;rw [bZ (by omega)]
theorem Uo(l:List AT)(p:AT->Bool)(f:FuncId)(caps:List D)(σ:List (List D))(hl:l.length<=1000000)(hcp:∀d∈caps,d.plain=true)(hcs:caps.map D.strip=caps)(hp:∀x τ,Ct prog f (cH x::caps) τ (fun r τ'=>r= .bool (p x)/\τ'=τ)):
    Ct prog 152 [.xs 2 (l.map cH),.clo (.func f) [] caps] σ (fun r σ'=>r= .xs 2 ((l.filter fun x=> !p x).map cH)/\σ'=σ):=
  (Od l p f caps σ hl hcp hcs hp).trim fun r σ' ⟨hr,hs⟩=>⟨σ, [[]],hs,rfl,by rw [hr];exact aM9 _ _,fun n cs h=> .inl h,hr,rfl⟩
theorem Au(l:List AT)(σ:List (List D))(hl:l.length<=1000000):Ct prog 113 [.sl false (l.map cH)] σ (fun r σ'=>r= .sl true (l.map cH)/\σ'=σ):=by
  refine zf func113 ?_;refine zr ⟨[2],[],[],[],[]⟩ fun _ _ Z=>?_;simp;apply Z;apply aF;refine zr ⟨[2],[],[],[],[]⟩ fun _ _ Z=>?_;refine zs 1 fun _ Y=>?_;simp;apply Y;refine aG fun _ Y=>?_;simp;refine⟨Y _ ?_,fun e1=>Y _ ?_⟩
  . simp only [fS]
    apply Z;refine aY (t:=false) (by simp) (fun h=>by cases h) (fun _=>?_);apply zA;refine zr ⟨[2],[],[],[],[]⟩ fun _ _ Z=>?_;simp;and_intros<;>(try omega);apply Z;apply aE;simp [aP]
  simp only [fS];apply Z;refine aY (t:=true) (by simp) (fun _=>?_) (fun h=>by cases h);refine zr ⟨[2],[],[],[],[]⟩ fun _ _ Z=>?_;simp;apply Z;apply aE;simp [aP,e1]
attribute [simp] cP
theorem Rk(l:List PI):(l.map bY).flatMap D.cells=l.flatMap cP:=dI (fun _=>rfl) l
theorem aMr(l:List PI):∀d∈l.map bY,d.ncells=2/\d.arr=true:=by
  intro d hd;obtain⟨a,_,rfl⟩:=bW.1 hd;exact⟨rfl,rfl⟩
@[simp high] theorem aTt(l:List PI):(l.flatMap cP).length=l.length * 2:=dM (f:=cP) (fun _=>rfl) l
@[simp high] theorem aUt(l:List PI)(rest:List D)(i:Nat)(h:i<l.length):uH true 2 ((l.flatMap cP++rest).drop (i * 2))=some (.agg (cP l[i])):=Wg (f:=cP) (fun _=>rfl) l rest i h
@[simp high] theorem aUx(l:List PI)(rest:List D)(i:Nat)(x:PI)(h:i<l.length):dK (l.flatMap cP++rest) (i * 2) [D.str x.name,D.int x.value]=(l.set i x).flatMap cP++rest:=Ck (f:=cP) (fun _=>rfl) l rest i x h
theorem jM(p:PI->Bool)(l:List PI)(j:Nat)(rest:List D):dK ((ar p l j).flatMap cP++rest) ((kp p l j).length * 2) (gY #[.string ⟨#[]⟩,.int .i64 0] (l.length - (kp p l j).length))=(kp p l j).flatMap cP++(gY #[.string ⟨#[]⟩,.int .i64 0] (l.length - (kp p l j).length)++rest):=by
  have hz:(gY #[.string ⟨#[]⟩,.int .i64 0] (l.length - (kp p l j).length)).length=((l.drop (kp p l j).length).flatMap cP).length:=by
    rw [dM (f:=cP) (k:=2) (fun _=>rfl),iF (k:=2) rfl,dO]
  have hk:((kp p l j).flatMap cP).length=(kp p l j).length * 2:=dM (f:=cP) (fun _=>rfl) _;unfold ar;rw [gB,bU,<- hk,lQ _ _ _ _ hz]
theorem Rm(l:List PI)(p:PI->Bool)(f:FuncId)(caps:List D)(m cap:Nat)(rest:List D)(σ:List (List D))(hl:l.length<=9223372036854775807)(hσ:σ[m]?=some (l.flatMap cP++rest))(hcp:∀d∈caps,d.plain=true)(hcs:caps.map D.strip=caps)(hp:∀x τ,Ct prog f (bY x::caps) τ (fun r τ'=>r= .bool (p x)/\τ'=τ)):Ct prog 166 [.slo m 0 l.length cap,.clo (.func f) [] caps] σ (fun r σ'=>r= .int (wG p l)/\σ'=σ):=by
  refine zf func166 ?_;refine zr ⟨[],[],[],[7,14],[]⟩ fun _ _ Z=>?_;simp(disch:=omega)[hσ,hcs];apply Z;apply aF;refine zr ⟨[],[],[],[7,14],[]⟩ fun _ _ Z=>?_;simp(disch:=omega)[hσ,hcs];and_intros<;>(try omega);apply Z;apply aN;refine zk [0,1,4,7,8] ?_;refine bA (fun(k:Nat)=> [(8,.d (.v (.int .i64 (k:Int))))]) [4,5,8,9,10,11,12,13,14,15,16,17,18] (fun(k:Nat)=>k<=l.length/\∀x∈l.take k,p x=false) (fun(k:Nat)=>l.length - k) (0) (by simp <;> rfl) ?_ ?_ ?_
  . simp
  . simp
  rintro k ⟨hk,hh⟩;simp only [aM,aK];refine zr ⟨[],[],[],[7,14],[]⟩ fun _ _ Z=>?_;simp(disch:=omega)[hσ,hcs];apply Z;apply aF;refine zI ?_ ?_<;>intro c1<;>try simp at c1
  . apply kL
    refine zr ⟨[],[],[],[7,14],[]⟩ fun _ _ Z=>?_;simp(disch:=omega)[hσ,hcs];apply Z;refine zr ⟨[],[],[],[7,14],[]⟩ fun _ _ Z=>?_;refine zs 5 fun _ Y=>?_;simp(disch:=omega)[hσ,hcs];and_intros<;>(try omega);apply Y;refine aG fun _ Y=>?_;simp(disch:=omega)[hσ,hcs];refine⟨hcp,?_⟩;refine dX (hp l[k] _) ?_;apply Y;simp only [fS];apply Z;refine zI ?_ ?_<;>intro c2<;>try simp at c2
    . refine zk [0,1,5,7,8] ?_
      refine zr ⟨[],[],[],[7,14],[]⟩ fun _ _ Z=>?_;simp(disch:=omega)[hσ,hcs];apply Z;apply aE;simp [aP];exact(Dm c1 hh c2).symm
    apply lP;refine zk [0,1,7,8] ?_;refine zt ⟨[],[],[],[7,14],[]⟩ fun _ _ Z=>?_;simp(disch:=omega)[hσ,hcs];and_intros<;>(try omega);apply Z;refine zq (k+1) ?_ ?_ ?_
    . exact⟨by omega,tH (by omega) hh c2⟩
    . try dsimp only
      omega
    simp(disch:=omega)[hσ,hcs]
  apply zE;refine zr ⟨[],[],[],[7,14],[]⟩ fun _ _ Z=>?_;simp(disch:=omega)[hσ,hcs];apply Z;apply aE;simp [aP];rw [bZ (by omega)] at hh;exact(vK hh).symm
theorem Pb (l : List PI) (p : PI -> Bool) (f : FuncId) (caps : List D) (σ : List (List D)) (hl : l.length <= 1000000) (hcp : ∀ d ∈ caps, d.plain = true) (hcs : caps.map D.strip = caps) (hp : ∀ x τ, Ct prog f (bY x :: caps) τ (fun r τ' => r = .bool (p x) /\ τ' = τ)) : Ct prog 153 [.xs 2 (l.map bY), .clo (.func f) [] caps] σ (fun r σ' => r = .xs 2 ((l.filter fun x => !p x).map bY) /\ σ' = σ ++ [[]]) := by
  refine zf func153 ?_;refine rE 0 2 rfl (by decide) fun cap rest hcap hcm hrest hk0 hes=>?_;simp only [cG] at hcap hrest |-;rw [Rk];refine zr q0_1 fun _ _ Z=>?_;simp(disch:=first|omega|assumption)[hcs,jM];apply Z;refine zr q0_1 fun _ _ Z=>?_;refine zs 2 fun _ Y=>?_;simp(disch:=first|omega|assumption)[hcs,jM];apply Y;refine aG fun _ Y=>?_;simp(disch:=first|omega|assumption)[hcs,jM];refine dX (Rm l p f caps σ.length cap rest _ (by omega) (by simp) hcp hcs hp) ?_;apply Y;simp(disch:=first|omega|assumption)[hcs,jM];apply Z;apply aF;refine zr q0_1 fun _ _ Z=>?_;simp(disch:=first|omega|assumption)[hcs,jM];apply Z;refine zI ?_ ?_<;>intro c1<;>try simp at c1
  . refine zr q0_1 fun _ _ Z=>?_
    simp(disch:=first|omega|assumption)[hcs,jM];apply Z;refine eY 4 2 σ.length l.length cap (l.map bY) (l.flatMap cP++rest) (by simp <;> rfl) (by simp) (by omega) (by simp [hrest,iF (z:=#[.string ⟨#[]⟩,.int .i64 0]) (k:=2) rfl];omega) (by simp) (aMr _) (by rw [Rk];exact cU _ _) ?_;simp only [qH];apply aE;simp [aP];rcases xK p l with ⟨_,h⟩ | ⟨k,h,_⟩
    . rw [h]
    omega
  obtain⟨k0,e0,e1,e2,e3⟩:=Et c1;rw [e0];apply zA;apply aF;refine zr q0_1 fun _ _ Z=>?_;simp(disch:=first|omega|assumption)[hcs,jM];and_intros<;>try first|omega|exact rfl
  apply Z;apply aN;refine zk [0,1,4,5,6] ?_;refine eO (fun(j:Nat)=> [(5,.d (.v (.int .i64 ((kp p l j).length:Int)))),(6,.d (.v (.int .i64 (j:Int))))]) (fun(j:Nat)=> []) (fun(j:Nat)=> [(σ.length,(ar p l j).flatMap cP++rest)]) [5,6,7,16,17,18,19,20,21,22,23,24,25,26,27,28,29,30,31,32,33,34,35] (fun(j:Nat)=>j<=l.length) (fun(j:Nat)=>l.length - j) (k0+1) (by simp <;> rfl) ?_ (by simp) (by simp [e1]) ?_ ?_
  . simp [e1,e2]
  . omega
  rintro j hj;simp only [aM,aK,dD,cJ,bK,bN];have hkl:=Po p l j hj;have hal:=Kb p l j;apply aF;refine zr q0_1 fun _ _ Z=>?_;simp(disch:=first|omega|assumption)[hcs,jM];and_intros<;>try first|omega|exact rfl
  apply Z;refine zI ?_ ?_<;>intro c2<;>try simp at c2
  . apply kL
    refine zr q0_1 fun _ _ Z=>?_;simp(disch:=first|omega|assumption)[hcs,jM];and_intros<;>try first|omega|exact rfl
    apply Z;refine zk [0,1,4,5,6,7] ?_;refine zr q0_1 fun _ _ Z=>?_;refine zs 2 fun _ Y=>?_;simp(disch:=first|omega|assumption)[hcs,jM];apply Y;refine aG fun _ Y=>?_;simp(disch:=first|omega|assumption)[hcs,jM];simp only [aCu p l j (by omega)];refine⟨hcp,?_⟩;refine dX (hp l[j] _) ?_;apply Y;simp(disch:=first|omega|assumption)[hcs,jM];apply Z;refine zI ?_ ?_<;>intro c3<;>try simp at c3
    . refine zr q0_1 fun _ _ Z=>?_
      simp(disch:=first|omega|assumption)[hcs,jM];and_intros<;>try first|omega|exact rfl
      apply Z;refine zk [0,1,4,5,6] ?_;refine zt q0_1 fun _ _ Z=>?_;simp(disch:=first|omega|assumption)[hcs,jM];and_intros<;>try first|omega|exact rfl
      apply Z;apply zB;refine zt q0_1 fun _ _ Z=>?_;simp(disch:=first|omega|assumption)[hcs,jM];and_intros<;>try first|omega|exact rfl
      apply Z;refine cQ (j+1) ?_ ?_ (aU rfl ?_ (by simp) (by first | (simp [<- (Cl p l j (by omega) c3).1];done) | (simp [(Cl p l j (by omega) c3).1];done)))
      . omega
      . try dsimp only
        omega
      simp(disch:=first|omega|assumption)[hcs,jM,(Cl p l j (by omega) c3).2]
    apply lP;refine zt q0_1 fun _ _ Z=>?_;simp(disch:=first|omega|assumption)[hcs,jM];and_intros<;>try first|omega|exact rfl
    apply Z;refine cQ (j+1) ?_ ?_ (aU rfl ?_ (by simp) (by simp [(xN p l j (by omega) c3).1]))
    . omega
    . try dsimp only
      omega
    simp(disch:=first|omega|assumption)[hcs,jM,(xN p l j (by omega) c3).2]
  apply zE;refine zr q0_1 fun _ _ Z=>?_;simp(disch:=first|omega|assumption)[hcs,jM];and_intros<;>try first|omega|exact rfl
  apply Z;refine zk [0,4,5] ?_;refine zr q0_1 fun _ _ Z=>?_;simp(disch:=first|omega|assumption)[hcs,jM];and_intros<;>try first|omega|exact rfl
  apply Z;refine eY 4 2 σ.length (kp p l j).length cap ((kp p l j).map bY) ((kp p l j).flatMap cP++(gY #[.string ⟨#[]⟩,.int .i64 0] (l.length - (kp p l j).length)++rest)) (by simp <;> rfl) (by simp) (by omega) (by simp [hrest,iF (z:=#[.string ⟨#[]⟩,.int .i64 0]) (k:=2) rfl];omega) (by simp) (aMr _) (by rw [Rk];exact cU _ _) ?_;simp only [qH];apply aE;simp [aP];unfold kp;rw [bZ (by omega)]
theorem Qs(l:List PI)(p:PI->Bool)(f:FuncId)(caps:List D)(σ:List (List D))(hl:l.length<=1000000)(hcp:∀d∈caps,d.plain=true)(hcs:caps.map D.strip=caps)(hp:∀x τ,Ct prog f (bY x::caps) τ (fun r τ'=>r= .bool (p x)/\τ'=τ)):
    Ct prog 153 [.xs 2 (l.map bY),.clo (.func f) [] caps] σ (fun r σ'=>r= .xs 2 ((l.filter fun x=> !p x).map bY)/\σ'=σ):=
  (Pb l p f caps σ hl hcp hcs hp).trim fun r σ' ⟨hr,hs⟩=>⟨σ, [[]],hs,rfl,by rw [hr];exact aN7 _ _,fun n cs h=> .inl h,hr,rfl⟩
theorem At(l:List PI)(σ:List (List D))(hl:l.length<=1000000):Ct prog 114 [.sl false (l.map bY)] σ (fun r σ'=>r= .sl true (l.map bY)/\σ'=σ):=by
  refine zf func114 ?_;refine zr ⟨[2],[],[],[],[]⟩ fun _ _ Z=>?_;simp;apply Z;apply aF;refine zr ⟨[2],[],[],[],[]⟩ fun _ _ Z=>?_;refine zs 1 fun _ Y=>?_;simp;apply Y;refine aG fun _ Y=>?_;simp;refine⟨Y _ ?_,fun e1=>Y _ ?_⟩
  . simp only [fS]
    apply Z;refine aY (t:=false) (by simp) (fun h=>by cases h) (fun _=>?_);apply zA;refine zr ⟨[2],[],[],[],[]⟩ fun _ _ Z=>?_;simp;and_intros<;>(try omega);apply Z;apply aE;simp [aP]
  simp only [fS];apply Z;refine aY (t:=true) (by simp) (fun _=>?_) (fun h=>by cases h);refine zr ⟨[2],[],[],[],[]⟩ fun _ _ Z=>?_;simp;apply Z;apply aE;simp [aP,e1]
def dW(a b:ByteArray):Bool:=Op.bytesLess a.toList b.toList
theorem Hq:∀a:List UInt8,Op.bytesLess a a=false
  | []=>rfl
  | a::x=>by simp [Op.bytesLess,Hq x]
theorem aQn {a b:UInt8} :a<b↔a.toNat<b.toNat:=Iff.rfl
theorem Ni:∀a b c:List UInt8,Op.bytesLess a b=true->Op.bytesLess b c=true->Op.bytesLess a c=true
  | [], [],_,h,_=>by simp [Op.bytesLess] at h
  | _::_, [],_,h,_=>by simp [Op.bytesLess] at h
  | [],_::_, [],_,h=>by simp [Op.bytesLess] at h
  | _::_,_::_, [],_,h=>by simp [Op.bytesLess] at h
  | [],_::_,_::_,_,_=>by simp [Op.bytesLess]
  | a :: x, b :: y, c :: z, h1, h2 => by
    simp only [Op.bytesLess,wC,fF,iS,vG,aQn] at *;rcases h1 with h1 | ⟨rfl,h1⟩
    . rcases h2 with h2 | ⟨rfl, h2⟩
      . left;omega
      left;exact h1
    rcases h2 with h2 | ⟨rfl,h2⟩
    . left;exact h2
    right;exact⟨rfl,Ni x y z h1 h2⟩
theorem nX(a:ByteArray):dW a a=false:=Hq _
theorem pV (h1:dW a b=true)(h2:dW b c=true):dW a c=true:=Ni _ _ _ h1 h2
theorem Qo(a b:ByteArray):dW a b=true\/a=b\/dW b a=true:=by
  have h:=uW a.toList b.toList;unfold dW;cases h1:Op.bytesLess a.toList b.toList with
  | true=>left;rfl
  | false =>
    rw [h1,Ac,nT] at h;cases h2:Op.bytesLess b.toList a.toList with
    | true=>right;right;rfl
    | false=>rw [h2] at h;right;left;simpa using h
theorem Rc (h:dW a b=true):dW b a=false:=by
  cases h2:dW b a with
  | false=>rfl
  | true=>have:=pV h h2;rw [nX] at this;cases this
theorem vR (h:dW a b=true):a≠b:=by rintro rfl;rw [nX] at h;cases h
theorem Pd (h:dW a b=false)(hn:a≠b):dW b a=true:=by
  rcases Qo a b with h1 | h1 | h1
  . rw [h1] at h;cases h
  . exact absurd h1 hn
  exact h1
def Gd(a b:ByteArray):Int:=if dW a b=true then -1 else if dW b a=true then 1 else 0
theorem Fa(a b:ByteArray):Gd a b<0↔dW a b=true:=by
  unfold Gd;repeat' split
  all_goals simp_all
theorem Uz(a b:ByteArray):0<=Gd a b↔dW a b=false:=by
  have:=Fa a b;rw [<- vH,<- this];omega
theorem Hs(a b:ByteArray):Gd a b=0↔a=b:=by
  unfold Gd
  repeat' split
  . rename_i h;simp;exact vR h
  . rename_i h;simp;exact fun e=>vR h e.symm
  rename_i h1 h2;simp only [true_iff];rcases Qo a b with h | h | h
  . exact absurd h h1
  . exact h
  exact absurd h h2
section
variable {α:Type} (nm:α->ByteArray)
def gR:List α->ByteArray->Nat
  | [],_=>0
  | q::l,c=>if dW (nm q) c=true then gR l c+1 else 0
def fnd:List α->ByteArray->Bool
  | [],_=>false
  | q::l,c=>if dW (nm q) c=true then fnd l c else decide (nm q=c)
def jK:List α->α->List α
  | [],p=> [p]
  | q::l,p=>if dW (nm q) (nm p)=true then q::jK l p else if nm q=nm p then p::l else p::q::l
def eE(l:List α):Prop:=l.Pairwise fun a b=>dW (nm a) (nm b)=true
def jD(l:List α):List α:=l.foldl (jK nm) []
def kM(l:List α)(c:ByteArray):Bool:=l.any fun p=>decide (nm p=c)
theorem Kq(l:List α)(c:ByteArray):gR nm l c<=l.length:=by
  induction l with
  | nil=>exact bG _
  | cons q l ih=>unfold gR;split <;> simp <;> omega
theorem Jw:∀(l:List α) (c:ByteArray) (i:Nat),i<=l.length->(∀j (h:j<l.length),j<i->dW (nm l[j]) c=true)->(∀h:i<l.length,dW (nm l[i]) c=false)->gR nm l c=i
  | [],c,i,hi,_,_=>by simp at hi;subst hi;rfl
  | q :: l, c, 0, _, _, h2 => by
    have:=h2 (by simp);simp only [Bt] at this;simp [gR,this]
  | q :: l, c, i + 1, hi, h1, h2 => by
    have h0:=h1 0 (by simp) (by omega);simp only [Bt] at h0;have:=Jw l c i (by simpa using hi) (fun j h hj=>h1 (j+1) (by simpa using h) (by omega)) (fun h=>h2 (by simpa using h));simp [gR,h0,this]
theorem Qz:∀(l:List α) (c:ByteArray) (h:gR nm l c<l.length),fnd nm l c=decide (nm l[gR nm l c]=c)
  | [],c,h=>by simp at h
  | q :: l, c, h => by
    by_cases e:dW (nm q) c=true
    . have hp : gR nm (q :: l) c = gR nm l c + 1 := by simp [gR, e]
      have h':gR nm l c<l.length:=by rw [hp] at h;simpa using h
      have:=Qz l c h';simp only [fnd,e,aO,this,hp,Ay]
    have hp:gR nm (q::l) c=0:=by simp [gR,e]
    simp only [fnd,e,bE,hp,Bt];rfl
theorem Dd:∀(l:List α) (c:ByteArray),gR nm l c=l.length->fnd nm l c=false
  | [],c,_=>rfl
  | q :: l, c, h => by
    by_cases e:dW (nm q) c=true
    . have hp : gR nm (q :: l) c = gR nm l c + 1 := by simp [gR, e]
      simp only [fnd,e,aO];exact Dd l c (by rw [hp] at h;simpa using h)
    have hp:gR nm (q::l) c=0:=by simp [gR,e]
    rw [hp] at h;simp at h
theorem Ll {l:List α} (h:fnd nm l c=true):gR nm l c<l.length:=by
  have:=Kq nm l c;rcases lS (gR nm l c) l.length with h1 | h1
  . exact h1
  have:=Dd nm l c (by omega);rw [h] at this;cases this
theorem xX:∀(l:List α) (p:α),jK nm l p=if fnd nm l (nm p)=true then l.set (gR nm l (nm p)) p else pR l (gR nm l (nm p)) p
  | [],p=>rfl
  | q :: l, p => by
    by_cases e:dW (nm q) (nm p)=true
    . have ih := xX l p
      simp only [jK,fnd,gR,e,aO,ih];split <;> simp [pR]
    simp only [jK,fnd,gR,e,bE];by_cases e2:nm q=nm p <;> simp [e2,pR]
theorem aFw(l:List α)(p:α):(jK nm l p).length<=l.length+1:=by
  induction l with
  | nil=>simp [jK]
  | cons q l ih => unfold jK; repeat' split
                   all_goals simp
                   all_goals omega
theorem Ng {l:List α} {p x:α} (h:x∈jK nm l p):x=p\/x∈l:=by
  induction l with
  | nil=>simp [jK] at h;exact .inl h
  | cons q l ih =>
    unfold jK at h;split at h
    . rcases gA.1 h with h | h
      . exact .inr (by simp [h])
      rcases ih h with h | h
      . exact .inl h
      exact .inr (by simp [h])
    split at h
    . rcases gA.1 h with h | h
      . exact .inl h
      exact .inr (by simp [h])
    rcases gA.1 h with h | h
    . exact .inl h
    exact .inr h
theorem Qp {l:List α} (h:eE nm l)(p:α):eE nm (jK nm l p):=by
  induction l with
  | nil=>simp [jK,eE]
  | cons q l ih =>
    have h':=rQ.1 h;unfold jK;split
    . rename_i e
      refine rQ.2 ⟨fun x hx=>?_,ih h'.2⟩;rcases Ng nm hx with rfl | hx
      . exact e
      exact h'.1 x hx
    rename_i e;split
    . rename_i e2
      exact rQ.2 ⟨fun x hx=>by rw [<- e2];exact h'.1 x hx,h'.2⟩
    rename_i e2;have e3:=Pd (by simpa using e) e2;refine rQ.2 ⟨fun x hx=>?_,h⟩;rcases gA.1 hx with rfl | hx
    . exact e3
    exact pV e3 (h'.1 x hx)
theorem zG(l:List α)(p:α):jD nm (l++ [p])=jK nm (jD nm l) p:=by simp [jD,kI]
theorem xW(l:List α)(k:Nat)(h:k<l.length):jD nm (l.take (k+1))=jK nm (jD nm (l.take k)) l[k]:=by rw [bB l k h,zG]
theorem jR(l:List α):eE nm (jD nm l):=by
  induction l using uE with
  | h0=>simp [jD,eE]
  | h1 l x ih=>rw [zG];exact Qp nm ih x
theorem lO(l:List α):(jD nm l).length<=l.length:=by
  induction l using uE with
  | h0=>simp [jD]
  | h1 l x ih=>rw [zG];have:=aFw nm (jD nm l) x;simp;omega
theorem Xn {l:List α} {p:α} (h:∀x∈l,dW (nm x) (nm p)=true):jK nm l p=l++ [p]:=by
  induction l with
  | nil=>rfl
  | cons q l ih =>
    have:=h q (by simp);simp only [jK,this,aO,aM];rw [ih fun x hx=>h x (by simp [hx])]
theorem sU {l:List α} (h:eE nm l):jD nm l=l:=by
  induction l using uE with
  | h0=>rfl
  | h1 l x ih =>
    have h':=zY.1 h;rw [zG,ih h'.1,Xn nm fun y hy=>h'.2.2 y hy x (by simp)]
theorem Dr {l:List α} (h:eE nm l)(c:ByteArray):fnd nm l c=kM nm l c:=by
  induction l with
  | nil=>rfl
  | cons q l ih =>
    have h':=rQ.1 h;unfold fnd kM;simp only [List.any_cons];split
    . rename_i e
      rw [ih h'.2];have:¬nm q=c:=vR e;simp [this,kM]
    rename_i e;have:(l.any fun p=>decide (nm p=c))=false:=by
      rw [Am];intro x hx;simp only [iS];rintro rfl;have:=h'.1 x hx;exact e this
    rw [this,wB]
theorem aLz {l:List α} {m:Nat} (hs:eE nm l)(hm:m<l.length)(h:dW (nm l[m]) c=true):∀j (h:j<l.length),j<m+1->dW (nm l[j]) c=true:=fun j hj hjm=>by
  rcases lS j m with h1 | h1
  . exact pV (rU.1 hs j m hj hm h1) h
  obtain rfl:j=m:=by omega
  exact h
theorem aL5 {l:List α} {m:Nat} (hs:eE nm l)(hm:m<l.length)(h:dW (nm l[m]) c=false):∀j (h:j<l.length),m<=j->dW (nm l[j]) c=false:=fun j hj hjm=>by
  rcases lS m j with h1 | h1
  . have := rU.1 hs m j hm hj h1
    cases e:dW (nm l[j]) c with
    | false=>rfl
    | true=>rw [pV this e] at h;cases h
  obtain rfl:j=m:=by omega
  exact h
def oE(out:List α)(c:ByteArray):Bool:=match out.getLast? with | none=>true | some q=>dW (nm q) c
def Gy(l out:List α):Option α:=((jD nm l).filter fun p=>oE nm out (nm p)).head?
theorem Qd {g:ByteArray->Bool} (hup:∀a b,dW a b=true->g a=true->g b=true):∀(l:List α) (p:α),(jK nm l p).filter (fun q=>g (nm q))=if g (nm p)=true then jK nm (l.filter fun q=>g (nm q)) p else l.filter fun q=>g (nm q)
  | [],p=>by by_cases e:g (nm p)=true <;> simp [jK,e]
  | q :: l, p => by
    have ih:=Qd hup l p;by_cases e:dW (nm q) (nm p)=true
    . simp only [jK, e, aO, kE, ih]
      by_cases e1:g (nm q)=true <;> by_cases e2:g (nm p)=true <;> simp [e1,e2,jK,e]
    by_cases e3:nm q=nm p
    . simp only [jK, e, e3, aO, bE, kE]
      by_cases e2:g (nm p)=true
      . simp [e2,jK,e3,nX]
      simp [e2,nX]
    simp only [jK,e,e3,bE,kE];have e4:=Pd (by simpa using e) e3;by_cases e2:g (nm p)=true
    . have e1 := hup _ _ e4 e2
      simp [e1,e2,jK,e,e3]
    by_cases e1:g (nm q)=true <;> simp [e1,e2,jK,e,e3]
theorem aGt(out:List α):∀a b,dW a b=true->oE nm out a=true->oE nm out b=true:=by
  intro a b h1 h2;unfold oE at *;split
  . rfl
  rename_i q hq;rw [hq] at h2;exact pV h2 h1
theorem Zw(l out:List α)(k:Nat)(h:k<l.length):Gy nm (l.take (k+1)) out=if oE nm out (nm l[k])=true then(match Gy nm (l.take k) out with | none=>some l[k] | some q=>if dW (nm q) (nm l[k])=true then some q else some l[k])else Gy nm (l.take k) out:=by
  unfold Gy;rw [xW nm l k h,Qd nm (aGt nm out)];split
  . cases (jD nm (l.take k)).filter fun p => oE nm out (nm p) with
    | nil=>rfl
    | cons q r =>
      simp only [jK,List.head?_cons]
      repeat' split
      all_goals rfl
  rfl
theorem aOg(l out:List α):Gy nm (l.take 0) out=none:=by simp [Gy,jD]
theorem aHb (l : List α) (k : Nat) (hk : k <= (jD nm l).length) : Gy nm l ((jD nm l).take k) = (jD nm l)[k]? := by
  have hs := jR nm l;unfold Gy;generalize jD nm l = S at *;have hd : (S.filter fun p => oE nm (S.take k) (nm p)) = S.drop k := by
    cases k with
    | zero=>simp [oE]
    | succ k =>
      have hl:(S.take (k+1)).getLast?=some S[k]:=by rw [bB S k (by omega),List.getLast?_concat]
      have hg:∀p,oE nm (S.take (k+1)) (nm p)=dW (nm S[k]) (nm p):=fun p=>by unfold oE;rw [hl]
      simp only [hg];have hsplit:∀q:α->Bool,S.filter q=(S.take (k+1)).filter q++(S.drop (k+1)).filter q:=fun q=>by rw [<- cT,fP]
      rw [hsplit];have hp:(S.take (k+1)++S.drop (k+1)).Pairwise fun a b=>dW (nm a) (nm b)=true:=by rw [fP];exact hs
      have h3:=zY.1 hp;have hmem:S[k]∈S.take (k+1):=by rw [bB S k (by omega)];exact uS _ (iW.2 rfl)
      have f2:(S.drop (k+1)).filter (fun p=>dW (nm S[k]) (nm p))=S.drop (k+1):=by
        rw [oX];exact fun x hx=>h3.2.2 _ hmem x hx
      have f1:(S.take (k+1)).filter (fun p=>dW (nm S[k]) (nm p))= []:=by
        rw [pB];intro x hx;rw [bB S k (by omega)] at hx h3;rcases dZ.1 hx with hx | hx
        . have := (zY.1 h3.1).2.2 x hx S[k] (by simp)
          rw [Rc this];simp
        simp at hx;subst hx;rw [nX];simp
      rw [f1,f2,aK]
  rw [hd,nB]
end
end Go.Proofs.YtbdjepeabjangaaGreat
