import Derived.Test.YtbgfljpnhhdkoaaGreatWkAr3
open Go.Proofs.Tryz
namespace Go.Proofs.YtbgfljpnhhdkoaaGreat
open Go Go.Vm
set_option maxRecDepth 20000
set_option linter.all false
set_option maxHeartbeats 8000000
theorem Ay(l:List Int)(p:Int→Bool)(f:FuncId)(caps:List D)(m cap:Nat)(rest:List D)(σ:List (List D))(hl:l.length≤9223372036854775807)(hσ:σ[m]?=some (l.map D.int++rest))(hcp:∀d∈caps,d.plain=true)(hcs:caps.map D.strip=caps)(hp:∀x τ,σ<+:τ→Ct prog f (D.int x::caps) τ (fun r τ'=>r= .bool (p x)∧τ'=τ)):Ct prog 248 [.slo m 0 l.length cap,.clo (.func f) [] caps] σ (fun r σ'=>r= .int (rS p l)∧σ'=σ):=by
 refine zf (rs:=[.tmp 4]) func248 ntmps248 results248 ?_;simp only [aN];refine zr ⟨[],[],[],[7,14],[]⟩ fun _ _ Z=>?_;simp(disch:=omega)[hσ,hcs,aS];apply Z;apply aC;refine zr ⟨[],[],[],[7,14],[]⟩ fun _ _ Z=>?_;simp(disch:=omega)[hσ,hcs,aS];and_intros<;>(try omega);apply Z;apply aG;refine zk [0,1,4,7,8] ?_;refine bI (fun(k:Nat)=> [(8,.d (.v (.int .i64 (k:Int))))]) [4,5,8,9,10,11,12,13,14,15,16,17,18] (fun(k:Nat)=>k≤l.length∧∀x∈l.take k,p x=false) (fun(k:Nat)=>l.length - k) (0) (by simp <;> rfl) ?_ ?_ ?_
 ·simp
 ·simp
 rintro k ⟨hk,hh⟩;simp only [List.cons_append,List.nil_append];refine zr ⟨[],[],[],[7,14],[]⟩ fun _ _ Z=>?_;simp(disch:=omega)[hσ,hcs,aS];apply Z;apply aC;refine zi ?_;refine⟨fun c1=>?_,fun c1=>?_⟩
 ·try simp at c1
  apply aE;apply aA;apply aC;apply aG;refine zr ⟨[],[],[],[7,14],[]⟩ fun _ _ Z=>?_;simp(disch:=omega)[hσ,hcs,aS];apply Z;refine zr ⟨[],[],[],[7,14],[]⟩ fun _ _ Z=>?_;refine zs 5 fun _ Y=>?_;simp(disch:=omega)[hσ,hcs,aS];and_intros<;>(try omega);apply Y;refine aD fun _ Y=>?_;simp(disch:=omega)[hσ,hcs,aS];refine⟨hcp,?_⟩;refine cH (hp l[k] _ (List.prefix_refl _)) ?_;apply Y;simp only [dV];apply Z;refine zi ?_;refine⟨fun c2=>?_,fun c2=>?_⟩
  ·try simp at c2
   refine zk [0,1,5,7,8] ?_;refine zr ⟨[],[],[],[7,14],[]⟩ fun _ _ Z=>?_;simp(disch:=omega)[hσ,hcs,aS];apply Z;apply aB;apply aQ;apply aJ;apply fD;apply aQ;apply aJ;simp [aL];exact(qV c1 hh c2).symm
  try simp at c2
  apply aE;apply aK;apply aA;refine zk [0,1,7,8] ?_;refine zt ⟨[],[],[],[7,14],[]⟩ fun _ _ Z=>?_;simp(disch:=omega)[hσ,hcs,aS];and_intros<;>(try omega);apply Z;refine zq (k+1) ?_ ?_ ?_
  ·exact⟨by omega,mP (by omega) hh c2⟩
  ·try dsimp only
   omega
  simp(disch:=omega)[hσ,hcs,aS]
 try simp at c1
 apply bC;apply bB;apply bD;apply aX;apply aA;refine zr ⟨[],[],[],[7,14],[]⟩ fun _ _ Z=>?_;simp(disch:=omega)[hσ,hcs,aS];apply Z;apply aB;simp [aL];rw [List.take_of_length_le (by omega)] at hh;exact(mF hh).symm
theorem Ah(f:FuncId)(caps:List D)(σ:List (List D))(hcp:∀d∈caps,d.plain=true):Ct prog 248 [.xl 0,.clo (.func f) [] caps] σ (fun r σ'=>r= .int (-1)∧σ'=σ):=by
 refine zf (rs:=[.tmp 4]) func248 ntmps248 results248 ?_;simp only [aN];refine zr ⟨[],[],[],[7],[]⟩ fun _ _ Z=>?_;simp;apply Z;apply aC;refine zr ⟨[],[],[],[7],[]⟩ fun _ _ Z=>?_;simp;and_intros<;>(try omega);apply Z;apply aG;refine zk [0,1,4,7,8] ?_;refine bI (fun(k:Nat)=> [(8,.d (.int 0))]) [4,5,8,9,10,11,12,13,14,15,16,17,18] (fun(k:Nat)=>k=0) (fun(k:Nat)=>0) (0) (by simp <;> rfl) ?_ ?_ ?_
 ·simp
 ·rfl
 rintro k hk;simp only [List.cons_append,List.nil_append];refine zr ⟨[],[],[],[7],[]⟩ fun _ _ Z=>?_;simp;apply Z;apply aC;refine zi ?_;refine⟨fun c1=>?_,fun c1=>?_⟩
 ·simp at c1
 try simp at c1
 apply bC;apply bB;apply bD;apply aX;apply aA;refine zr ⟨[],[],[],[7],[]⟩ fun _ _ Z=>?_;simp;apply Z;apply aB;simp [aL]
theorem Gu(p:Int→Bool)(l k:List Int)(rest:List D):List.take k.length ((k++l).map D.int++rest)=k.map D.int:=by
 rw [List.map_append,List.append_assoc,List.take_append_of_le_length (by simp)];rw [List.take_of_length_le (by simp)]
@[simp] abbrev qAr41:Cfg:=⟨[4,13],[],[],[18,24,33,38,41],[]⟩
theorem xV(l:List Int)(p:Int→Bool)(f:FuncId)(caps:List D)(σ:List (List D))(hl:l.length≤1000000)(hne:l≠ [])(hcp:∀d∈caps,d.plain=true)(hcs:caps.map D.strip=caps)(hp:∀x τ,σ<+:τ→Ct prog f (D.int x::caps) τ (fun r τ'=>r= .bool (p x)∧τ'=τ)):Ct prog 212 [.xs 1 (l.map D.int),.clo (.func f) [] caps] σ (fun r σ'=>r= .xs 1 ((l.filter fun x=> !p x).map D.int)∧σ'=σ++ [[]]):=by
 refine zf (rs:=[.tmp 4]) func212 ntmps212 results212 ?_;simp only [aN];refine kR 0 1 rfl (by decide) fun cap rest hcap hcm hrest hk0 hes=>?_;simp only [List.length_map] at hcap hrest ⊢;rw [eO (f:=D.int) (fun _=>rfl)];refine zr qAr41 fun _ _ Z=>?_;simp(disch:=first|omega|assumption)[hcs,aS,cC];apply Z;refine zr qAr41 fun _ _ Z=>?_;refine zs 2 fun _ Y=>?_;simp(disch:=first|omega|assumption)[hcs,aS,cC];apply Y;refine aD fun _ Y=>?_;simp(disch:=first|omega|assumption)[hcs,aS,cC];refine cH (Ay l p f caps σ.length cap rest _ (by omega) (by simp) hcp hcs fun x τ h=>hp x τ (List.IsPrefix.trans (List.prefix_append _ _) h)) ?_;apply Y;simp(disch:=first|omega|assumption)[hcs,aS,cC];apply Z;apply aC;refine zr qAr41 fun _ _ Z=>?_;simp(disch:=first|omega|assumption)[hcs,aS,cC];apply Z;refine zi ?_;refine⟨fun c1=>?_,fun c1=>?_⟩
 ·try simp at c1
  refine zr qAr41 fun _ _ Z=>?_;simp(disch:=first|omega|assumption)[hcs,aS,cC];apply Z;refine cV 4 1 σ.length l.length cap (l.map D.int) (l.map D.int++rest) (by simp <;> rfl) (by simp) (by omega) (by simp [hrest];omega) (by simp) (by simp) (by rw [eO (fun _=>rfl)];exact List.prefix_append _ _) ?_;simp only [jZ];apply aB;apply aJ;simp [aL];rcases oV p l with ⟨_,h⟩ | ⟨k,h,_⟩
  ·rw [h]
  omega
 try simp at c1
 obtain⟨k0,e0,e1,e2,e3⟩:=tP c1;rw [e0];apply aE;apply aA;apply aC;refine zr qAr41 fun _ _ Z=>?_;simp(disch:=first|omega|assumption)[hcs,aS,cC];and_intros<;>try first|omega|exact rfl
 apply Z;apply aG;refine zk [0,1,4,5,6] ?_;refine oB (fun(j:Nat)=> [(5,.d (.v (.int .i64 ((kp p l j).length:Int)))),(6,.d (.v (.int .i64 (j:Int))))]) (fun(j:Nat)=> []) (fun(j:Nat)=> [(σ.length,(ar p l j).map D.int++rest)]) [5,6,7,16,17,18,19,20,21,22,23,24,25,26,27,28,29,30,31,32,33,34,35] (fun(j:Nat)=>j≤l.length) (fun(j:Nat)=>l.length - j) (k0+1) (by simp <;> rfl) ?_ (by simp) (by simp [e1]) ?_ ?_
 ·simp [e1,e2]
 ·omega
 rintro j hj;simp only [List.cons_append,List.nil_append,nT,mD,List.set_cons_zero,List.set_cons_succ];have hkl:=Du p l j hj;have hal:=Bk p l j;apply aC;refine zr qAr41 fun _ _ Z=>?_;simp(disch:=first|omega|assumption)[hcs,aS,cC];and_intros<;>try first|omega|exact rfl
 apply Z;refine zi ?_;refine⟨fun c2=>?_,fun c2=>?_⟩
 ·try simp at c2
  apply aE;apply aA;apply aC;apply aG;refine zr qAr41 fun _ _ Z=>?_;simp(disch:=first|omega|assumption)[hcs,aS,cC];and_intros<;>try first|omega|exact rfl
  apply Z;refine zk [0,1,4,5,6,7] ?_;refine zr qAr41 fun _ _ Z=>?_;refine zs 2 fun _ Y=>?_;simp(disch:=first|omega|assumption)[hcs,aS,cC];apply Y;refine aD fun _ Y=>?_;simp(disch:=first|omega|assumption)[hcs,aS,cC];simp only [Qc p l j (by omega)];refine⟨hcp,?_⟩;refine cH (hp l[j] _ (List.prefix_append _ _)) ?_;apply Y;simp(disch:=first|omega|assumption)[hcs,aS,cC];apply Z;refine zi ?_;refine⟨fun c3=>?_,fun c3=>?_⟩
  ·try simp at c3
   refine zr qAr41 fun _ _ Z=>?_;simp(disch:=first|omega|assumption)[hcs,aS,cC];and_intros<;>try first|omega|exact rfl
   apply Z;refine zk [0,1,4,5,6] ?_;refine zt qAr41 fun _ _ Z=>?_;simp(disch:=first|omega|assumption)[hcs,aS,cC];and_intros<;>try first|omega|exact rfl
   apply Z;apply aK;apply aA;refine zt qAr41 fun _ _ Z=>?_;simp(disch:=first|omega|assumption)[hcs,aS,cC];and_intros<;>try first|omega|exact rfl
   apply Z;refine dU (j+1) ?_ ?_ (dD rfl ?_ (by simp) (by rw [← (sD p l j (by omega) c3).1];simp(disch:=omega) [Hr,hal]))
   ·omega
   ·try dsimp only
    omega
   simp(disch:=first|omega|assumption)[hcs,aS,cC,(sD p l j (by omega) c3).2]
  try simp at c3
  apply aE;apply aK;apply aA;refine zt qAr41 fun _ _ Z=>?_;simp(disch:=first|omega|assumption)[hcs,aS,cC];and_intros<;>try first|omega|exact rfl
  apply Z;refine dU (j+1) ?_ ?_ (dD rfl ?_ (by simp) (by simp [(oE p l j (by omega) c3).1]))
  ·omega
  ·try dsimp only
   omega
  simp(disch:=first|omega|assumption)[hcs,aS,cC,(oE p l j (by omega) c3).2]
 try simp at c2
 apply bC;apply bB;apply bD;apply aX;apply aA;refine zr qAr41 fun _ _ Z=>?_;simp(disch:=first|omega|assumption)[hcs,aS,cC];and_intros<;>try first|omega|exact rfl
 apply Z;refine zk [0,4,5] ?_;refine zr qAr41 fun _ _ Z=>?_;simp(disch:=first|omega|assumption)[hcs,aS,cC];and_intros<;>try first|omega|exact rfl
 apply Z;refine cV 4 1 σ.length (kp p l j).length cap ((kp p l j).map D.int) ((kp p l j).map D.int++(eZ #[.int .i64 0] (l.length - (kp p l j).length)++rest)) (by simp <;> rfl) (by rw [show List.map D.int (kp p l j)=List.take (kp p l j).length (List.map D.int (ar p l j)++rest)from(Gu p _ _ rest).symm];simp [eX (z:=#[.int .i64 0]) (k:=1) rfl,show(kp p l j).length+(l.length - (kp p l j).length)=l.length by omega,Jx D.int (ar p l j) rest l.length hal.symm]) (by omega) (by simp [hrest,eX (z:=#[.int .i64 0]) (k:=1) rfl];omega) (by simp) (by simp) (by rw [eO (fun _=>rfl)];exact List.prefix_append _ _) ?_;simp only [jZ];apply aB;simp [aL];unfold kp;rw [List.take_of_length_le (by omega)]
theorem xX(f:FuncId)(caps:List D)(σ:List (List D))(hcp:∀d∈caps,d.plain=true):Ct prog 212 [.xs 1 [],.clo (.func f) [] caps] σ (fun r σ'=>r= .xs 1 []∧σ'=σ):=by
 refine zf (rs:=[.tmp 4]) func212 ntmps212 results212 ?_;simp only [aN];refine zr ⟨[4,13],[],[],[],[]⟩ fun _ _ Z=>?_;simp;apply Z;refine zr ⟨[4,13],[],[],[],[]⟩ fun _ _ Z=>?_;refine zs 2 fun _ Y=>?_;simp;apply Y;refine aD fun _ Y=>?_;simp;refine cH (Ah f caps _ hcp) ?_;apply Y;simp;apply Z;apply aC;refine zr ⟨[4,13],[],[],[],[]⟩ fun _ _ Z=>?_;simp;apply Z;refine zi ?_;refine⟨fun c1=>?_,fun c1=>?_⟩
 ·try simp at c1
  refine zr ⟨[4,13],[],[],[],[]⟩ fun _ _ Z=>?_;simp;apply Z;apply aB;apply aJ;simp[aL]
 simp at c1
theorem zK(l:List Int)(p:Int→Bool)(f:FuncId)(caps:List D)(σ:List (List D))(hl:l.length≤1000000)(hcp:∀d∈caps,d.plain=true)(hcs:caps.map D.strip=caps)(hp:∀x τ,σ<+:τ→Ct prog f (D.int x::caps) τ (fun r τ'=>r= .bool (p x)∧τ'=τ)):
  Ct prog 212 [.xs 1 (l.map D.int),.clo (.func f) [] caps] σ (fun r σ'=>r= .xs 1 ((l.filter fun x=> !p x).map D.int)∧σ'=σ):=by
 by_cases hne:l= []
 ·subst hne;exact xX f caps σ hcp
 exact(xV l p f caps σ hl hne hcp hcs hp).trim fun r σ' ⟨hr,hs⟩=>⟨σ, [[]],hs,rfl,by rw [hr];exact aB9 _ _,fun n cs h=> .inl h,hr,rfl⟩
attribute [simp] cA
theorem Lj(l:List AT):(l.map cZ).flatMap D.cells=l.flatMap cA:=cK (fun _=>rfl) l
theorem aGx(l:List AT):∀d∈l.map cZ,d.ncells=2∧d.arr=true:=by
 intro d hd;obtain⟨a,_,rfl⟩:=List.mem_map.1 hd;exact⟨rfl,rfl⟩
@[simp high] theorem aN0(l:List AT):(l.flatMap cA).length=l.length * 2:=cL (f:=cA) (fun _=>rfl) l
@[simp high] theorem aTc(l:List AT)(rest:List D)(i:Nat)(h:i<l.length):qZ true 2 ((l.flatMap cA++rest).drop (i * 2))=some (.agg (cA l[i])):=Pl (f:=cA) (fun _=>rfl) l rest i h
@[simp high] theorem aQ2(l:List AT)(rest:List D)(i:Nat)(x:AT)(h:i<l.length):cW (l.flatMap cA++rest) (i * 2) [D.str x.name,D.str x.value]=(l.set i x).flatMap cA++rest:=xJ (f:=cA) (fun _=>rfl) l rest i x h
theorem gH(p:AT→Bool)(l:List AT)(j:Nat)(rest:List D):cW ((ar p l j).flatMap cA++rest) ((kp p l j).length * 2) (eZ #[.string ⟨#[]⟩,.string ⟨#[]⟩] (l.length - (kp p l j).length))=(kp p l j).flatMap cA++(eZ #[.string ⟨#[]⟩,.string ⟨#[]⟩] (l.length - (kp p l j).length)++rest):=by
 have hz:(eZ #[.string ⟨#[]⟩,.string ⟨#[]⟩] (l.length - (kp p l j).length)).length=((l.drop (kp p l j).length).flatMap cA).length:=by
  rw [cL (f:=cA) (k:=2) (fun _=>rfl),eX (k:=2) rfl,List.length_drop]
 have hk:((kp p l j).flatMap cA).length=(kp p l j).length * 2:=cL (f:=cA) (fun _=>rfl) _;unfold ar;rw [List.flatMap_append,List.append_assoc,← hk,jM _ _ _ _ hz]
theorem Lx(l:List AT)(p:AT→Bool)(f:FuncId)(caps:List D)(m cap:Nat)(rest:List D)(σ:List (List D))(hl:l.length≤9223372036854775807)(hσ:σ[m]?=some (l.flatMap cA++rest))(hcp:∀d∈caps,d.plain=true)(hcs:caps.map D.strip=caps)(hp:∀x τ,Ct prog f (cZ x::caps) τ (fun r τ'=>r= .bool (p x)∧τ'=τ)):Ct prog 273 [.slo m 0 l.length cap,.clo (.func f) [] caps] σ (fun r σ'=>r= .int (rS p l)∧σ'=σ):=by
 refine zf (rs:=[.tmp 4]) func273 ntmps273 results273 ?_;simp only [aN];refine zr ⟨[],[],[],[7,14],[]⟩ fun _ _ Z=>?_;simp(disch:=omega)[hσ,hcs];apply Z;apply aC;refine zr ⟨[],[],[],[7,14],[]⟩ fun _ _ Z=>?_;simp(disch:=omega)[hσ,hcs];and_intros<;>(try omega);apply Z;apply aG;refine zk [0,1,4,7,8] ?_;refine bI (fun(k:Nat)=> [(8,.d (.v (.int .i64 (k:Int))))]) [4,5,8,9,10,11,12,13,14,15,16,17,18] (fun(k:Nat)=>k≤l.length∧∀x∈l.take k,p x=false) (fun(k:Nat)=>l.length - k) (0) (by simp <;> rfl) ?_ ?_ ?_
 ·simp
 ·simp
 rintro k ⟨hk,hh⟩;simp only [List.cons_append,List.nil_append];refine zr ⟨[],[],[],[7,14],[]⟩ fun _ _ Z=>?_;simp(disch:=omega)[hσ,hcs];apply Z;apply aC;refine zi ?_;refine⟨fun c1=>?_,fun c1=>?_⟩
 ·try simp at c1
  apply aE;apply aA;apply aC;apply aG;refine zr ⟨[],[],[],[7,14],[]⟩ fun _ _ Z=>?_;simp(disch:=omega)[hσ,hcs];apply Z;refine zr ⟨[],[],[],[7,14],[]⟩ fun _ _ Z=>?_;refine zs 5 fun _ Y=>?_;simp(disch:=omega)[hσ,hcs];and_intros<;>(try omega);apply Y;refine aD fun _ Y=>?_;simp(disch:=omega)[hσ,hcs];refine⟨hcp,?_⟩;refine cH (hp l[k] _) ?_;apply Y;simp only [dV];apply Z;refine zi ?_;refine⟨fun c2=>?_,fun c2=>?_⟩
  ·try simp at c2
   refine zk [0,1,5,7,8] ?_;refine zr ⟨[],[],[],[7,14],[]⟩ fun _ _ Z=>?_;simp(disch:=omega)[hσ,hcs];apply Z;apply aB;apply aQ;apply aJ;apply fD;apply aQ;apply aJ;simp [aL];exact(qV c1 hh c2).symm
  try simp at c2
  apply aE;apply aK;apply aA;refine zk [0,1,7,8] ?_;refine zt ⟨[],[],[],[7,14],[]⟩ fun _ _ Z=>?_;simp(disch:=omega)[hσ,hcs];and_intros<;>(try omega);apply Z;refine zq (k+1) ?_ ?_ ?_
  ·exact⟨by omega,mP (by omega) hh c2⟩
  ·try dsimp only
   omega
  simp(disch:=omega)[hσ,hcs]
 try simp at c1
 apply bC;apply bB;apply bD;apply aX;apply aA;refine zr ⟨[],[],[],[7,14],[]⟩ fun _ _ Z=>?_;simp(disch:=omega)[hσ,hcs];apply Z;apply aB;simp [aL];rw [List.take_of_length_le (by omega)] at hh;exact(mF hh).symm
theorem Ki(l:List AT)(p:AT→Bool)(f:FuncId)(caps:List D)(σ:List (List D))(hl:l.length≤1000000)(hcp:∀d∈caps,d.plain=true)(hcs:caps.map D.strip=caps)(hp:∀x τ,Ct prog f (cZ x::caps) τ (fun r τ'=>r= .bool (p x)∧τ'=τ)):Ct prog 269 [.xs 2 (l.map cZ),.clo (.func f) [] caps] σ (fun r σ'=>r= .xs 2 ((l.filter fun x=> !p x).map cZ)∧σ'=σ++ [[]]):=by
 refine zf (rs:=[.tmp 4]) func269 ntmps269 results269 ?_;simp only [aN];refine kR 0 2 rfl (by decide) fun cap rest hcap hcm hrest hk0 hes=>?_;simp only [List.length_map] at hcap hrest ⊢;rw [Lj];refine zr qAr41 fun _ _ Z=>?_;simp(disch:=first|omega|assumption)[hcs,gH];apply Z;refine zr qAr41 fun _ _ Z=>?_;refine zs 2 fun _ Y=>?_;simp(disch:=first|omega|assumption)[hcs,gH];apply Y;refine aD fun _ Y=>?_;simp(disch:=first|omega|assumption)[hcs,gH];refine cH (Lx l p f caps σ.length cap rest _ (by omega) (by simp) hcp hcs hp) ?_;apply Y;simp(disch:=first|omega|assumption)[hcs,gH];apply Z;apply aC;refine zr qAr41 fun _ _ Z=>?_;simp(disch:=first|omega|assumption)[hcs,gH];apply Z;refine zi ?_;refine⟨fun c1=>?_,fun c1=>?_⟩
 ·try simp at c1
  refine zr qAr41 fun _ _ Z=>?_;simp(disch:=first|omega|assumption)[hcs,gH];apply Z;refine cV 4 2 σ.length l.length cap (l.map cZ) (l.flatMap cA++rest) (by simp <;> rfl) (by simp) (by omega) (by simp [hrest,eX (z:=#[.string ⟨#[]⟩,.string ⟨#[]⟩]) (k:=2) rfl];omega) (by simp) (aGx _) (by rw [Lj];exact List.prefix_append _ _) ?_;simp only [jZ];apply aB;apply aJ;simp [aL];rcases oV p l with ⟨_,h⟩ | ⟨k,h,_⟩
  ·rw [h]
  omega
 try simp at c1
 obtain⟨k0,e0,e1,e2,e3⟩:=tP c1;rw [e0];apply aE;apply aA;apply aC;refine zr qAr41 fun _ _ Z=>?_;simp(disch:=first|omega|assumption)[hcs,gH];and_intros<;>try first|omega|exact rfl
 apply Z;apply aG;refine zk [0,1,4,5,6] ?_;refine oB (fun(j:Nat)=> [(5,.d (.v (.int .i64 ((kp p l j).length:Int)))),(6,.d (.v (.int .i64 (j:Int))))]) (fun(j:Nat)=> []) (fun(j:Nat)=> [(σ.length,(ar p l j).flatMap cA++rest)]) [5,6,7,16,17,18,19,20,21,22,23,24,25,26,27,28,29,30,31,32,33,34,35] (fun(j:Nat)=>j≤l.length) (fun(j:Nat)=>l.length - j) (k0+1) (by simp <;> rfl) ?_ (by simp) (by simp [e1]) ?_ ?_
 ·simp [e1,e2]
 ·omega
 rintro j hj;simp only [List.cons_append,List.nil_append,nT,mD,List.set_cons_zero,List.set_cons_succ];have hkl:=Du p l j hj;have hal:=Bk p l j;apply aC;refine zr qAr41 fun _ _ Z=>?_;simp(disch:=first|omega|assumption)[hcs,gH];and_intros<;>try first|omega|exact rfl
 apply Z;refine zi ?_;refine⟨fun c2=>?_,fun c2=>?_⟩
 ·try simp at c2
  apply aE;apply aA;apply aC;apply aG;refine zr qAr41 fun _ _ Z=>?_;simp(disch:=first|omega|assumption)[hcs,gH];and_intros<;>try first|omega|exact rfl
  apply Z;refine zk [0,1,4,5,6,7] ?_;refine zr qAr41 fun _ _ Z=>?_;refine zs 2 fun _ Y=>?_;simp(disch:=first|omega|assumption)[hcs,gH];apply Y;refine aD fun _ Y=>?_;simp(disch:=first|omega|assumption)[hcs,gH];simp only [Qc p l j (by omega)];refine⟨hcp,?_⟩;refine cH (hp l[j] _) ?_;apply Y;simp(disch:=first|omega|assumption)[hcs,gH];apply Z;refine zi ?_;refine⟨fun c3=>?_,fun c3=>?_⟩
  ·try simp at c3
   refine zr qAr41 fun _ _ Z=>?_;simp(disch:=first|omega|assumption)[hcs,gH];and_intros<;>try first|omega|exact rfl
   apply Z;refine zk [0,1,4,5,6] ?_;refine zt qAr41 fun _ _ Z=>?_;simp(disch:=first|omega|assumption)[hcs,gH];and_intros<;>try first|omega|exact rfl
   apply Z;apply aK;apply aA;refine zt qAr41 fun _ _ Z=>?_;simp(disch:=first|omega|assumption)[hcs,gH];and_intros<;>try first|omega|exact rfl
   apply Z;refine dU (j+1) ?_ ?_ (dD rfl ?_ (by simp) (by first | (simp [← (sD p l j (by omega) c3).1];done) | (simp [(sD p l j (by omega) c3).1];done)))
   ·omega
   ·try dsimp only
    omega
   simp(disch:=first|omega|assumption)[hcs,gH,(sD p l j (by omega) c3).2]
  try simp at c3
  apply aE;apply aK;apply aA;refine zt qAr41 fun _ _ Z=>?_;simp(disch:=first|omega|assumption)[hcs,gH];and_intros<;>try first|omega|exact rfl
  apply Z;refine dU (j+1) ?_ ?_ (dD rfl ?_ (by simp) (by simp [(oE p l j (by omega) c3).1]))
  ·omega
  ·try dsimp only
   omega
  simp(disch:=first|omega|assumption)[hcs,gH,(oE p l j (by omega) c3).2]
 try simp at c2
 apply bC;apply bB;apply bD;apply aX;apply aA;refine zr qAr41 fun _ _ Z=>?_;simp(disch:=first|omega|assumption)[hcs,gH];and_intros<;>try first|omega|exact rfl
 apply Z;refine zk [0,4,5] ?_;refine zr qAr41 fun _ _ Z=>?_;simp(disch:=first|omega|assumption)[hcs,gH];and_intros<;>try first|omega|exact rfl
 apply Z;refine cV 4 2 σ.length (kp p l j).length cap ((kp p l j).map cZ) ((kp p l j).flatMap cA++(eZ #[.string ⟨#[]⟩,.string ⟨#[]⟩] (l.length - (kp p l j).length)++rest)) (by simp <;> rfl) (by simp) (by omega) (by simp [hrest,eX (z:=#[.string ⟨#[]⟩,.string ⟨#[]⟩]) (k:=2) rfl];omega) (by simp) (aGx _) (by rw [Lj];exact List.prefix_append _ _) ?_;simp only [jZ];apply aB;simp [aL];unfold kp;rw [List.take_of_length_le (by omega)]
theorem Lz(l:List AT)(p:AT→Bool)(f:FuncId)(caps:List D)(σ:List (List D))(hl:l.length≤1000000)(hcp:∀d∈caps,d.plain=true)(hcs:caps.map D.strip=caps)(hp:∀x τ,Ct prog f (cZ x::caps) τ (fun r τ'=>r= .bool (p x)∧τ'=τ)):
  Ct prog 269 [.xs 2 (l.map cZ),.clo (.func f) [] caps] σ (fun r σ'=>r= .xs 2 ((l.filter fun x=> !p x).map cZ)∧σ'=σ):=
 (Ki l p f caps σ hl hcp hcs hp).trim fun r σ' ⟨hr,hs⟩=>⟨σ, [[]],hs,rfl,by rw [hr];exact aHj _ _,fun n cs h=> .inl h,hr,rfl⟩
theorem Uv(l:List AT)(σ:List (List D))(hl:l.length≤1000000):Ct prog 154 [.sl false (l.map cZ)] σ (fun r σ'=>r= .sl true (l.map cZ)∧σ'=σ):=by
 refine zf (rs:=[.tmp 2]) func154 ntmps154 results154 ?_;simp only [aN];refine zr ⟨[2],[],[],[],[]⟩ fun _ _ Z=>?_;simp;apply Z;apply aC;refine zr ⟨[2],[],[],[],[]⟩ fun _ _ Z=>?_;refine zs 1 fun _ Y=>?_;simp;apply Y;refine aD fun _ Y=>?_;simp;refine⟨Y _ ?_,fun e1=>Y _ ?_⟩
 ·skip
  simp only [dV];apply Z;refine bM (t:=false) (by simp) (fun h=>by cases h) (fun _=>?_);apply aE;apply aA;refine zr ⟨[2],[],[],[],[]⟩ fun _ _ Z=>?_;simp;and_intros<;>(try omega);apply Z;apply aB;simp [aL]
 skip
 simp only [dV];apply Z;refine bM (t:=true) (by simp) (fun _=>?_) (fun h=>by cases h);refine zr ⟨[2],[],[],[],[]⟩ fun _ _ Z=>?_;simp;apply Z;apply aB;apply aJ;simp [aL,e1]
attribute [simp] cP
theorem Mx(l:List PI):(l.map cX).flatMap D.cells=l.flatMap cP:=cK (fun _=>rfl) l
theorem aG1(l:List PI):∀d∈l.map cX,d.ncells=2∧d.arr=true:=by
 intro d hd;obtain⟨a,_,rfl⟩:=List.mem_map.1 hd;exact⟨rfl,rfl⟩
@[simp high] theorem aOs(l:List PI):(l.flatMap cP).length=l.length * 2:=cL (f:=cP) (fun _=>rfl) l
@[simp high] theorem aSc(l:List PI)(rest:List D)(i:Nat)(h:i<l.length):qZ true 2 ((l.flatMap cP++rest).drop (i * 2))=some (.agg (cP l[i])):=Pl (f:=cP) (fun _=>rfl) l rest i h
@[simp high] theorem aS4(l:List PI)(rest:List D)(i:Nat)(x:PI)(h:i<l.length):cW (l.flatMap cP++rest) (i * 2) [D.str x.name,D.int x.value]=(l.set i x).flatMap cP++rest:=xJ (f:=cP) (fun _=>rfl) l rest i x h
theorem gJ(p:PI→Bool)(l:List PI)(j:Nat)(rest:List D):cW ((ar p l j).flatMap cP++rest) ((kp p l j).length * 2) (eZ #[.string ⟨#[]⟩,.int .i64 0] (l.length - (kp p l j).length))=(kp p l j).flatMap cP++(eZ #[.string ⟨#[]⟩,.int .i64 0] (l.length - (kp p l j).length)++rest):=by
 have hz:(eZ #[.string ⟨#[]⟩,.int .i64 0] (l.length - (kp p l j).length)).length=((l.drop (kp p l j).length).flatMap cP).length:=by
  rw [cL (f:=cP) (k:=2) (fun _=>rfl),eX (k:=2) rfl,List.length_drop]
 have hk:((kp p l j).flatMap cP).length=(kp p l j).length * 2:=cL (f:=cP) (fun _=>rfl) _;unfold ar;rw [List.flatMap_append,List.append_assoc,← hk,jM _ _ _ _ hz]
theorem Lw(l:List PI)(p:PI→Bool)(f:FuncId)(caps:List D)(m cap:Nat)(rest:List D)(σ:List (List D))(hl:l.length≤9223372036854775807)(hσ:σ[m]?=some (l.flatMap cP++rest))(hcp:∀d∈caps,d.plain=true)(hcs:caps.map D.strip=caps)(hp:∀x τ,Ct prog f (cX x::caps) τ (fun r τ'=>r= .bool (p x)∧τ'=τ)):Ct prog 274 [.slo m 0 l.length cap,.clo (.func f) [] caps] σ (fun r σ'=>r= .int (rS p l)∧σ'=σ):=by
 refine zf (rs:=[.tmp 4]) func274 ntmps274 results274 ?_;simp only [aN];refine zr ⟨[],[],[],[7,14],[]⟩ fun _ _ Z=>?_;simp(disch:=omega)[hσ,hcs];apply Z;apply aC;refine zr ⟨[],[],[],[7,14],[]⟩ fun _ _ Z=>?_;simp(disch:=omega)[hσ,hcs];and_intros<;>(try omega);apply Z;apply aG;refine zk [0,1,4,7,8] ?_;refine bI (fun(k:Nat)=> [(8,.d (.v (.int .i64 (k:Int))))]) [4,5,8,9,10,11,12,13,14,15,16,17,18] (fun(k:Nat)=>k≤l.length∧∀x∈l.take k,p x=false) (fun(k:Nat)=>l.length - k) (0) (by simp <;> rfl) ?_ ?_ ?_
 ·simp
 ·simp
 rintro k ⟨hk,hh⟩;simp only [List.cons_append,List.nil_append];refine zr ⟨[],[],[],[7,14],[]⟩ fun _ _ Z=>?_;simp(disch:=omega)[hσ,hcs];apply Z;apply aC;refine zi ?_;refine⟨fun c1=>?_,fun c1=>?_⟩
 ·try simp at c1
  apply aE;apply aA;apply aC;apply aG;refine zr ⟨[],[],[],[7,14],[]⟩ fun _ _ Z=>?_;simp(disch:=omega)[hσ,hcs];apply Z;refine zr ⟨[],[],[],[7,14],[]⟩ fun _ _ Z=>?_;refine zs 5 fun _ Y=>?_;simp(disch:=omega)[hσ,hcs];and_intros<;>(try omega);apply Y;refine aD fun _ Y=>?_;simp(disch:=omega)[hσ,hcs];refine⟨hcp,?_⟩;refine cH (hp l[k] _) ?_;apply Y;simp only [dV];apply Z;refine zi ?_;refine⟨fun c2=>?_,fun c2=>?_⟩
  ·try simp at c2
   refine zk [0,1,5,7,8] ?_;refine zr ⟨[],[],[],[7,14],[]⟩ fun _ _ Z=>?_;simp(disch:=omega)[hσ,hcs];apply Z;apply aB;apply aQ;apply aJ;apply fD;apply aQ;apply aJ;simp [aL];exact(qV c1 hh c2).symm
  try simp at c2
  apply aE;apply aK;apply aA;refine zk [0,1,7,8] ?_;refine zt ⟨[],[],[],[7,14],[]⟩ fun _ _ Z=>?_;simp(disch:=omega)[hσ,hcs];and_intros<;>(try omega);apply Z;refine zq (k+1) ?_ ?_ ?_
  ·exact⟨by omega,mP (by omega) hh c2⟩
  ·try dsimp only
   omega
  simp(disch:=omega)[hσ,hcs]
 try simp at c1
 apply bC;apply bB;apply bD;apply aX;apply aA;refine zr ⟨[],[],[],[7,14],[]⟩ fun _ _ Z=>?_;simp(disch:=omega)[hσ,hcs];apply Z;apply aB;simp [aL];rw [List.take_of_length_le (by omega)] at hh;exact(mF hh).symm
theorem Ir(l:List PI)(p:PI→Bool)(f:FuncId)(caps:List D)(σ:List (List D))(hl:l.length≤1000000)(hcp:∀d∈caps,d.plain=true)(hcs:caps.map D.strip=caps)(hp:∀x τ,Ct prog f (cX x::caps) τ (fun r τ'=>r= .bool (p x)∧τ'=τ)):Ct prog 270 [.xs 2 (l.map cX),.clo (.func f) [] caps] σ (fun r σ'=>r= .xs 2 ((l.filter fun x=> !p x).map cX)∧σ'=σ++ [[]]):=by
 refine zf (rs:=[.tmp 4]) func270 ntmps270 results270 ?_;simp only [aN];refine kR 0 2 rfl (by decide) fun cap rest hcap hcm hrest hk0 hes=>?_;simp only [List.length_map] at hcap hrest ⊢;rw [Mx];refine zr qAr41 fun _ _ Z=>?_;simp(disch:=first|omega|assumption)[hcs,gJ];apply Z;refine zr qAr41 fun _ _ Z=>?_;refine zs 2 fun _ Y=>?_;simp(disch:=first|omega|assumption)[hcs,gJ];apply Y;refine aD fun _ Y=>?_;simp(disch:=first|omega|assumption)[hcs,gJ];refine cH (Lw l p f caps σ.length cap rest _ (by omega) (by simp) hcp hcs hp) ?_;apply Y;simp(disch:=first|omega|assumption)[hcs,gJ];apply Z;apply aC;refine zr qAr41 fun _ _ Z=>?_;simp(disch:=first|omega|assumption)[hcs,gJ];apply Z;refine zi ?_;refine⟨fun c1=>?_,fun c1=>?_⟩
 ·try simp at c1
  refine zr qAr41 fun _ _ Z=>?_;simp(disch:=first|omega|assumption)[hcs,gJ];apply Z;refine cV 4 2 σ.length l.length cap (l.map cX) (l.flatMap cP++rest) (by simp <;> rfl) (by simp) (by omega) (by simp [hrest,eX (z:=#[.string ⟨#[]⟩,.int .i64 0]) (k:=2) rfl];omega) (by simp) (aG1 _) (by rw [Mx];exact List.prefix_append _ _) ?_;simp only [jZ];apply aB;apply aJ;simp [aL];rcases oV p l with ⟨_,h⟩ | ⟨k,h,_⟩
  ·rw [h]
  omega
 try simp at c1
 obtain⟨k0,e0,e1,e2,e3⟩:=tP c1;rw [e0];apply aE;apply aA;apply aC;refine zr qAr41 fun _ _ Z=>?_;simp(disch:=first|omega|assumption)[hcs,gJ];and_intros<;>try first|omega|exact rfl
 apply Z;apply aG;refine zk [0,1,4,5,6] ?_;refine oB (fun(j:Nat)=> [(5,.d (.v (.int .i64 ((kp p l j).length:Int)))),(6,.d (.v (.int .i64 (j:Int))))]) (fun(j:Nat)=> []) (fun(j:Nat)=> [(σ.length,(ar p l j).flatMap cP++rest)]) [5,6,7,16,17,18,19,20,21,22,23,24,25,26,27,28,29,30,31,32,33,34,35] (fun(j:Nat)=>j≤l.length) (fun(j:Nat)=>l.length - j) (k0+1) (by simp <;> rfl) ?_ (by simp) (by simp [e1]) ?_ ?_
 ·simp [e1,e2]
 ·omega
 rintro j hj;simp only [List.cons_append,List.nil_append,nT,mD,List.set_cons_zero,List.set_cons_succ];have hkl:=Du p l j hj;have hal:=Bk p l j;apply aC;refine zr qAr41 fun _ _ Z=>?_;simp(disch:=first|omega|assumption)[hcs,gJ];and_intros<;>try first|omega|exact rfl
 apply Z;refine zi ?_;refine⟨fun c2=>?_,fun c2=>?_⟩
 ·try simp at c2
  apply aE;apply aA;apply aC;apply aG;refine zr qAr41 fun _ _ Z=>?_;simp(disch:=first|omega|assumption)[hcs,gJ];and_intros<;>try first|omega|exact rfl
  apply Z;refine zk [0,1,4,5,6,7] ?_;refine zr qAr41 fun _ _ Z=>?_;refine zs 2 fun _ Y=>?_;simp(disch:=first|omega|assumption)[hcs,gJ];apply Y;refine aD fun _ Y=>?_;simp(disch:=first|omega|assumption)[hcs,gJ];simp only [Qc p l j (by omega)];refine⟨hcp,?_⟩;refine cH (hp l[j] _) ?_;apply Y;simp(disch:=first|omega|assumption)[hcs,gJ];apply Z;refine zi ?_;refine⟨fun c3=>?_,fun c3=>?_⟩
  ·try simp at c3
   refine zr qAr41 fun _ _ Z=>?_;simp(disch:=first|omega|assumption)[hcs,gJ];and_intros<;>try first|omega|exact rfl
   apply Z;refine zk [0,1,4,5,6] ?_;refine zt qAr41 fun _ _ Z=>?_;simp(disch:=first|omega|assumption)[hcs,gJ];and_intros<;>try first|omega|exact rfl
   apply Z;apply aK;apply aA;refine zt qAr41 fun _ _ Z=>?_;simp(disch:=first|omega|assumption)[hcs,gJ];and_intros<;>try first|omega|exact rfl
   apply Z;refine dU (j+1) ?_ ?_ (dD rfl ?_ (by simp) (by first | (simp [← (sD p l j (by omega) c3).1];done) | (simp [(sD p l j (by omega) c3).1];done)))
   ·omega
   ·try dsimp only
    omega
   simp(disch:=first|omega|assumption)[hcs,gJ,(sD p l j (by omega) c3).2]
  try simp at c3
  apply aE;apply aK;apply aA;refine zt qAr41 fun _ _ Z=>?_;simp(disch:=first|omega|assumption)[hcs,gJ];and_intros<;>try first|omega|exact rfl
  apply Z;refine dU (j+1) ?_ ?_ (dD rfl ?_ (by simp) (by simp [(oE p l j (by omega) c3).1]))
  ·omega
  ·try dsimp only
   omega
  simp(disch:=first|omega|assumption)[hcs,gJ,(oE p l j (by omega) c3).2]
 try simp at c2
 apply bC;apply bB;apply bD;apply aX;apply aA;refine zr qAr41 fun _ _ Z=>?_;simp(disch:=first|omega|assumption)[hcs,gJ];and_intros<;>try first|omega|exact rfl
 apply Z;refine zk [0,4,5] ?_;refine zr qAr41 fun _ _ Z=>?_;simp(disch:=first|omega|assumption)[hcs,gJ];and_intros<;>try first|omega|exact rfl
 apply Z;refine cV 4 2 σ.length (kp p l j).length cap ((kp p l j).map cX) ((kp p l j).flatMap cP++(eZ #[.string ⟨#[]⟩,.int .i64 0] (l.length - (kp p l j).length)++rest)) (by simp <;> rfl) (by simp) (by omega) (by simp [hrest,eX (z:=#[.string ⟨#[]⟩,.int .i64 0]) (k:=2) rfl];omega) (by simp) (aG1 _) (by rw [Mx];exact List.prefix_append _ _) ?_;simp only [jZ];apply aB;simp [aL];unfold kp;rw [List.take_of_length_le (by omega)]
theorem Oa(l:List PI)(p:PI→Bool)(f:FuncId)(caps:List D)(σ:List (List D))(hl:l.length≤1000000)(hcp:∀d∈caps,d.plain=true)(hcs:caps.map D.strip=caps)(hp:∀x τ,Ct prog f (cX x::caps) τ (fun r τ'=>r= .bool (p x)∧τ'=τ)):
  Ct prog 270 [.xs 2 (l.map cX),.clo (.func f) [] caps] σ (fun r σ'=>r= .xs 2 ((l.filter fun x=> !p x).map cX)∧σ'=σ):=
 (Ir l p f caps σ hl hcp hcs hp).trim fun r σ' ⟨hr,hs⟩=>⟨σ, [[]],hs,rfl,by rw [hr];exact aI9 _ _,fun n cs h=> .inl h,hr,rfl⟩
theorem Vk(l:List PI)(σ:List (List D))(hl:l.length≤1000000):Ct prog 155 [.sl false (l.map cX)] σ (fun r σ'=>r= .sl true (l.map cX)∧σ'=σ):=by
 refine zf (rs:=[.tmp 2]) func155 ntmps155 results155 ?_;simp only [aN];refine zr ⟨[2],[],[],[],[]⟩ fun _ _ Z=>?_;simp;apply Z;apply aC;refine zr ⟨[2],[],[],[],[]⟩ fun _ _ Z=>?_;refine zs 1 fun _ Y=>?_;simp;apply Y;refine aD fun _ Y=>?_;simp;refine⟨Y _ ?_,fun e1=>Y _ ?_⟩
 ·skip
  simp only [dV];apply Z;refine bM (t:=false) (by simp) (fun h=>by cases h) (fun _=>?_);apply aE;apply aA;refine zr ⟨[2],[],[],[],[]⟩ fun _ _ Z=>?_;simp;and_intros<;>(try omega);apply Z;apply aB;simp [aL]
 skip
 simp only [dV];apply Z;refine bM (t:=true) (by simp) (fun _=>?_) (fun h=>by cases h);refine zr ⟨[2],[],[],[],[]⟩ fun _ _ Z=>?_;simp;apply Z;apply aB;apply aJ;simp [aL,e1]
theorem Lt(N cap:Nat)(l:List Int)(rest:List D)(σ:List (List D))(hl:l.length≤1000000)(hN:σ[N]?=some (l.map D.int++rest)):Ct prog 153 [.slo N 0 l.length cap] σ (fun r σ'=>pK 1 (l.map D.int) r∧σ'=σ):=by
 refine zf (rs:=[.tmp 2]) func153 ntmps153 results153 ?_;simp only [aN];refine zr ⟨[2,7],[],[],[],[7]⟩ fun _ _ Z=>?_;simp[hN];apply Z;apply aC;refine zr ⟨[2,7],[],[],[],[7]⟩ fun _ _ Z=>?_;refine zs 1 fun _ Y=>?_;simp[hN];apply Y;refine aD fun _ Y=>?_;simp[hN];refine⟨Y _ ?_,fun e1=>Y _ ?_⟩
 ·skip
  simp only [dV];apply Z;refine bM (t:=false) (by simp) (fun h=>by cases h) (fun _=>?_);apply aE;apply aA;refine zr ⟨[2,7],[],[],[],[7]⟩ fun _ _ Z=>?_;refine zs 3 fun _ Y=>?_;simp[hN];refine⟨l.map D.int,⟨⟨by simp,by rw [eO (f:=D.int) (fun _=>rfl)];exact List.prefix_append _ _⟩,gQ (d:=D.int) (fun _=>⟨rfl,rfl⟩) _,by first | rfl | trivial⟩,⟨by simp;omega,by simp;omega⟩,?_⟩;and_intros<;>(try omega);apply Y;simp[hN];apply Z;apply aB;simp [aL,pK]
 skip
 simp only [dV];apply Z;refine bM (t:=true) (by simp) (fun _=>?_) (fun h=>by cases h);refine zr ⟨[2,7],[],[],[],[7]⟩ fun _ _ Z=>?_;simp[hN];apply Z;apply aB;apply aJ;simp [aL,pK,e1]
theorem Tj(N cap:Nat)(l:List Int)(rest:List D)(σ:List (List D))(hl:l.length≤1000000)(hN:σ[N]?=some (l.map D.int++rest)):Ct prog 153 [.slo N 0 l.length cap] σ (fun r σ'=>r= .sl false (l.map D.int)∧σ'=σ):=((Lt N cap l rest σ hl hN).toX fun _ _ h=>h).freeze fun _ _ h=>h
def qB(c:Int)(l:List Int):Int:=rS (fun x=>decide (x=c)) l
theorem Df(N cap:Nat)(l:List Int)(rest:List D)(c:Int)(σ:List (List D))(hl:l.length≤1000000)(hN:σ[N]?=some (l.map D.int++rest)):Ct prog 148 [.slo N 0 l.length cap,D.int c] σ (fun r σ'=>r= .int (qB c l)∧σ'=σ):=by
 refine zf (rs:=[.tmp 4]) func148 ntmps148 results148 ?_;simp only [aN];refine zr ⟨[],[],[],[7,14],[]⟩ fun _ _ Z=>?_;simp(disch:=omega)[hN,aS];apply Z;apply aC;refine zr ⟨[],[],[],[7,14],[]⟩ fun _ _ Z=>?_;simp(disch:=omega)[hN,aS];and_intros<;>(try omega);apply Z;apply aG;refine zk [0,1,4,7,8] ?_;refine bI (fun(k:Nat)=> [(8,.d (.v (.int .i64 (k:Int)))),(5,.d (.any))]) [4,5,8,9,10,11,12,13,14,15,16,17,18] (fun(k:Nat)=>k≤l.length∧∀x∈l.take k,decide (x=c)=false) (fun(k:Nat)=>l.length - k) (0) (by simp <;> rfl) ?_ ?_ ?_
 ·simp
 ·simp
 rintro k ⟨hk,hh⟩;simp only [List.cons_append,List.nil_append];refine zr ⟨[],[],[],[7,14],[]⟩ fun _ _ Z=>?_;simp(disch:=omega)[hN,aS];apply Z;apply aC;refine zi ?_;refine⟨fun c1=>?_,fun c1=>?_⟩
 ·try simp at c1
  apply aE;apply aA;apply aC;apply aG;refine zr ⟨[],[],[],[7,14],[]⟩ fun _ _ Z=>?_;simp(disch:=omega)[hN,aS];apply Z;refine zr ⟨[],[],[],[7,14],[]⟩ fun _ _ Z=>?_;simp(disch:=omega)[hN,aS];and_intros<;>(try omega);apply Z;refine zi ?_;refine⟨fun c2=>?_,fun c2=>?_⟩
  ·try simp at c2
   refine zk [0,1,5,7,8] ?_;refine zr ⟨[],[],[],[7,14],[]⟩ fun _ _ Z=>?_;simp(disch:=omega)[hN,aS];apply Z;apply aB;apply aQ;apply aJ;apply fD;apply aQ;apply aJ;simp [aL];exact(qV c1 hh (by simp;exact c2.symm)).symm
  try simp at c2
  apply aE;apply aK;apply aA;refine zk [0,1,5,7,8] ?_;refine zt ⟨[],[],[],[7,14],[]⟩ fun _ _ Z=>?_;simp(disch:=omega)[hN,aS];and_intros<;>(try omega);apply Z;refine zq (k+1) ?_ ?_ ?_
  ·exact⟨by omega,mP (by omega) hh (by simp;exact fun e=>c2 e.symm)⟩
  ·try dsimp only
   omega
  simp(disch:=omega)[hN,aS]
 try simp at c1
 apply bC;apply bB;apply bD;apply aX;apply aA;refine zr ⟨[],[],[],[7,14],[]⟩ fun _ _ Z=>?_;simp(disch:=omega)[hN,aS];apply Z;apply aB;simp [aL];rw [List.take_of_length_le (by omega)] at hh;exact(mF hh).symm
end Go.Proofs.YtbgfljpnhhdkoaaGreat
