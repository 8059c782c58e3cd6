import Derived.Test.YtbdjepeabjangaaGreatWkL4
set_option maxRecDepth 20000
set_option linter.all false
set_option maxHeartbeats 8000000
open Go.Proofs.Tryz
namespace Go.Proofs.YtbdjepeabjangaaGreat
open Go Go.Vm
variable {c:ByteArray}{l:Ls}
def Jc(c:ByteArray)(l:Ls):Bool:=l.any fun x=>decide (x=c)
theorem aB0(c x:ByteArray)(l:Ls):Jc c (l++ [x])=(Jc c l || decide (x=c)):=by simp [Jc]
theorem Oh {k:Nat} (h:k<l.length)(e:l[k]=c):Jc c l=true:=by
 simp only [Jc,qN,jB];exact⟨l[k],cR h,e⟩
def Km(l:Ls)(c:ByteArray):Ls:=if Jc c l then l else l++ [c]
theorem Zm(l:Ls)(c:ByteArray):(Km l c).length<=l.length+1:=by
 unfold Km;split <;> simp
def Pt(c:ByteArray)(l:Ls):Int:=match l.findIdx? (fun x=>decide (x=c))with | some k=>k | none=> -1
theorem aEo {k:Nat} (h:k<l.length)(hh:Jc c (l.take k)=false)(e:c=l[k]):Pt c l=k:=by
 have:l.findIdx? (fun x=>decide (x=c))=some k:=by
  rw [nI];refine⟨h,by simp [e],fun j hj=>?_⟩;simp only [Jc,List.any_eq_false,jB] at hh;have:=hh ((l.take k)[j]'(by simp;omega)) (cR _);simpa using this
 simp [Pt,this]
theorem Ux (h:Jc c l=false):Pt c l= -1:=by
 have:l.findIdx? (fun x=>decide (x=c))=none:=by
  rw [nG];simpa [Jc] using h
 simp [Pt,this]
theorem aAc(c:ByteArray)(l:Ls):(0<=Pt c l)↔Jc c l=true:=by
 unfold Pt;split
 .rename_i k h;rw [nI] at h;obtain⟨hk,he,_⟩:=h;simp only [jB] at he;simp [Oh hk he]
 rename_i h;rw [nG] at h;simp [Jc];intro e;have:=h c e;simp at this
theorem aB6(l:Ls)(c:ByteArray)(σ:List (List D))(hl:l.length<=9223372036854775807):Ct prog 174 [dl l,D.str c] σ (fun r σ'=>r= .int (Pt c l)/\σ'=σ):=by
 refine zf func174 ?_;refine cL fun _ _ Z=>?_;simp(disch:=omega);apply Z;apply aE;refine cL fun _ _ Z=>?_;simp(disch:=omega);and_intros<;>(try omega);apply Z;apply aQ;refine zk [0,1,4,7,8] ?_;refine bK (fun(k:Nat)=> [(8,.d (.int k))]) [4,5,8,9,10,11,12,13,14,15,16,17,18] (fun(k:Nat)=>k<=l.length/\Jc c (l.take k)=false) (fun(k:Nat)=>l.length - k) (0) (by simp <;> rfl) ?_ ?_ ?_
 .simp
 .simp [Jc]
 rintro k ⟨hk,hh⟩;simp only [aO,aK];refine cL fun _ _ Z=>?_;simp(disch:=omega);apply Z;apply aE;refine zI ?_ ?_<;>intro c1<;>try simp at c1
 .apply mT;refine cL fun _ _ Z=>?_;simp(disch:=omega);apply Z;refine cL fun _ _ Z=>?_;simp(disch:=omega);and_intros<;>(try omega);apply Z;refine zI ?_ ?_<;>intro c2<;>try simp at c2
  .refine zk [0,1,5,7,8] ?_;refine cL fun _ _ Z=>?_;simp(disch:=omega);apply Z;apply aC;simp [aT];exact(aEo c1 hh c2).symm
  apply rK;refine zk [0,1,7,8] ?_;refine Dd fun _ _ Z=>?_;simp(disch:=omega);and_intros<;>(try omega);apply Z;refine zq (k+1) ?_ ?_ ?_
  .exact⟨by omega,by rw [bM l k (by omega),aB0,hh];simp;exact fun e=>c2 e.symm⟩
  .try dsimp only
   omega
  simp(disch:=omega)
 apply zE;refine cL fun _ _ Z=>?_;simp(disch:=omega);apply Z;apply aC;simp [aT];rw [bW (by omega)] at hh;exact(Ux hh).symm
theorem Kc(l:Ls)(c:ByteArray)(σ:List (List D))(hl:l.length<=9223372036854775807):Ct prog 167 [dl l,D.str c] σ (fun r σ'=>r= .bool (Jc c l)/\σ'=σ):=by
 refine zf func167 ?_;refine cL fun _ _ Z=>?_;simp;apply Z;refine cL fun _ _ Z=>?_;refine zs 2 fun _ Y=>?_;simp;apply Y;refine aD fun _ Y=>?_;simp;refine eH (aB6 _ _ _ hl) ?_;apply Y;simp;apply Z;apply aC;simp [aT,aAc]
theorem aGr(l:Ls)(c:ByteArray)(σ:List (List D))(hl:l.length<=9223372036854775807):Ct prog 155 [dl l,D.str c] σ (fun r σ'=>r= .bool (Jc c l)/\σ'=σ):=by
 refine zf func155 ?_;refine cL fun _ _ Z=>?_;simp;apply Z;refine cL fun _ _ Z=>?_;refine zs 2 fun _ Y=>?_;simp;apply Y;refine aD fun _ Y=>?_;simp;refine eH (Kc _ _ _ hl) ?_;apply Y;simp;apply Z;apply aC;simp[aT]
theorem wR(l:Ls)(σ:List (List D))(hl:l.length<=1000000):Ct prog 111 [dl l] σ (fun r σ'=>r=dlo l/\σ'=σ):=by
 refine zf func111 ?_;refine zr ⟨[2],[],[],[],[]⟩ fun _ _ Z=>?_;simp;apply Z;apply aE;refine zr ⟨[2],[],[],[],[]⟩ fun _ _ Z=>?_;refine zs 1 fun _ Y=>?_;simp;apply Y;refine aD fun _ Y=>?_;simp;refine⟨Y _ ?_,fun e1=>Y _ ?_⟩
 .simp only [fJ];apply Z;refine cJ (t:=false) (by simp) (fun h=>by cases h) (fun _=>?_);apply zA;refine zr ⟨[2],[],[],[],[]⟩ fun _ _ Z=>?_;simp;and_intros<;>(try omega);apply Z;apply aC;simp [aT]
 simp only [fJ];apply Z;refine cJ (t:=true) (by simp) (fun _=>?_) (fun h=>by cases h);refine zr ⟨[2],[],[],[],[]⟩ fun _ _ Z=>?_;simp;apply Z;apply aC;simp [aT,e1]
@[simp] abbrev q30_1:Cfg:=⟨[4,5,12,16],[],[],[],[]⟩
theorem aIl(l:Ls)(c:ByteArray)(σ:List (List D))(hl:l.length<=1000000):Ct prog 137 [dl l,D.str c] σ (fun r σ'=>r=dlo (Km l c)/\σ'=σ):=by
 refine zf func137 ?_;refine zr q30_1 fun _ _ Z=>?_;simp;apply Z;refine zr q30_1 fun _ _ Z=>?_;refine zs 1 fun _ Y=>?_;simp;apply Y;refine aD fun _ Y=>?_;simp;refine eH (wR _ _ hl) ?_;apply Y;simp;apply Z;apply aE;refine zr q30_1 fun _ _ Z=>?_;refine zs 2 fun _ Y=>?_;simp;apply Y;refine aD fun _ Y=>?_;simp;refine eH (aGr l _ _ (by omega)) ?_;apply Y;simp;apply Z;refine zI ?_ ?_<;>intro c1<;>try simp at c1
 .refine zt q30_1 fun _ _ Z=>?_;simp;and_intros<;>(try omega);apply Z;apply kI;refine zk [4,5] ?_;refine zr q30_1 fun _ _ Z=>?_;simp;apply Z;apply aC;simp [aT,Km,c1]
 apply zA;refine zr q30_1 fun _ _ Z=>?_;simp;apply Z;apply aC;simp [aT,Km,c1]
theorem Ds(l:Ls)(p:ByteArray->Bool)(f:FuncId)(caps:List D)(m cap:Nat)(rest:List D)(σ:List (List D))(hl:l.length<=9223372036854775807)(hσ:σ[m]?=some (l.map D.str++rest))(hcp:∀d∈caps,d.plain=true)(hcs:caps.map D.strip=caps)(hp:∀x τ,Ct prog f (D.str x::caps) τ (fun r τ'=>r= .bool (p x)/\τ'=τ)):Ct prog 164 [.slo m 0 l.length cap,.clo (.func f) [] caps] σ (fun r σ'=>r= .int (uC p l)/\σ'=σ):=by
 refine zf func164 ?_;refine zr ⟨[],[],[],[7,14],[]⟩ fun _ _ Z=>?_;simp(disch:=omega)[hσ,hcs,eE];apply Z;apply aE;refine zr ⟨[],[],[],[7,14],[]⟩ fun _ _ Z=>?_;simp(disch:=omega)[hσ,hcs,eE];and_intros<;>(try omega);apply Z;apply aQ;refine zk [0,1,4,7,8] ?_;refine bK (fun(k:Nat)=> [(8,.d (.v (.int .i64 (k:Int))))]) [4,5,8,9,10,11,12,13,14,15,16,17,18] (fun(k:Nat)=>k<=l.length/\∀x∈l.take k,p x=false) (fun(k:Nat)=>l.length - k) (0) (by simp <;> rfl) ?_ ?_ ?_
 .simp
 .simp
 rintro k ⟨hk,hh⟩;simp only [aO,aK];refine zr ⟨[],[],[],[7,14],[]⟩ fun _ _ Z=>?_;simp(disch:=omega)[hσ,hcs,eE];apply Z;apply aE;refine zI ?_ ?_<;>intro c1<;>try simp at c1
 .apply mT;refine zr ⟨[],[],[],[7,14],[]⟩ fun _ _ Z=>?_;simp(disch:=omega)[hσ,hcs,eE];apply Z;refine zr ⟨[],[],[],[7,14],[]⟩ fun _ _ Z=>?_;refine zs 5 fun _ Y=>?_;simp(disch:=omega)[hσ,hcs,eE];and_intros<;>(try omega);apply Y;refine aD fun _ Y=>?_;simp(disch:=omega)[hσ,hcs,eE];refine⟨hcp,?_⟩;refine eH (hp l[k] _) ?_;apply Y;simp only [fJ];apply Z;refine zI ?_ ?_<;>intro c2<;>try simp at c2
  .refine zk [0,1,5,7,8] ?_;refine zr ⟨[],[],[],[7,14],[]⟩ fun _ _ Z=>?_;simp(disch:=omega)[hσ,hcs,eE];apply Z;apply aC;simp [aT];exact(At c1 hh c2).symm
  apply rK;refine zk [0,1,7,8] ?_;refine zt ⟨[],[],[],[7,14],[]⟩ fun _ _ Z=>?_;simp(disch:=omega)[hσ,hcs,eE];and_intros<;>(try omega);apply Z;refine zq (k+1) ?_ ?_ ?_
  .exact⟨by omega,vY (by omega) hh c2⟩
  .try dsimp only
   omega
  simp(disch:=omega)[hσ,hcs,eE]
 apply zE;refine zr ⟨[],[],[],[7,14],[]⟩ fun _ _ Z=>?_;simp(disch:=omega)[hσ,hcs,eE];apply Z;apply aC;simp [aT];rw [bW (by omega)] at hh;exact(sM hh).symm
theorem Dl(f:FuncId)(caps:List D)(σ:List (List D))(hcp:∀d∈caps,d.plain=true):Ct prog 164 [.xl 0,.clo (.func f) [] caps] σ (fun r σ'=>r= .int (-1)/\σ'=σ):=by
 refine zf func164 ?_;refine zr ⟨[],[],[],[7],[]⟩ fun _ _ Z=>?_;simp;apply Z;apply aE;refine zr ⟨[],[],[],[7],[]⟩ fun _ _ Z=>?_;simp;and_intros<;>(try omega);apply Z;apply aQ;refine zk [0,1,4,7,8] ?_;refine bK (fun(k:Nat)=> [(8,.d (.int 0))]) [4,5,8,9,10,11,12,13,14,15,16,17,18] (fun(k:Nat)=>k=0) (fun(k:Nat)=>0) (0) (by simp <;> rfl) ?_ ?_ ?_
 .simp
 .rfl
 rintro k hk;simp only [aO,aK];refine zr ⟨[],[],[],[7],[]⟩ fun _ _ Z=>?_;simp;apply Z;apply aE;refine zI ?_ ?_<;>intro c1<;>try simp at c1
 apply zE;refine zr ⟨[],[],[],[7],[]⟩ fun _ _ Z=>?_;simp;apply Z;apply aC;simp [aT]
theorem Jj(p:ByteArray->Bool)(l k:Ls)(rest:List D):List.take k.length ((k++l).map D.str++rest)=k.map D.str:=by
 rw [dC,bN,Ep (by simp)];rw [bW (by simp)]
@[simp] abbrev q30_2:Cfg:=⟨[4,13],[],[],[18,24,33,38,41],[]⟩
theorem Be(l:Ls)(p:ByteArray->Bool)(f:FuncId)(caps:List D)(σ:List (List D))(hl:l.length<=1000000)(hne:l≠ [])(hcp:∀d∈caps,d.plain=true)(hcs:caps.map D.strip=caps)(hp:∀x τ,Ct prog f (D.str x::caps) τ (fun r τ'=>r= .bool (p x)/\τ'=τ)):Ct prog 150 [.xs 1 (l.map D.str),.clo (.func f) [] caps] σ (fun r σ'=>r= .xs 1 ((l.filter fun x=> !p x).map D.str)/\σ'=σ++ [[]]):=by
 refine zf func150 ?_;refine qI 0 1 rfl (by decide) fun cap rest hcap hcm hrest hk0 hes=>?_;simp only [cC] at hcap hrest |-;rw [mG (f:=D.str) (fun _=>rfl)];refine zr q30_2 fun _ _ Z=>?_;simp(disch:=first|omega|assumption)[hcs,eE,gD];apply Z;refine zr q30_2 fun _ _ Z=>?_;refine zs 2 fun _ Y=>?_;simp(disch:=first|omega|assumption)[hcs,eE,gD];apply Y;refine aD fun _ Y=>?_;simp(disch:=first|omega|assumption)[hcs,eE,gD];refine eH (Ds l p f caps σ.length cap rest _ (by omega) (by simp) hcp hcs hp) ?_;apply Y;simp(disch:=first|omega|assumption)[hcs,eE,gD];apply Z;apply aE;refine zr q30_2 fun _ _ Z=>?_;simp(disch:=first|omega|assumption)[hcs,eE,gD];apply Z;refine zI ?_ ?_<;>intro c1<;>try simp at c1
 .refine zr q30_2 fun _ _ Z=>?_;simp(disch:=first|omega|assumption)[hcs,eE,gD];apply Z;refine eQ 4 1 σ.length l.length cap (l.map D.str) (l.map D.str++rest) (by simp <;> rfl) (by simp) (by omega) (by simp [hrest];omega) (by simp) (by simp) (by rw [mG (fun _=>rfl)];exact dA _ _) ?_;simp only [oI];apply aC;simp [aT];rcases vI p l with ⟨_,h⟩ | ⟨k,h,_⟩
  .rw [h]
  omega
 obtain⟨k0,e0,e1,e2,e3⟩:=Cu c1;rw [e0];apply zA;apply aE;refine zr q30_2 fun _ _ Z=>?_;simp(disch:=first|omega|assumption)[hcs,eE,gD];and_intros<;>try first|omega|exact rfl
 apply Z;apply aQ;refine zk [0,1,4,5,6] ?_;refine fP (fun(j:Nat)=> [(5,.d (.v (.int .i64 ((kp p l j).length:Int)))),(6,.d (.v (.int .i64 (j:Int))))]) (fun(j:Nat)=> []) (fun(j:Nat)=> [(σ.length,(ar p l j).map D.str++rest)]) [5,6,7,16,17,18,19,20,21,22,23,24,25,26,27,28,29,30,31,32,33,34,35] (fun(j:Nat)=>j<=l.length) (fun(j:Nat)=>l.length - j) (k0+1) (by simp <;> rfl) ?_ (by simp) (by simp [e1]) ?_ ?_
 .simp [e1,e2]
 .omega
 rintro j hj;simp only [aO,aK,eM,dS,bZ,cN];have hkl:=Ln p l j hj;have hal:=Ha p l j;apply aE;refine zr q30_2 fun _ _ Z=>?_;simp(disch:=first|omega|assumption)[hcs,eE,gD];and_intros<;>try first|omega|exact rfl
 apply Z;refine zI ?_ ?_<;>intro c2<;>try simp at c2
 .apply mT;refine zr q30_2 fun _ _ Z=>?_;simp(disch:=first|omega|assumption)[hcs,eE,gD];and_intros<;>try first|omega|exact rfl
  apply Z;refine zk [0,1,4,5,6,7] ?_;refine zr q30_2 fun _ _ Z=>?_;refine zs 2 fun _ Y=>?_;simp(disch:=first|omega|assumption)[hcs,eE,gD];apply Y;refine aD fun _ Y=>?_;simp(disch:=first|omega|assumption)[hcs,eE,gD];simp only [aA3 p l j (by omega)];refine⟨hcp,?_⟩;refine eH (hp l[j] _) ?_;apply Y;simp(disch:=first|omega|assumption)[hcs,eE,gD];apply Z;refine zI ?_ ?_<;>intro c3<;>try simp at c3
  .refine zr q30_2 fun _ _ Z=>?_;simp(disch:=first|omega|assumption)[hcs,eE,gD];and_intros<;>try first|omega|exact rfl
   apply Z;refine zk [0,1,4,5,6] ?_;refine zt q30_2 fun _ _ Z=>?_;simp(disch:=first|omega|assumption)[hcs,eE,gD];and_intros<;>try first|omega|exact rfl
   apply Z;apply zB;refine zt q30_2 fun _ _ Z=>?_;simp(disch:=first|omega|assumption)[hcs,eE,gD];and_intros<;>try first|omega|exact rfl
   apply Z;refine eL (j+1) ?_ ?_ (bT rfl ?_ (by simp) (by rw [<- (zH p l j (by omega) c3).1];simp(disch:=omega) [aDh,hal]))
   .omega
   .try dsimp only
    omega
   simp(disch:=first|omega|assumption)[hcs,eE,gD,(zH p l j (by omega) c3).2]
  apply rK;refine zt q30_2 fun _ _ Z=>?_;simp(disch:=first|omega|assumption)[hcs,eE,gD];and_intros<;>try first|omega|exact rfl
  apply Z;refine eL (j+1) ?_ ?_ (bT rfl ?_ (by simp) (by simp [(uN p l j (by omega) c3).1]))
  .omega
  .try dsimp only
   omega
  simp(disch:=first|omega|assumption)[hcs,eE,gD,(uN p l j (by omega) c3).2]
 apply zE;refine zr q30_2 fun _ _ Z=>?_;simp(disch:=first|omega|assumption)[hcs,eE,gD];and_intros<;>try first|omega|exact rfl
 apply Z;refine zk [0,4,5] ?_;refine zr q30_2 fun _ _ Z=>?_;simp(disch:=first|omega|assumption)[hcs,eE,gD];and_intros<;>try first|omega|exact rfl
 apply Z;refine eQ 4 1 σ.length (kp p l j).length cap ((kp p l j).map D.str) ((kp p l j).map D.str++(gN #[.string ⟨#[]⟩] (l.length - (kp p l j).length)++rest)) (by simp <;> rfl) (by rw [show List.map D.str (kp p l j)=List.take (kp p l j).length (List.map D.str (ar p l j)++rest)from(Jj p _ _ rest).symm];simp [gX (z:=#[.string ⟨#[]⟩]) (k:=1) rfl,show(kp p l j).length+(l.length - (kp p l j).length)=l.length by omega,aBg D.str (ar p l j) rest l.length hal.symm]) (by omega) (by simp [hrest,gX (z:=#[.string ⟨#[]⟩]) (k:=1) rfl];omega) (by simp) (by simp) (by rw [mG (fun _=>rfl)];exact dA _ _) ?_;simp only [oI];apply aC;simp [aT];unfold kp;rw [bW (by omega)]
theorem Bc(f:FuncId)(caps:List D)(σ:List (List D))(hcp:∀d∈caps,d.plain=true):Ct prog 150 [.xs 1 [],.clo (.func f) [] caps] σ (fun r σ'=>r= .xs 1 []/\σ'=σ):=by
 refine zf func150 ?_;refine zr ⟨[4,13],[],[],[],[]⟩ fun _ _ Z=>?_;simp;apply Z;refine zr ⟨[4,13],[],[],[],[]⟩ fun _ _ Z=>?_;refine zs 2 fun _ Y=>?_;simp;apply Y;refine aD fun _ Y=>?_;simp;refine eH (Dl f caps _ hcp) ?_;apply Y;simp;apply Z;apply aE;refine zr ⟨[4,13],[],[],[],[]⟩ fun _ _ Z=>?_;simp;apply Z;refine zI ?_ ?_<;>intro c1<;>try simp at c1
 refine zr ⟨[4,13],[],[],[],[]⟩ fun _ _ Z=>?_;simp;apply Z;apply aC;simp[aT]
theorem aEs(N:Nat)(l:Ls):Sc N (.xs 1 (l.map D.str)):=Sc.xs fun d hd e he=>by
 obtain⟨a,_,rfl⟩:=bY.1 hd;simp [D.cells] at he;subst he;exact Sc.v _
theorem Dq(l:Ls)(p:ByteArray->Bool)(f:FuncId)(caps:List D)(σ:List (List D))(hl:l.length<=1000000)(hcp:∀d∈caps,d.plain=true)(hcs:caps.map D.strip=caps)(hp:∀x τ,Ct prog f (D.str x::caps) τ (fun r τ'=>r= .bool (p x)/\τ'=τ)):
  Ct prog 150 [.xs 1 (l.map D.str),.clo (.func f) [] caps] σ (fun r σ'=>r= .xs 1 ((l.filter fun x=> !p x).map D.str)/\σ'=σ):=by
 by_cases hne:l= []
 .subst hne;exact Bc f caps σ hcp
 exact(Be l p f caps σ hl hne hcp hcs hp).trim fun r σ' ⟨hr,hs⟩=>⟨σ, [[]],hs,rfl,by rw [hr];exact aEs _ _,fun n cs h=> .inl h,hr,rfl⟩
theorem Mx(l:Ls)(σ:List (List D))(hl:l.length<=1000000):Ct prog 111 [dl l] σ (fun r σ'=>rJ 1 (l.map D.str) r/\σ'=σ):=by
 refine zf func111 ?_;refine zr ⟨[2],[],[],[7],[]⟩ fun _ _ Z=>?_;simp(disch:=first|omega|assumption);apply Z;apply aE;refine zr ⟨[2],[],[],[7],[]⟩ fun _ _ Z=>?_;refine zs 1 fun _ Y=>?_;simp(disch:=first|omega|assumption);apply Y;refine aD fun _ Y=>?_;simp(disch:=first|omega|assumption);refine⟨Y _ ?_,fun e1=>Y _ ?_⟩
 .simp only [fJ];apply Z;refine cJ (t:=false) (by simp) (fun h=>by cases h) (fun _=>?_);apply zA;refine zr ⟨[2],[],[],[7],[]⟩ fun _ _ Z=>?_;simp(disch:=first|omega|assumption);and_intros<;>try first|omega|exact rfl
  apply Z;apply aC;simp [aT,rJ]
 simp only [fJ];apply Z;refine cJ (t:=true) (by simp) (fun _=>?_) (fun h=>by cases h);refine zr ⟨[2],[],[],[7],[]⟩ fun _ _ Z=>?_;simp(disch:=first|omega|assumption);apply Z;apply aC;simp [aT,rJ,e1]
theorem Ty(l:Ls)(σ:List (List D))(hl:l.length<=1000000):Ct prog 111 [dl l] σ (fun r σ'=>r= .xs 1 (l.map D.str)/\σ'=σ):=(Mx l σ hl).toX fun _ _ h=>h
theorem Np(l:Ls)(p:ByteArray->Bool)(f:FuncId)(caps:List D)(σ:List (List D))(hl:l.length<=1000000)(hcp:∀d∈caps,d.plain=true)(hcs:caps.map D.strip=caps)(hp:∀x τ,Ct prog f (D.str x::caps) τ (fun r τ'=>r= .bool (p x)/\τ'=τ)):Ct prog 122 [dl l,.clo (.func f) [] caps] σ (fun r σ'=>r= .xs 1 ((l.filter fun x=> !p x).map D.str)/\σ'=σ):=by
 refine zf func122 ?_;refine zr ⟨[4,7,8],[],[],[],[]⟩ fun _ _ Z=>?_;simp;apply Z;refine zr ⟨[4,7,8],[],[],[],[]⟩ fun _ _ Z=>?_;refine zs 1 fun _ Y=>?_;simp;apply Y;refine aD fun _ Y=>?_;simp;refine eH (Ty l _ hl) ?_;apply Y;refine zs 1 fun _ Y=>?_;simp;apply Y;refine aD fun _ Y=>?_;simp;refine eH (Dq l p f caps _ hl hcp hcs hp) ?_;apply Y;simp;apply Z;apply aC;simp[aT]
def oK(s:ByteArray):Bool:=decide (2<=s.size) && decide (s.extract 0 2=⟨#[116,45]⟩)
def zR(l:Ls):Ls:=l.filter fun x=> !oK x
theorem Ja(s:ByteArray)(σ:List (List D))  :Ct prog 151 [D.str s,D.str ⟨#[116,45]⟩] σ (fun r σ'=>r= .bool (oK s)/\σ'=σ):=by
 have h2:(⟨#[116,45]⟩:ByteArray).size=2:=rfl;refine zf func151 ?_;refine cL fun _ _ Z=>?_;simp;apply Z;refine vJ ⟨[],[],[],[],[]⟩ fun all hall _ Z=>?_;have ga5:aY all 5=some 10:=hall 5;refine zs 6 fun _ Y=>?_;simp[ga5];and_intros<;>(try omega);apply Y;refine zb 10 ?_ ?_<;>intro g1<;>try simp at g1
 .simp[ga5];and_intros<;>(try omega);apply Z;apply aC;first | (simp only [aT,h2] at *;simp [aT,oK, *,h2];done) | (simp [aT,oK,h2];intro h;omega)
 simp[ga5];apply Z;apply aC;first | (simp only [aT,h2] at *;simp [aT,oK, *,h2];done) | (simp [aT,oK,h2];intro h;omega)
theorem mW(s:ByteArray)(σ:List (List D))  :Ct prog 124 [D.str s,D.str ⟨#[116,45]⟩] σ (fun r σ'=>r= .bool (oK s)/\σ'=σ):=by
 refine zf func124 ?_;refine cL fun _ _ Z=>?_;simp;apply Z;refine cL fun _ _ Z=>?_;refine zs 2 fun _ Y=>?_;simp;apply Y;refine aD fun _ Y=>?_;simp;refine eH (Ja s _) ?_;apply Y;simp;apply Z;apply aC;simp[aT]
theorem Wu(s:ByteArray)(σ:List (List D))  :Ct prog 123 [D.str s] σ (fun r σ'=>r= .bool (oK s)/\σ'=σ):=by
 refine zf func123 ?_;refine cL fun _ _ Z=>?_;simp;apply Z;refine cL fun _ _ Z=>?_;refine zs 1 fun _ Y=>?_;simp;apply Y;refine aD fun _ Y=>?_;simp;refine eH (mW s _) ?_;apply Y;simp;apply Z;apply aC;simp[aT]
theorem Vx(l:Ls)(σ:List (List D))(hl:l.length<=1000000):Ct prog 90 [dl l] σ (fun r σ'=>r= .xs 1 ((zR l).map D.str)/\σ'=σ):=by
 refine zf func90 ?_;refine zr ⟨[2],[],[],[],[]⟩ fun _ _ Z=>?_;simp;apply Z;refine zr ⟨[2],[],[],[],[]⟩ fun _ _ Z=>?_;refine zs 1 fun _ Y=>?_;simp;apply Y;refine aD fun _ Y=>?_;simp;refine eH (Np l oK 123 [] _ hl (by simp) rfl (fun x τ=>Wu x τ)) ?_;apply Y;simp;apply Z;apply aC;simp [aT,zR]
theorem aA6(l:Ls)(σ:List (List D))(hl:l.length<=1000000):Ct prog 90 [dl l] σ (fun r σ'=>r=dl (zR l)/\σ'=σ):=(Vx l σ hl).freeze fun _ _ h=>h
theorem aD0(l:Ls):(zR l).length<=l.length:=gU _ _
def oD(l:Ls):Ls:=l.foldl Km []
theorem Bg(l:Ls)(x:ByteArray):oD (l++ [x])=Km (oD l) x:=by simp [oD]
theorem Pz(l:Ls)(k:Nat)(h:k<l.length):oD (l.take (k+1))=Km (oD (l.take k)) l[k]:=by rw [bM l k h,Bg]
theorem Fs(l:Ls):(oD l).length<=l.length:=by
 induction l using wF with
 | h0=>exact bD _
 | h1 l x ih=>rw [Bg];have:=Zm (oD l) x;simp;omega
@[simp] abbrev q30_3:Cfg:=⟨[2,3,16],[],[],[],[]⟩
theorem aC8(l:Ls)(σ:List (List D))(hl:l.length<=100000):Ct prog 115 [dl l] σ (fun r σ'=>r=dlo (oD l)/\σ'=σ):=by
 refine zf func115 ?_;refine zr q30_3 fun _ _ Z=>?_;simp(disch:=omega);apply Z;refine zr q30_3 fun _ _ Z=>?_;simp(disch:=omega);apply Z;apply aE;refine zr q30_3 fun _ _ Z=>?_;simp(disch:=omega);and_intros<;>(try omega);apply Z;apply aQ;refine zk [2,3,6,7,8] ?_;refine bK (fun(k:Nat)=> [(8,.d (.int k)),(3,.d (dlo (oD (l.take k))))]) [3,5,8,9,10,11,12,13,14,15] (fun(k:Nat)=>k<=l.length) (fun(k:Nat)=>l.length - k) (0) (by simp <;> rfl) ?_ ?_ ?_
 .simp [oD]
 .simp
 rintro k hk;simp only [aO,aK];have hcl:=Fs (l.take k);simp only [bB] at hcl;refine zr q30_3 fun _ _ Z=>?_;simp(disch:=omega);apply Z;apply aE;refine zI ?_ ?_<;>intro c1<;>try simp at c1
 .apply mT;refine zr q30_3 fun _ _ Z=>?_;simp(disch:=omega);and_intros<;>(try omega);apply Z;refine zt q30_3 fun _ _ Z=>?_;refine zs 2 fun _ Y=>?_;simp(disch:=omega);apply Y;refine aD fun _ Y=>?_;simp(disch:=omega);refine eH (aIl (oD (l.take k)) _ _ (by omega)) ?_;apply Y;simp(disch:=omega);apply Z;apply zB;refine zk [2,3,6,7,8] ?_;refine zt q30_3 fun _ _ Z=>?_;simp(disch:=omega);and_intros<;>(try omega);apply Z;refine zq (k+1) ?_ ?_ ?_
  .omega
  .try dsimp only
   omega
  simp(disch:=omega)[Pz]
 apply zE;refine zr q30_3 fun _ _ Z=>?_;simp(disch:=omega);apply Z;apply aC;simp [aT];rw [bW (by omega)]
end Go.Proofs.YtbdjepeabjangaaGreat
