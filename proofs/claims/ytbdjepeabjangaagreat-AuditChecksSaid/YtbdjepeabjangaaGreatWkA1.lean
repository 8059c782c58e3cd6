import Derived.Test.YtbdjepeabjangaaGreatWkL4
set_option maxRecDepth 20000
set_option linter.all false
set_option maxHeartbeats 8000000
open Go.Proofs.Tryz
namespace Go.Proofs.YtbdjepeabjangaaGreat
open Go Go.Vm
variable {c:ByteArray}{l:Ls}
def Dn(c:ByteArray)(l:Ls):Bool:=l.any fun x=>decide (x=c)
theorem yF(c x:ByteArray)(l:Ls):Dn c (l++ [x])=(Dn c l || decide (x=c)):=by simp [Dn]
theorem Dt {k:Nat} (h:k<l.length)(e:l[k]=c):Dn c l=true:=by
 simp only [Dn,nC,iS];exact⟨l[k],bS h,e⟩
def Cu(l:Ls)(c:ByteArray):Ls:=if Dn c l then l else l++ [c]
theorem aCv(l:Ls)(c:ByteArray):(Cu l c).length<=l.length+1:=by
 unfold Cu;split <;> simp
def Se(c:ByteArray)(l:Ls):Int:=match l.findIdx? (fun x=>decide (x=c))with | some k=>k | none=> -1
theorem aIi {k:Nat} (h:k<l.length)(hh:Dn c (l.take k)=false)(e:c=l[k]):Se c l=k:=by
 have:l.findIdx? (fun x=>decide (x=c))=some k:=by
  rw [pN];refine⟨h,by simp [e],fun j hj=>?_⟩;simp only [Dn,Am,iS] at hh;have:=hh ((l.take k)[j]'(by simp;omega)) (bS _);simpa using this
 simp [Se,this]
theorem Yq (h:Dn c l=false):Se c l= -1:=by
 have:l.findIdx? (fun x=>decide (x=c))=none:=by
  rw [pE];simpa [Dn] using h
 simp [Se,this]
theorem aCq(c:ByteArray)(l:Ls):(0<=Se c l)↔Dn c l=true:=by
 unfold Se;split
 .rename_i k h;rw [pN] at h;obtain⟨hk,he,_⟩:=h;simp only [iS] at he;simp [Dt hk he]
 rename_i h;rw [pE] at h;simp [Dn];intro e;have:=h c e;simp at this
theorem aK8(l:Ls)(c:ByteArray)(σ:List (List D))(hl:l.length<=9223372036854775807):Ct prog 136 [dl l,D.str c] σ (fun r σ'=>r= .bool (Dn c l)/\σ'=σ):=by
 refine zf func136 ?_;refine bT fun _ _ Z=>?_;simp(disch:=omega);apply Z;apply aF;refine bT fun _ _ Z=>?_;simp(disch:=omega);and_intros<;>(try omega);apply Z;apply aN;refine zk [1,4,7,8,9] ?_;refine bA (fun(k:Nat)=> [(9,.d (.int k))]) [4,6,9,10,11,12,13,14,15,16] (fun(k:Nat)=>k<=l.length/\Dn c (l.take k)=false) (fun(k:Nat)=>l.length - k) (0) (by simp <;> rfl) ?_ ?_ ?_
 .simp
 .simp [Dn]
 rintro k ⟨hk,hh⟩;simp only [aM,aK];refine bT fun _ _ Z=>?_;simp(disch:=omega);apply Z;apply aF;refine zI ?_ ?_<;>intro c1<;>try simp at c1
 .apply kL;refine bT fun _ _ Z=>?_;simp(disch:=omega);and_intros<;>(try omega);apply Z;refine bT fun _ _ Z=>?_;simp(disch:=omega);apply Z;refine zI ?_ ?_<;>intro c2<;>try simp at c2
  .refine bT fun _ _ Z=>?_;simp(disch:=omega);apply Z;apply aE;simp [aP];exact Dt c1 c2
  apply lP;refine tD fun _ _ Z=>?_;simp(disch:=omega);and_intros<;>(try omega);apply Z;refine zq (k+1) ?_ ?_ ?_
  .exact⟨by omega,by rw [bB l k (by omega),yF,hh];simp [*]⟩
  .try dsimp only
   omega
  simp(disch:=omega)
 apply zE;refine bT fun _ _ Z=>?_;simp(disch:=omega);apply Z;apply aE;simp [aP];rw [bZ (by omega)] at hh;exact hh
theorem aCj(l:Ls)(c:ByteArray)(σ:List (List D))(hl:l.length<=9223372036854775807):Ct prog 174 [dl l,D.str c] σ (fun r σ'=>r= .int (Se c l)/\σ'=σ):=by
 refine zf func174 ?_;refine bT fun _ _ Z=>?_;simp(disch:=omega);apply Z;apply aF;refine bT fun _ _ Z=>?_;simp(disch:=omega);and_intros<;>(try omega);apply Z;apply aN;refine zk [0,1,4,7,8] ?_;refine bA (fun(k:Nat)=> [(8,.d (.int k))]) [4,5,8,9,10,11,12,13,14,15,16,17,18] (fun(k:Nat)=>k<=l.length/\Dn c (l.take k)=false) (fun(k:Nat)=>l.length - k) (0) (by simp <;> rfl) ?_ ?_ ?_
 .simp
 .simp [Dn]
 rintro k ⟨hk,hh⟩;simp only [aM,aK];refine bT fun _ _ Z=>?_;simp(disch:=omega);apply Z;apply aF;refine zI ?_ ?_<;>intro c1<;>try simp at c1
 .apply kL;refine bT fun _ _ Z=>?_;simp(disch:=omega);apply Z;refine bT fun _ _ Z=>?_;simp(disch:=omega);and_intros<;>(try omega);apply Z;refine zI ?_ ?_<;>intro c2<;>try simp at c2
  .refine zk [0,1,5,7,8] ?_;refine bT fun _ _ Z=>?_;simp(disch:=omega);apply Z;apply aE;simp [aP];exact(aIi c1 hh c2).symm
  apply lP;refine zk [0,1,7,8] ?_;refine tD fun _ _ Z=>?_;simp(disch:=omega);and_intros<;>(try omega);apply Z;refine zq (k+1) ?_ ?_ ?_
  .exact⟨by omega,by rw [bB l k (by omega),yF,hh];simp;exact fun e=>c2 e.symm⟩
  .try dsimp only
   omega
  simp(disch:=omega)
 apply zE;refine bT fun _ _ Z=>?_;simp(disch:=omega);apply Z;apply aE;simp [aP];rw [bZ (by omega)] at hh;exact(Yq hh).symm
theorem Pq(l:Ls)(c:ByteArray)(σ:List (List D))(hl:l.length<=9223372036854775807):Ct prog 167 [dl l,D.str c] σ (fun r σ'=>r= .bool (Dn c l)/\σ'=σ):=by
 refine zf func167 ?_;refine bT fun _ _ Z=>?_;simp;apply Z;refine bT fun _ _ Z=>?_;refine zs 2 fun _ Y=>?_;simp;apply Y;refine aG fun _ Y=>?_;simp;refine dX (aCj _ _ _ hl) ?_;apply Y;simp;apply Z;apply aE;simp [aP,aCq]
theorem aK0(l:Ls)(c:ByteArray)(σ:List (List D))(hl:l.length<=9223372036854775807):Ct prog 155 [dl l,D.str c] σ (fun r σ'=>r= .bool (Dn c l)/\σ'=σ):=by
 refine zf func155 ?_;refine bT fun _ _ Z=>?_;simp;apply Z;refine bT fun _ _ Z=>?_;refine zs 2 fun _ Y=>?_;simp;apply Y;refine aG fun _ Y=>?_;simp;refine dX (Pq _ _ _ hl) ?_;apply Y;simp;apply Z;apply aE;simp[aP]
theorem yM(l:Ls)(σ:List (List D))(hl:l.length<=1000000):Ct prog 111 [dl l] σ (fun r σ'=>r=dlo l/\σ'=σ):=by
 refine zf func111 ?_;refine zr ⟨[2],[],[],[],[]⟩ fun _ _ Z=>?_;simp;apply Z;apply aF;refine zr ⟨[2],[],[],[],[]⟩ fun _ _ Z=>?_;refine zs 1 fun _ Y=>?_;simp;apply Y;refine aG fun _ Y=>?_;simp;refine⟨Y _ ?_,fun e1=>Y _ ?_⟩
 .simp only [fS];apply Z;refine aY (t:=false) (by simp) (fun h=>by cases h) (fun _=>?_);apply zA;refine zr ⟨[2],[],[],[],[]⟩ fun _ _ Z=>?_;simp;and_intros<;>(try omega);apply Z;apply aE;simp [aP]
 simp only [fS];apply Z;refine aY (t:=true) (by simp) (fun _=>?_) (fun h=>by cases h);refine zr ⟨[2],[],[],[],[]⟩ fun _ _ Z=>?_;simp;apply Z;apply aE;simp [aP,e1]
@[simp] abbrev q30_1:Cfg:=⟨[4,5,12,16],[],[],[],[]⟩
theorem aN1(l:Ls)(c:ByteArray)(σ:List (List D))(hl:l.length<=1000000):Ct prog 137 [dl l,D.str c] σ (fun r σ'=>r=dlo (Cu l c)/\σ'=σ):=by
 refine zf func137 ?_;refine zr q30_1 fun _ _ Z=>?_;simp;apply Z;refine zr q30_1 fun _ _ Z=>?_;refine zs 1 fun _ Y=>?_;simp;apply Y;refine aG fun _ Y=>?_;simp;refine dX (yM _ _ hl) ?_;apply Y;simp;apply Z;apply aF;refine zr q30_1 fun _ _ Z=>?_;refine zs 2 fun _ Y=>?_;simp;apply Y;refine aG fun _ Y=>?_;simp;refine dX (aK0 l _ _ (by omega)) ?_;apply Y;simp;apply Z;refine zI ?_ ?_<;>intro c1<;>try simp at c1
 .refine zt q30_1 fun _ _ Z=>?_;simp;and_intros<;>(try omega);apply Z;apply iE;refine zk [4,5] ?_;refine zr q30_1 fun _ _ Z=>?_;simp;apply Z;apply aE;simp [aP,Cu,c1]
 apply zA;refine zr q30_1 fun _ _ Z=>?_;simp;apply Z;apply aE;simp [aP,Cu,c1]
theorem Gt(l:Ls)(p:ByteArray->Bool)(f:FuncId)(caps:List D)(m cap:Nat)(rest:List D)(σ:List (List D))(hl:l.length<=9223372036854775807)(hσ:σ[m]?=some (l.map D.str++rest))(hcp:∀d∈caps,d.plain=true)(hcs:caps.map D.strip=caps)(hp:∀x τ,Ct prog f (D.str x::caps) τ (fun r τ'=>r= .bool (p x)/\τ'=τ)):Ct prog 164 [.slo m 0 l.length cap,.clo (.func f) [] caps] σ (fun r σ'=>r= .int (wG p l)/\σ'=σ):=by
 refine zf func164 ?_;refine zr ⟨[],[],[],[7,14],[]⟩ fun _ _ Z=>?_;simp(disch:=omega)[hσ,hcs,eM];apply Z;apply aF;refine zr ⟨[],[],[],[7,14],[]⟩ fun _ _ Z=>?_;simp(disch:=omega)[hσ,hcs,eM];and_intros<;>(try omega);apply Z;apply aN;refine zk [0,1,4,7,8] ?_;refine bA (fun(k:Nat)=> [(8,.d (.v (.int .i64 (k:Int))))]) [4,5,8,9,10,11,12,13,14,15,16,17,18] (fun(k:Nat)=>k<=l.length/\∀x∈l.take k,p x=false) (fun(k:Nat)=>l.length - k) (0) (by simp <;> rfl) ?_ ?_ ?_
 .simp
 .simp
 rintro k ⟨hk,hh⟩;simp only [aM,aK];refine zr ⟨[],[],[],[7,14],[]⟩ fun _ _ Z=>?_;simp(disch:=omega)[hσ,hcs,eM];apply Z;apply aF;refine zI ?_ ?_<;>intro c1<;>try simp at c1
 .apply kL;refine zr ⟨[],[],[],[7,14],[]⟩ fun _ _ Z=>?_;simp(disch:=omega)[hσ,hcs,eM];apply Z;refine zr ⟨[],[],[],[7,14],[]⟩ fun _ _ Z=>?_;refine zs 5 fun _ Y=>?_;simp(disch:=omega)[hσ,hcs,eM];and_intros<;>(try omega);apply Y;refine aG fun _ Y=>?_;simp(disch:=omega)[hσ,hcs,eM];refine⟨hcp,?_⟩;refine dX (hp l[k] _) ?_;apply Y;simp only [fS];apply Z;refine zI ?_ ?_<;>intro c2<;>try simp at c2
  .refine zk [0,1,5,7,8] ?_;refine zr ⟨[],[],[],[7,14],[]⟩ fun _ _ Z=>?_;simp(disch:=omega)[hσ,hcs,eM];apply Z;apply aE;simp [aP];exact(Dm c1 hh c2).symm
  apply lP;refine zk [0,1,7,8] ?_;refine zt ⟨[],[],[],[7,14],[]⟩ fun _ _ Z=>?_;simp(disch:=omega)[hσ,hcs,eM];and_intros<;>(try omega);apply Z;refine zq (k+1) ?_ ?_ ?_
  .exact⟨by omega,tH (by omega) hh c2⟩
  .try dsimp only
   omega
  simp(disch:=omega)[hσ,hcs,eM]
 apply zE;refine zr ⟨[],[],[],[7,14],[]⟩ fun _ _ Z=>?_;simp(disch:=omega)[hσ,hcs,eM];apply Z;apply aE;simp [aP];rw [bZ (by omega)] at hh;exact(vK hh).symm
theorem Gw(f:FuncId)(caps:List D)(σ:List (List D))(hcp:∀d∈caps,d.plain=true):Ct prog 164 [.xl 0,.clo (.func f) [] caps] σ (fun r σ'=>r= .int (-1)/\σ'=σ):=by
 refine zf func164 ?_;refine zr ⟨[],[],[],[7],[]⟩ fun _ _ Z=>?_;simp;apply Z;apply aF;refine zr ⟨[],[],[],[7],[]⟩ fun _ _ Z=>?_;simp;and_intros<;>(try omega);apply Z;apply aN;refine zk [0,1,4,7,8] ?_;refine bA (fun(k:Nat)=> [(8,.d (.int 0))]) [4,5,8,9,10,11,12,13,14,15,16,17,18] (fun(k:Nat)=>k=0) (fun(k:Nat)=>0) (0) (by simp <;> rfl) ?_ ?_ ?_
 .simp
 .rfl
 rintro k hk;simp only [aM,aK];refine zr ⟨[],[],[],[7],[]⟩ fun _ _ Z=>?_;simp;apply Z;apply aF;refine zI ?_ ?_<;>intro c1<;>try simp at c1
 apply zE;refine zr ⟨[],[],[],[7],[]⟩ fun _ _ Z=>?_;simp;apply Z;apply aE;simp [aP]
theorem Qb(p:ByteArray->Bool)(l k:Ls)(rest:List D):List.take k.length ((k++l).map D.str++rest)=k.map D.str:=by
 rw [cX,bU,Ij (by simp)];rw [bZ (by simp)]
@[simp] abbrev q30_2:Cfg:=⟨[4,13],[],[],[18,24,33,38,41],[]⟩
theorem Fq(l:Ls)(p:ByteArray->Bool)(f:FuncId)(caps:List D)(σ:List (List D))(hl:l.length<=1000000)(hne:l≠ [])(hcp:∀d∈caps,d.plain=true)(hcs:caps.map D.strip=caps)(hp:∀x τ,Ct prog f (D.str x::caps) τ (fun r τ'=>r= .bool (p x)/\τ'=τ)):Ct prog 150 [.xs 1 (l.map D.str),.clo (.func f) [] caps] σ (fun r σ'=>r= .xs 1 ((l.filter fun x=> !p x).map D.str)/\σ'=σ++ [[]]):=by
 refine zf func150 ?_;refine rE 0 1 rfl (by decide) fun cap rest hcap hcm hrest hk0 hes=>?_;simp only [cG] at hcap hrest |-;rw [nY (f:=D.str) (fun _=>rfl)];refine zr q30_2 fun _ _ Z=>?_;simp(disch:=first|omega|assumption)[hcs,eM,gN];apply Z;refine zr q30_2 fun _ _ Z=>?_;refine zs 2 fun _ Y=>?_;simp(disch:=first|omega|assumption)[hcs,eM,gN];apply Y;refine aG fun _ Y=>?_;simp(disch:=first|omega|assumption)[hcs,eM,gN];refine dX (Gt l p f caps σ.length cap rest _ (by omega) (by simp) hcp hcs hp) ?_;apply Y;simp(disch:=first|omega|assumption)[hcs,eM,gN];apply Z;apply aF;refine zr q30_2 fun _ _ Z=>?_;simp(disch:=first|omega|assumption)[hcs,eM,gN];apply Z;refine zI ?_ ?_<;>intro c1<;>try simp at c1
 .refine zr q30_2 fun _ _ Z=>?_;simp(disch:=first|omega|assumption)[hcs,eM,gN];apply Z;refine eY 4 1 σ.length l.length cap (l.map D.str) (l.map D.str++rest) (by simp <;> rfl) (by simp) (by omega) (by simp [hrest];omega) (by simp) (by simp) (by rw [nY (fun _=>rfl)];exact cU _ _) ?_;simp only [qH];apply aE;simp [aP];rcases xK p l with ⟨_,h⟩ | ⟨k,h,_⟩
  .rw [h]
  omega
 obtain⟨k0,e0,e1,e2,e3⟩:=Et c1;rw [e0];apply zA;apply aF;refine zr q30_2 fun _ _ Z=>?_;simp(disch:=first|omega|assumption)[hcs,eM,gN];and_intros<;>try first|omega|exact rfl
 apply Z;apply aN;refine zk [0,1,4,5,6] ?_;refine eO (fun(j:Nat)=> [(5,.d (.v (.int .i64 ((kp p l j).length:Int)))),(6,.d (.v (.int .i64 (j:Int))))]) (fun(j:Nat)=> []) (fun(j:Nat)=> [(σ.length,(ar p l j).map D.str++rest)]) [5,6,7,16,17,18,19,20,21,22,23,24,25,26,27,28,29,30,31,32,33,34,35] (fun(j:Nat)=>j<=l.length) (fun(j:Nat)=>l.length - j) (k0+1) (by simp <;> rfl) ?_ (by simp) (by simp [e1]) ?_ ?_
 .simp [e1,e2]
 .omega
 rintro j hj;simp only [aM,aK,dD,cJ,bK,bN];have hkl:=Po p l j hj;have hal:=Kb p l j;apply aF;refine zr q30_2 fun _ _ Z=>?_;simp(disch:=first|omega|assumption)[hcs,eM,gN];and_intros<;>try first|omega|exact rfl
 apply Z;refine zI ?_ ?_<;>intro c2<;>try simp at c2
 .apply kL;refine zr q30_2 fun _ _ Z=>?_;simp(disch:=first|omega|assumption)[hcs,eM,gN];and_intros<;>try first|omega|exact rfl
  apply Z;refine zk [0,1,4,5,6,7] ?_;refine zr q30_2 fun _ _ Z=>?_;refine zs 2 fun _ Y=>?_;simp(disch:=first|omega|assumption)[hcs,eM,gN];apply Y;refine aG fun _ Y=>?_;simp(disch:=first|omega|assumption)[hcs,eM,gN];simp only [aCu p l j (by omega)];refine⟨hcp,?_⟩;refine dX (hp l[j] _) ?_;apply Y;simp(disch:=first|omega|assumption)[hcs,eM,gN];apply Z;refine zI ?_ ?_<;>intro c3<;>try simp at c3
  .refine zr q30_2 fun _ _ Z=>?_;simp(disch:=first|omega|assumption)[hcs,eM,gN];and_intros<;>try first|omega|exact rfl
   apply Z;refine zk [0,1,4,5,6] ?_;refine zt q30_2 fun _ _ Z=>?_;simp(disch:=first|omega|assumption)[hcs,eM,gN];and_intros<;>try first|omega|exact rfl
   apply Z;apply zB;refine zt q30_2 fun _ _ Z=>?_;simp(disch:=first|omega|assumption)[hcs,eM,gN];and_intros<;>try first|omega|exact rfl
   apply Z;refine cQ (j+1) ?_ ?_ (aU rfl ?_ (by simp) (by rw [<- (Cl p l j (by omega) c3).1];simp(disch:=omega) [aCp,hal]))
   .omega
   .try dsimp only
    omega
   simp(disch:=first|omega|assumption)[hcs,eM,gN,(Cl p l j (by omega) c3).2]
  apply lP;refine zt q30_2 fun _ _ Z=>?_;simp(disch:=first|omega|assumption)[hcs,eM,gN];and_intros<;>try first|omega|exact rfl
  apply Z;refine cQ (j+1) ?_ ?_ (aU rfl ?_ (by simp) (by simp [(xN p l j (by omega) c3).1]))
  .omega
  .try dsimp only
   omega
  simp(disch:=first|omega|assumption)[hcs,eM,gN,(xN p l j (by omega) c3).2]
 apply zE;refine zr q30_2 fun _ _ Z=>?_;simp(disch:=first|omega|assumption)[hcs,eM,gN];and_intros<;>try first|omega|exact rfl
 apply Z;refine zk [0,4,5] ?_;refine zr q30_2 fun _ _ Z=>?_;simp(disch:=first|omega|assumption)[hcs,eM,gN];and_intros<;>try first|omega|exact rfl
 apply Z;refine eY 4 1 σ.length (kp p l j).length cap ((kp p l j).map D.str) ((kp p l j).map D.str++(gY #[.string ⟨#[]⟩] (l.length - (kp p l j).length)++rest)) (by simp <;> rfl) (by rw [show List.map D.str (kp p l j)=List.take (kp p l j).length (List.map D.str (ar p l j)++rest)from(Qb p _ _ rest).symm];simp [iF (z:=#[.string ⟨#[]⟩]) (k:=1) rfl,show(kp p l j).length+(l.length - (kp p l j).length)=l.length by omega,aDj D.str (ar p l j) rest l.length hal.symm]) (by omega) (by simp [hrest,iF (z:=#[.string ⟨#[]⟩]) (k:=1) rfl];omega) (by simp) (by simp) (by rw [nY (fun _=>rfl)];exact cU _ _) ?_;simp only [qH];apply aE;simp [aP];unfold kp;rw [bZ (by omega)]
theorem Fb(f:FuncId)(caps:List D)(σ:List (List D))(hcp:∀d∈caps,d.plain=true):Ct prog 150 [.xs 1 [],.clo (.func f) [] caps] σ (fun r σ'=>r= .xs 1 []/\σ'=σ):=by
 refine zf func150 ?_;refine zr ⟨[4,13],[],[],[],[]⟩ fun _ _ Z=>?_;simp;apply Z;refine zr ⟨[4,13],[],[],[],[]⟩ fun _ _ Z=>?_;refine zs 2 fun _ Y=>?_;simp;apply Y;refine aG fun _ Y=>?_;simp;refine dX (Gw f caps _ hcp) ?_;apply Y;simp;apply Z;apply aF;refine zr ⟨[4,13],[],[],[],[]⟩ fun _ _ Z=>?_;simp;apply Z;refine zI ?_ ?_<;>intro c1<;>try simp at c1
 refine zr ⟨[4,13],[],[],[],[]⟩ fun _ _ Z=>?_;simp;apply Z;apply aE;simp[aP]
theorem aKi(N:Nat)(l:Ls):Sc N (.xs 1 (l.map D.str)):=Sc.xs fun d hd e he=>by
 obtain⟨a,_,rfl⟩:=bW.1 hd;simp [D.cells] at he;subst he;exact Sc.v _
theorem Gs(l:Ls)(p:ByteArray->Bool)(f:FuncId)(caps:List D)(σ:List (List D))(hl:l.length<=1000000)(hcp:∀d∈caps,d.plain=true)(hcs:caps.map D.strip=caps)(hp:∀x τ,Ct prog f (D.str x::caps) τ (fun r τ'=>r= .bool (p x)/\τ'=τ)):
  Ct prog 150 [.xs 1 (l.map D.str),.clo (.func f) [] caps] σ (fun r σ'=>r= .xs 1 ((l.filter fun x=> !p x).map D.str)/\σ'=σ):=by
 by_cases hne:l= []
 .subst hne;exact Fb f caps σ hcp
 exact(Fq l p f caps σ hl hne hcp hcs hp).trim fun r σ' ⟨hr,hs⟩=>⟨σ, [[]],hs,rfl,by rw [hr];exact aKi _ _,fun n cs h=> .inl h,hr,rfl⟩
theorem Sy(l:Ls)(σ:List (List D))(hl:l.length<=1000000):Ct prog 111 [dl l] σ (fun r σ'=>uL 1 (l.map D.str) r/\σ'=σ):=by
 refine zf func111 ?_;refine zr ⟨[2],[],[],[7],[]⟩ fun _ _ Z=>?_;simp(disch:=first|omega|assumption);apply Z;apply aF;refine zr ⟨[2],[],[],[7],[]⟩ fun _ _ Z=>?_;refine zs 1 fun _ Y=>?_;simp(disch:=first|omega|assumption);apply Y;refine aG fun _ Y=>?_;simp(disch:=first|omega|assumption);refine⟨Y _ ?_,fun e1=>Y _ ?_⟩
 .simp only [fS];apply Z;refine aY (t:=false) (by simp) (fun h=>by cases h) (fun _=>?_);apply zA;refine zr ⟨[2],[],[],[7],[]⟩ fun _ _ Z=>?_;simp(disch:=first|omega|assumption);and_intros<;>try first|omega|exact rfl
  apply Z;apply aE;simp [aP,uL]
 simp only [fS];apply Z;refine aY (t:=true) (by simp) (fun _=>?_) (fun h=>by cases h);refine zr ⟨[2],[],[],[7],[]⟩ fun _ _ Z=>?_;simp(disch:=first|omega|assumption);apply Z;apply aE;simp [aP,uL,e1]
theorem Zs(l:Ls)(σ:List (List D))(hl:l.length<=1000000):Ct prog 111 [dl l] σ (fun r σ'=>r= .xs 1 (l.map D.str)/\σ'=σ):=(Sy l σ hl).toX fun _ _ h=>h
theorem Rq(l:Ls)(p:ByteArray->Bool)(f:FuncId)(caps:List D)(σ:List (List D))(hl:l.length<=1000000)(hcp:∀d∈caps,d.plain=true)(hcs:caps.map D.strip=caps)(hp:∀x τ,Ct prog f (D.str x::caps) τ (fun r τ'=>r= .bool (p x)/\τ'=τ)):Ct prog 122 [dl l,.clo (.func f) [] caps] σ (fun r σ'=>r= .xs 1 ((l.filter fun x=> !p x).map D.str)/\σ'=σ):=by
 refine zf func122 ?_;refine zr ⟨[4,7,8],[],[],[],[]⟩ fun _ _ Z=>?_;simp;apply Z;refine zr ⟨[4,7,8],[],[],[],[]⟩ fun _ _ Z=>?_;refine zs 1 fun _ Y=>?_;simp;apply Y;refine aG fun _ Y=>?_;simp;refine dX (Zs l _ hl) ?_;apply Y;refine zs 1 fun _ Y=>?_;simp;apply Y;refine aG fun _ Y=>?_;simp;refine dX (Gs l p f caps _ hl hcp hcs hp) ?_;apply Y;simp;apply Z;apply aE;simp[aP]
def jH(s:ByteArray):Bool:=decide (2<=s.size) && decide (s.extract 0 2=⟨#[116,45]⟩)
def oB(l:Ls):Ls:=l.filter fun x=> !jH x
theorem Pk(s:ByteArray)(σ:List (List D))  :Ct prog 151 [D.str s,D.str ⟨#[116,45]⟩] σ (fun r σ'=>r= .bool (jH s)/\σ'=σ):=by
 have h2:(⟨#[116,45]⟩:ByteArray).size=2:=rfl;refine zf func151 ?_;refine bT fun _ _ Z=>?_;simp;apply Z;refine oL ⟨[],[],[],[],[]⟩ fun all hall _ Z=>?_;have ga5:aQ all 5=some 10:=hall 5;refine zs 6 fun _ Y=>?_;simp[ga5];and_intros<;>(try omega);apply Y;refine zb 10 ?_ ?_<;>intro g1<;>try simp at g1
 .simp[ga5];and_intros<;>(try omega);apply Z;apply aE;first | (simp only [aP,h2] at *;simp [aP,jH, *,h2];done) | (simp [aP,jH,h2];intro h;omega)
 simp[ga5];apply Z;apply aE;first | (simp only [aP,h2] at *;simp [aP,jH, *,h2];done) | (simp [aP,jH,h2];intro h;omega)
theorem oS(s:ByteArray)(σ:List (List D))  :Ct prog 124 [D.str s,D.str ⟨#[116,45]⟩] σ (fun r σ'=>r= .bool (jH s)/\σ'=σ):=by
 refine zf func124 ?_;refine bT fun _ _ Z=>?_;simp;apply Z;refine bT fun _ _ Z=>?_;refine zs 2 fun _ Y=>?_;simp;apply Y;refine aG fun _ Y=>?_;simp;refine dX (Pk s _) ?_;apply Y;simp;apply Z;apply aE;simp[aP]
theorem Yi(s:ByteArray)(σ:List (List D))  :Ct prog 123 [D.str s] σ (fun r σ'=>r= .bool (jH s)/\σ'=σ):=by
 refine zf func123 ?_;refine bT fun _ _ Z=>?_;simp;apply Z;refine bT fun _ _ Z=>?_;refine zs 1 fun _ Y=>?_;simp;apply Y;refine aG fun _ Y=>?_;simp;refine dX (oS s _) ?_;apply Y;simp;apply Z;apply aE;simp[aP]
theorem Za(l:Ls)(σ:List (List D))(hl:l.length<=1000000):Ct prog 90 [dl l] σ (fun r σ'=>r= .xs 1 ((oB l).map D.str)/\σ'=σ):=by
 refine zf func90 ?_;refine zr ⟨[2],[],[],[],[]⟩ fun _ _ Z=>?_;simp;apply Z;refine zr ⟨[2],[],[],[],[]⟩ fun _ _ Z=>?_;refine zs 1 fun _ Y=>?_;simp;apply Y;refine aG fun _ Y=>?_;simp;refine dX (Rq l jH 123 [] _ hl (by simp) rfl (fun x τ=>Yi x τ)) ?_;apply Y;simp;apply Z;apply aE;simp [aP,oB]
theorem aFj(l:Ls)(σ:List (List D))(hl:l.length<=1000000):Ct prog 90 [dl l] σ (fun r σ'=>r=dl (oB l)/\σ'=σ):=(Za l σ hl).freeze fun _ _ h=>h
theorem lA(l:Ls)(k:Nat)(h:k<l.length):oB (l.take (k+1))=oB (l.take k)++if jH l[k]=true then [] else [l[k]]:=by
 unfold oB;rw [bB l k h,cT,kE];by_cases e:jH l[k]=true <;> simp [e]
theorem Ol(l:Ls):(oB l).length<=l.length:=gE _ _
theorem qU(s:ByteArray)(h:s.size<2\/¬s.extract 0 2=⟨#[116,45]⟩):jH s=false:=by
 unfold jH;rcases h with h | h
 .simp;intro h';omega
 simp [h]
theorem zJ(s:ByteArray)(h:¬s.size<2)(h2:s.extract 0 2=⟨#[116,45]⟩):jH s=true:=by
 unfold jH;simp [h2];omega
@[simp] abbrev q30_3:Cfg:=⟨[2,3,21,26],[],[],[],[]⟩
theorem aE8(l:Ls)(σ:List (List D))(hl:l.length<=1000000):Ct prog 65 [dl l] σ (fun r σ'=>r=dlo (oB l)/\σ'=σ):=by
 refine zf func65 ?_;refine zr q30_3 fun _ _ Z=>?_;simp(disch:=omega);apply Z;refine zr q30_3 fun _ _ Z=>?_;simp(disch:=omega);and_intros<;>(try omega);apply Z;apply aF;refine zr q30_3 fun _ _ Z=>?_;simp(disch:=omega);and_intros<;>(try omega);apply Z;apply aN;refine zk [2,3,7,8,9] ?_;refine bA (fun(k:Nat)=> [(9,.d (.int k)),(3,.d (dlo (oB (l.take k))))]) [3,5,9,10,11,12,13,14,15,16,17,18,19,20,21,22,23,24,25] (fun(k:Nat)=>k<=l.length) (fun(k:Nat)=>l.length - k) (0) (by simp <;> rfl) ?_ ?_ ?_
 .simp [oB]
 .simp
 rintro k hk;simp only [aM,aK];have hcl:=Ol (l.take k);simp only [bF] at hcl;refine zr q30_3 fun _ _ Z=>?_;simp(disch:=omega);apply Z;apply aF;refine zI ?_ ?_<;>intro c1<;>try simp at c1
 .apply kL;refine zr q30_3 fun _ _ Z=>?_;simp(disch:=omega);and_intros<;>(try omega);apply Z;refine oL q30_3 fun all hall _ Z=>?_;have ga3:aQ all 3=some 16:=hall 3;refine zs 4 fun _ Y=>?_;simp(disch:=omega)[ga3];and_intros<;>(try omega);apply Y;refine zb 16 ?_ ?_<;>intro g2<;>try simp at g2
  .simp(disch:=omega)[ga3];apply Z;refine aY (t:=true) (by simp) (fun _=>?_) (fun h=>by cases h);refine zk [2,3,5,7,8,9] ?_;refine zt q30_3 fun _ _ Z=>?_;simp(disch:=omega);and_intros<;>(try omega);apply Z;apply zB;refine zt q30_3 fun _ _ Z=>?_;simp(disch:=omega);and_intros<;>(try omega);apply Z;refine zq (k+1) ?_ ?_ ?_
   .omega
   .try dsimp only
    omega
   first | (simp(disch:=omega) [lA,qU l[k] (.inl (by omega))];done) | (simp(disch:=omega) [lA,qU l[k] (.inr (by assumption))];done) | (simp(disch:=omega) [lA,zJ l[k] (by omega) (by assumption)];done)
  simp(disch:=omega)[ga3];and_intros<;>(try omega);apply Z;refine zI ?_ ?_<;>intro c3<;>try simp at c3
  .refine zk [2,3,5,7,8,9] ?_;refine zt q30_3 fun _ _ Z=>?_;simp(disch:=omega);and_intros<;>(try omega);apply Z;apply zB;refine zt q30_3 fun _ _ Z=>?_;simp(disch:=omega);and_intros<;>(try omega);apply Z;refine zq (k+1) ?_ ?_ ?_
   .omega
   .try dsimp only
    omega
   first | (simp(disch:=omega) [lA,qU l[k] (.inl (by omega))];done) | (simp(disch:=omega) [lA,qU l[k] (.inr (by assumption))];done) | (simp(disch:=omega) [lA,zJ l[k] (by omega) (by assumption)];done)
  apply lP;refine zk [2,3,7,8,9] ?_;refine zt q30_3 fun _ _ Z=>?_;simp(disch:=omega);and_intros<;>(try omega);apply Z;refine zq (k+1) ?_ ?_ ?_
  .omega
  .try dsimp only
   omega
  first | (simp(disch:=omega) [lA,qU l[k] (.inl (by omega))];done) | (simp(disch:=omega) [lA,qU l[k] (.inr (by assumption))];done) | (simp(disch:=omega) [lA,zJ l[k] (by omega) (by assumption)];done)
 apply zE;refine zr q30_3 fun _ _ Z=>?_;simp(disch:=omega);apply Z;apply aE;simp [aP];rw [bZ (by omega)]
def lY(l:Ls):Ls:=l.foldl Cu []
theorem xO(l:Ls)(x:ByteArray):lY (l++ [x])=Cu (lY l) x:=by simp [lY]
theorem wV(l:Ls)(k:Nat)(h:k<l.length):lY (l.take (k+1))=Cu (lY (l.take k)) l[k]:=by rw [bB l k h,xO]
theorem aGp(c x:ByteArray)(l:Ls):Dn c (Cu l x)=(Dn c l || decide (x=c)):=by
 unfold Cu;split
 .rename_i h;by_cases e:x=c
  .subst e;simp [h]
  simp [e]
 exact yF c x l
theorem Hn(c:ByteArray)(l:Ls):Dn c (lY l)=Dn c l:=by
 induction l using uE with
 | h0=>rfl
 | h1 l x ih=>rw [xO,aGp,yF,ih]
theorem Ao(l:Ls):(lY l).length<=l.length:=by
 induction l using uE with
 | h0=>exact bG _
 | h1 l x ih=>rw [xO];have:=aCv (lY l) x;simp;omega
@[simp] abbrev q30_4:Cfg:=⟨[2,3,20,25],[],[],[],[]⟩
theorem Xv(l:Ls)(σ:List (List D))(hl:l.length<=1000000):Ct prog 108 [dl l] σ (fun r σ'=>r=dlo (lY l)/\σ'=σ):=by
 refine zf func108 ?_;refine zr q30_4 fun _ _ Z=>?_;simp(disch:=omega);apply Z;refine zr q30_4 fun _ _ Z=>?_;simp(disch:=omega);and_intros<;>(try omega);apply Z;apply aF;refine zr q30_4 fun _ _ Z=>?_;simp(disch:=omega);and_intros<;>(try omega);apply Z;apply aN;refine zk [0,2,3,7,8,9] ?_;refine bA (fun(k:Nat)=> [(9,.d (.int k)),(3,.d (dlo (lY (l.take k))))]) [3,4,5,9,10,11,12,13,14,15,16,17,18,19,20,21,22,23,24] (fun(k:Nat)=>k<=l.length) (fun(k:Nat)=>l.length - k) (0) (by simp <;> rfl) ?_ ?_ ?_
 .simp [lY]
 .simp
 rintro k hk;simp only [aM,aK];have hcl:=Ao (l.take k);simp only [bF] at hcl;refine zr q30_4 fun _ _ Z=>?_;simp(disch:=omega);apply Z;apply aF;refine zI ?_ ?_<;>intro c1<;>try simp at c1
 .apply kL;refine zr q30_4 fun _ _ Z=>?_;simp(disch:=omega);and_intros<;>(try omega);apply Z;refine zk [0,2,3,4,5,7,8,9] ?_;refine zr q30_4 fun _ _ Z=>?_;refine zs 4 fun _ Y=>?_;simp(disch:=omega);and_intros<;>(try omega);apply Y;refine aG fun _ Y=>?_;simp(disch:=omega);refine dX (aK8 (l.take k) _ _ (by simp;omega)) ?_;apply Y;simp(disch:=omega);apply Z;refine zI ?_ ?_<;>intro c2<;>try simp at c2
  .refine zk [0,2,3,5,7,8,9] ?_;refine zt q30_4 fun _ _ Z=>?_;simp(disch:=omega);and_intros<;>(try omega);apply Z;apply zB;refine zk [0,2,3,7,8,9] ?_;refine zt q30_4 fun _ _ Z=>?_;simp(disch:=omega);and_intros<;>(try omega);apply Z;refine zq (k+1) ?_ ?_ ?_
   .omega
   .try dsimp only
    omega
   simp(disch:=omega)[wV,Cu,Hn,c2]
  apply lP;refine zk [0,2,3,7,8,9] ?_;refine zt q30_4 fun _ _ Z=>?_;simp(disch:=omega);and_intros<;>(try omega);apply Z;refine zq (k+1) ?_ ?_ ?_
  .omega
  .try dsimp only
   omega
  simp(disch:=omega)[wV,Cu,Hn,c2]
 apply zE;refine zr q30_4 fun _ _ Z=>?_;simp(disch:=omega);apply Z;apply aE;simp [aP];rw [bZ (by omega)]
@[simp] abbrev q30_5:Cfg:=⟨[2,3,16],[],[],[],[]⟩
theorem aG2(l:Ls)(σ:List (List D))(hl:l.length<=100000):Ct prog 115 [dl l] σ (fun r σ'=>r=dlo (lY l)/\σ'=σ):=by
 refine zf func115 ?_;refine zr q30_5 fun _ _ Z=>?_;simp(disch:=omega);apply Z;refine zr q30_5 fun _ _ Z=>?_;simp(disch:=omega);apply Z;apply aF;refine zr q30_5 fun _ _ Z=>?_;simp(disch:=omega);and_intros<;>(try omega);apply Z;apply aN;refine zk [2,3,6,7,8] ?_;refine bA (fun(k:Nat)=> [(8,.d (.int k)),(3,.d (dlo (lY (l.take k))))]) [3,5,8,9,10,11,12,13,14,15] (fun(k:Nat)=>k<=l.length) (fun(k:Nat)=>l.length - k) (0) (by simp <;> rfl) ?_ ?_ ?_
 .simp [lY]
 .simp
 rintro k hk;simp only [aM,aK];have hcl:=Ao (l.take k);simp only [bF] at hcl;refine zr q30_5 fun _ _ Z=>?_;simp(disch:=omega);apply Z;apply aF;refine zI ?_ ?_<;>intro c1<;>try simp at c1
 .apply kL;refine zr q30_5 fun _ _ Z=>?_;simp(disch:=omega);and_intros<;>(try omega);apply Z;refine zt q30_5 fun _ _ Z=>?_;refine zs 2 fun _ Y=>?_;simp(disch:=omega);apply Y;refine aG fun _ Y=>?_;simp(disch:=omega);refine dX (aN1 (lY (l.take k)) _ _ (by omega)) ?_;apply Y;simp(disch:=omega);apply Z;apply zB;refine zk [2,3,6,7,8] ?_;refine zt q30_5 fun _ _ Z=>?_;simp(disch:=omega);and_intros<;>(try omega);apply Z;refine zq (k+1) ?_ ?_ ?_
  .omega
  .try dsimp only
   omega
  simp(disch:=omega)[wV]
 apply zE;refine zr q30_5 fun _ _ Z=>?_;simp(disch:=omega);apply Z;apply aE;simp [aP];rw [bZ (by omega)]
end Go.Proofs.YtbdjepeabjangaaGreat
