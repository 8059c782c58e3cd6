import Derived.Test.YtbgfljpnhhdkoaaGreatWkAr1
import Derived.Test.YtbgfljpnhhdkoaaGreatVmX7
open Go.Proofs.Tryz
namespace Go.Proofs.YtbgfljpnhhdkoaaGreat
open Go Go.Vm
set_option maxRecDepth 20000
set_option linter.all false
set_option maxHeartbeats 8000000
abbrev Ls:=List ByteArray
@[simp] abbrev dl(l:Ls):D:= .sl false (l.map D.str)
@[simp] abbrev dlo(l:Ls):D:= .sl true (l.map D.str)
def sY(c:ByteArray)(l:Ls):Bool:=l.any fun x=>decide (x=c)
theorem Jv(c x:ByteArray)(l:Ls):sY c (l++ [x])=(sY c l || decide (x=c)):=by simp [sY]
theorem Bg {c:ByteArray} {l:Ls} {k:Nat} (h:k<l.length)(e:l[k]=c):sY c l=true:=by
 simp only [sY,List.any_eq_true,decide_eq_true_eq];exact⟨l[k],List.getElem_mem h,e⟩
def Ta(l:Ls)(c:ByteArray):Ls:=if sY c l then l else l++ [c]
def Mp(c:ByteArray)(l:Ls):Int:=match l.findIdx? (fun x=>decide (x=c))with | some k=>k | none=> -1
theorem aEs {c:ByteArray} {l:Ls} {k:Nat} (h:k<l.length)(hh:sY c (l.take k)=false)(e:c=l[k]):Mp c l=k:=by
 have:l.findIdx? (fun x=>decide (x=c))=some k:=by
  rw [List.findIdx?_eq_some_iff_getElem];refine⟨h,by simp [e],fun j hj=>?_⟩;simp only [sY,List.any_eq_false,decide_eq_true_eq] at hh;have:=hh ((l.take k)[j]'(by simp;omega)) (List.getElem_mem _);simpa using this
 simp [Mp,this]
theorem Sy {c:ByteArray} {l:Ls} (h:sY c l=false):Mp c l= -1:=by
 have:l.findIdx? (fun x=>decide (x=c))=none:=by
  rw [List.findIdx?_eq_none_iff];simpa [sY] using h
 simp [Mp,this]
theorem aCe(c:ByteArray)(l:Ls):(0≤Mp c l)↔sY c l=true:=by
 unfold Mp;split
 ·rename_i k h;rw [List.findIdx?_eq_some_iff_getElem] at h;obtain⟨hk,he,_⟩:=h;simp only [decide_eq_true_eq] at he;simp [Bg hk he]
 rename_i h;rw [List.findIdx?_eq_none_iff] at h;simp [sY];intro e;have:=h c e;simp at this
def lG(l:Ls)(c:ByteArray):Ls:=l.filter fun x=> !decide (x=c)
theorem Lo(l:Ls)(x c:ByteArray):lG (l++ [x]) c=lG l c++if x=c then [] else [x]:=by
 simp [lG,List.filter_append,List.filter_cons]
theorem zY(l:Ls)(c:ByteArray)(k:Nat)(h:k<l.length):lG (l.take (k+1)) c=lG (l.take k) c++if l[k]=c then [] else [l[k]]:=by rw [dL l k h,Lo]
theorem Dn(l:Ls)(c:ByteArray):(lG l c).length≤l.length:=List.length_filter_le _ _
theorem Qn(l:Ls)(c:ByteArray)(σ:List (List D))(hl:l.length≤9223372036854775807):Ct prog 77 [dl l,D.str c] σ (fun r σ'=>r= .bool (sY c l)∧σ'=σ):=by
 refine zf (rs:=[.tmp 4]) func77 ntmps77 results77 ?_;simp only [aN];refine aY fun _ _ Z=>?_;simp(disch:=omega);apply Z;apply aC;refine aY fun _ _ Z=>?_;simp(disch:=omega);and_intros<;>(try omega);apply Z;apply aG;refine zk [1,4,7,8,9] ?_;refine bI (fun(k:Nat)=> [(9,.d (.int k))]) [4,6,9,10,11,12,13,14,15,16] (fun(k:Nat)=>k≤l.length∧sY c (l.take k)=false) (fun(k:Nat)=>l.length - k) (0) (by simp <;> rfl) ?_ ?_ ?_
 ·simp
 ·simp [sY]
 rintro k ⟨hk,hh⟩;simp only [List.cons_append,List.nil_append];refine aY fun _ _ Z=>?_;simp(disch:=omega);apply Z;apply aC;refine zi ?_;refine⟨fun c1=>?_,fun c1=>?_⟩
 ·try simp at c1
  apply aE;apply aA;apply aC;apply aG;refine aY fun _ _ Z=>?_;simp(disch:=omega);and_intros<;>(try omega);apply Z;refine aY fun _ _ Z=>?_;simp(disch:=omega);apply Z;refine zi ?_;refine⟨fun c2=>?_,fun c2=>?_⟩
  ·try simp at c2
   refine aY fun _ _ Z=>?_;simp(disch:=omega);apply Z;apply aB;apply aQ;apply aJ;apply fD;apply aQ;apply aJ;simp [aL];exact Bg c1 c2
  try simp at c2
  apply aE;apply aK;apply aA;refine yL fun _ _ Z=>?_;simp(disch:=omega);and_intros<;>(try omega);apply Z;refine zq (k+1) ?_ ?_ ?_
  ·exact⟨by omega,by rw [dL l k (by omega),Jv,hh];simp [*]⟩
  ·try dsimp only
   omega
  simp(disch:=omega)
 try simp at c1
 apply bC;apply bB;apply bD;apply aX;apply aA;refine aY fun _ _ Z=>?_;simp(disch:=omega);apply Z;apply aB;simp [aL];rw [List.take_of_length_le (by omega)] at hh;exact hh
@[simp] abbrev qAr21:Cfg:=⟨[4,5,18,23],[],[],[],[]⟩
theorem aB0(l:Ls)(c:ByteArray)(σ:List (List D))(hl:l.length≤1000000):Ct prog 78 [dl l,D.str c] σ (fun r σ'=>r=dlo (lG l c)∧σ'=σ):=by
 refine zf (rs:=[.tmp 4]) func78 ntmps78 results78 ?_;simp only [aN];refine zr qAr21 fun _ _ Z=>?_;simp(disch:=omega);apply Z;refine zr qAr21 fun _ _ Z=>?_;simp(disch:=omega);and_intros<;>(try omega);apply Z;apply aC;refine zr qAr21 fun _ _ Z=>?_;simp(disch:=omega);and_intros<;>(try omega);apply Z;apply aG;refine zk [1,4,5,9,10,11] ?_;refine bI (fun(k:Nat)=> [(11,.d (.int k)),(5,.d (dlo (lG (l.take k) c)))]) [5,7,11,12,13,14,15,16,17,18,19,20,21,22] (fun(k:Nat)=>k≤l.length) (fun(k:Nat)=>l.length - k) (0) (by simp <;> rfl) ?_ ?_ ?_
 ·simp [lG]
 ·simp
 rintro k hk;simp only [List.cons_append,List.nil_append];have hcl:=Dn (l.take k) c;simp only [List.length_take] at hcl;refine zr qAr21 fun _ _ Z=>?_;simp(disch:=omega);apply Z;apply aC;refine zi ?_;refine⟨fun c1=>?_,fun c1=>?_⟩
 ·try simp at c1
  apply aE;apply aA;apply aC;apply aG;refine zr qAr21 fun _ _ Z=>?_;simp(disch:=omega);and_intros<;>(try omega);apply Z;refine zr qAr21 fun _ _ Z=>?_;simp(disch:=omega);apply Z;refine zi ?_;refine⟨fun c2=>?_,fun c2=>?_⟩
  ·try simp at c2
   refine zk [1,4,5,7,9,10,11] ?_;refine zt qAr21 fun _ _ Z=>?_;simp(disch:=omega);and_intros<;>(try omega);apply Z;apply aK;apply aA;refine zk [1,4,5,9,10,11] ?_;refine zt qAr21 fun _ _ Z=>?_;simp(disch:=omega);and_intros<;>(try omega);apply Z;refine zq (k+1) ?_ ?_ ?_
   ·omega
   ·try dsimp only
    omega
   simp(disch:=omega)[zY,c2]
  try simp at c2
  apply aE;apply aK;apply aA;refine zk [1,4,5,9,10,11] ?_;refine zt qAr21 fun _ _ Z=>?_;simp(disch:=omega);and_intros<;>(try omega);apply Z;refine zq (k+1) ?_ ?_ ?_
  ·omega
  ·try dsimp only
   omega
  simp(disch:=omega)[zY,c2]
 try simp at c1
 apply bC;apply bB;apply bD;apply aX;apply aA;refine zr qAr21 fun _ _ Z=>?_;simp(disch:=omega);apply Z;apply aB;simp [aL];rw [List.take_of_length_le (by omega)]
theorem Ya(l:Ls)(c:ByteArray)(σ:List (List D))(hl:l.length≤9223372036854775807):Ct prog 255 [dl l,D.str c] σ (fun r σ'=>r= .int (Mp c l)∧σ'=σ):=by
 refine zf (rs:=[.tmp 4]) func255 ntmps255 results255 ?_;simp only [aN];refine aY fun _ _ Z=>?_;simp(disch:=omega);apply Z;apply aC;refine aY fun _ _ Z=>?_;simp(disch:=omega);and_intros<;>(try omega);apply Z;apply aG;refine zk [0,1,4,7,8] ?_;refine bI (fun(k:Nat)=> [(8,.d (.int k))]) [4,5,8,9,10,11,12,13,14,15,16,17,18] (fun(k:Nat)=>k≤l.length∧sY c (l.take k)=false) (fun(k:Nat)=>l.length - k) (0) (by simp <;> rfl) ?_ ?_ ?_
 ·simp
 ·simp [sY]
 rintro k ⟨hk,hh⟩;simp only [List.cons_append,List.nil_append];refine aY fun _ _ Z=>?_;simp(disch:=omega);apply Z;apply aC;refine zi ?_;refine⟨fun c1=>?_,fun c1=>?_⟩
 ·try simp at c1
  apply aE;apply aA;apply aC;apply aG;refine aY fun _ _ Z=>?_;simp(disch:=omega);apply Z;refine aY fun _ _ Z=>?_;simp(disch:=omega);and_intros<;>(try omega);apply Z;refine zi ?_;refine⟨fun c2=>?_,fun c2=>?_⟩
  ·try simp at c2
   refine zk [0,1,5,7,8] ?_;refine aY fun _ _ Z=>?_;simp(disch:=omega);apply Z;apply aB;apply aQ;apply aJ;apply fD;apply aQ;apply aJ;simp [aL];exact(aEs c1 hh c2).symm
  try simp at c2
  apply aE;apply aK;apply aA;refine zk [0,1,7,8] ?_;refine yL fun _ _ Z=>?_;simp(disch:=omega);and_intros<;>(try omega);apply Z;refine zq (k+1) ?_ ?_ ?_
  ·exact⟨by omega,by rw [dL l k (by omega),Jv,hh];simp;exact fun e=>c2 e.symm⟩
  ·try dsimp only
   omega
  simp(disch:=omega)
 try simp at c1
 apply bC;apply bB;apply bD;apply aX;apply aA;refine aY fun _ _ Z=>?_;simp(disch:=omega);apply Z;apply aB;simp [aL];rw [List.take_of_length_le (by omega)] at hh;exact(Sy hh).symm
theorem Ju(l:Ls)(c:ByteArray)(σ:List (List D))(hl:l.length≤9223372036854775807):Ct prog 229 [dl l,D.str c] σ (fun r σ'=>r= .bool (sY c l)∧σ'=σ):=by
 refine zf (rs:=[.tmp 4]) func229 ntmps229 results229 ?_;simp only [aN];refine aY fun _ _ Z=>?_;simp;apply Z;refine aY fun _ _ Z=>?_;refine zs 2 fun _ Y=>?_;simp;apply Y;refine aD fun _ Y=>?_;simp;refine cH (Ya _ _ _ hl) ?_;apply Y;simp;apply Z;apply aB;simp [aL,aCe]
theorem uS(l:Ls)(c:ByteArray)(σ:List (List D))(hl:l.length≤9223372036854775807):Ct prog 195 [dl l,D.str c] σ (fun r σ'=>r= .bool (sY c l)∧σ'=σ):=by
 refine zf (rs:=[.tmp 4]) func195 ntmps195 results195 ?_;simp only [aN];refine aY fun _ _ Z=>?_;simp;apply Z;refine aY fun _ _ Z=>?_;refine zs 2 fun _ Y=>?_;simp;apply Y;refine aD fun _ Y=>?_;simp;refine cH (Ju _ _ _ hl) ?_;apply Y;simp;apply Z;apply aB;simp[aL]
theorem Ho(l:Ls)(σ:List (List D))(hl:l.length≤1000000):Ct prog 152 [dl l] σ (fun r σ'=>r=dlo l∧σ'=σ):=by
 refine zf (rs:=[.tmp 2]) func152 ntmps152 results152 ?_;simp only [aN];refine zr ⟨[2],[],[],[],[]⟩ fun _ _ Z=>?_;simp;apply Z;apply aC;refine zr ⟨[2],[],[],[],[]⟩ fun _ _ Z=>?_;refine zs 1 fun _ Y=>?_;simp;apply Y;refine aD fun _ Y=>?_;simp;refine⟨Y _ ?_,fun e1=>Y _ ?_⟩
 ·skip
  simp only [dV];apply Z;refine bM (t:=false) (by simp) (fun h=>by cases h) (fun _=>?_);apply aE;apply aA;refine zr ⟨[2],[],[],[],[]⟩ fun _ _ Z=>?_;simp;and_intros<;>(try omega);apply Z;apply aB;simp [aL]
 skip
 simp only [dV];apply Z;refine bM (t:=true) (by simp) (fun _=>?_) (fun h=>by cases h);refine zr ⟨[2],[],[],[],[]⟩ fun _ _ Z=>?_;simp;apply Z;apply aB;apply aJ;simp [aL,e1]
@[simp] abbrev qAr22:Cfg:=⟨[4,5,12,16],[],[],[],[]⟩
theorem aI6(l:Ls)(c:ByteArray)(σ:List (List D))(hl:l.length≤1000000):Ct prog 186 [dl l,D.str c] σ (fun r σ'=>r=dlo (Ta l c)∧σ'=σ):=by
 refine zf (rs:=[.tmp 4]) func186 ntmps186 results186 ?_;simp only [aN];refine zr qAr22 fun _ _ Z=>?_;simp;apply Z;refine zr qAr22 fun _ _ Z=>?_;refine zs 1 fun _ Y=>?_;simp;apply Y;refine aD fun _ Y=>?_;simp;refine cH (Ho _ _ hl) ?_;apply Y;simp;apply Z;apply aC;refine zr qAr22 fun _ _ Z=>?_;refine zs 2 fun _ Y=>?_;simp;apply Y;refine aD fun _ Y=>?_;simp;refine cH (uS l _ _ (by omega)) ?_;apply Y;simp;apply Z;refine zi ?_;refine⟨fun c1=>?_,fun c1=>?_⟩
 ·try simp at c1
  refine zt qAr22 fun _ _ Z=>?_;simp;and_intros<;>(try omega);apply Z;apply aA;refine zk [4,5] ?_;refine zr qAr22 fun _ _ Z=>?_;simp;apply Z;apply aB;simp [aL,Ta,c1]
 try simp at c1
 apply aE;apply aA;refine zr qAr22 fun _ _ Z=>?_;simp;apply Z;apply aB;simp [aL,Ta,c1]
theorem Bx(l:Ls)(p:ByteArray→Bool)(f:FuncId)(caps:List D)(m cap:Nat)(rest:List D)(σ:List (List D))(hl:l.length≤9223372036854775807)(hσ:σ[m]?=some (l.map D.str++rest))(hcp:∀d∈caps,d.plain=true)(hcs:caps.map D.strip=caps)(hp:∀x τ,Ct prog f (D.str x::caps) τ (fun r τ'=>r= .bool (p x)∧τ'=τ)):Ct prog 226 [.slo m 0 l.length cap,.clo (.func f) [] caps] σ (fun r σ'=>r= .int (rS p l)∧σ'=σ):=by
 refine zf (rs:=[.tmp 4]) func226 ntmps226 results226 ?_;simp only [aN];refine zr ⟨[],[],[],[7,14],[]⟩ fun _ _ Z=>?_;simp(disch:=omega)[hσ,hcs,aS];apply Z;apply aC;refine zr ⟨[],[],[],[7,14],[]⟩ fun _ _ Z=>?_;simp(disch:=omega)[hσ,hcs,aS];and_intros<;>(try omega);apply Z;apply aG;refine zk [0,1,4,7,8] ?_;refine bI (fun(k:Nat)=> [(8,.d (.v (.int .i64 (k:Int))))]) [4,5,8,9,10,11,12,13,14,15,16,17,18] (fun(k:Nat)=>k≤l.length∧∀x∈l.take k,p x=false) (fun(k:Nat)=>l.length - k) (0) (by simp <;> rfl) ?_ ?_ ?_
 ·simp
 ·simp
 rintro k ⟨hk,hh⟩;simp only [List.cons_append,List.nil_append];refine zr ⟨[],[],[],[7,14],[]⟩ fun _ _ Z=>?_;simp(disch:=omega)[hσ,hcs,aS];apply Z;apply aC;refine zi ?_;refine⟨fun c1=>?_,fun c1=>?_⟩
 ·try simp at c1
  apply aE;apply aA;apply aC;apply aG;refine zr ⟨[],[],[],[7,14],[]⟩ fun _ _ Z=>?_;simp(disch:=omega)[hσ,hcs,aS];apply Z;refine zr ⟨[],[],[],[7,14],[]⟩ fun _ _ Z=>?_;refine zs 5 fun _ Y=>?_;simp(disch:=omega)[hσ,hcs,aS];and_intros<;>(try omega);apply Y;refine aD fun _ Y=>?_;simp(disch:=omega)[hσ,hcs,aS];refine⟨hcp,?_⟩;refine cH (hp l[k] _) ?_;apply Y;simp only [dV];apply Z;refine zi ?_;refine⟨fun c2=>?_,fun c2=>?_⟩
  ·try simp at c2
   refine zk [0,1,5,7,8] ?_;refine zr ⟨[],[],[],[7,14],[]⟩ fun _ _ Z=>?_;simp(disch:=omega)[hσ,hcs,aS];apply Z;apply aB;apply aQ;apply aJ;apply fD;apply aQ;apply aJ;simp [aL];exact(qV c1 hh c2).symm
  try simp at c2
  apply aE;apply aK;apply aA;refine zk [0,1,7,8] ?_;refine zt ⟨[],[],[],[7,14],[]⟩ fun _ _ Z=>?_;simp(disch:=omega)[hσ,hcs,aS];and_intros<;>(try omega);apply Z;refine zq (k+1) ?_ ?_ ?_
  ·exact⟨by omega,mP (by omega) hh c2⟩
  ·try dsimp only
   omega
  simp(disch:=omega)[hσ,hcs,aS]
 try simp at c1
 apply bC;apply bB;apply bD;apply aX;apply aA;refine zr ⟨[],[],[],[7,14],[]⟩ fun _ _ Z=>?_;simp(disch:=omega)[hσ,hcs,aS];apply Z;apply aB;simp [aL];rw [List.take_of_length_le (by omega)] at hh;exact(mF hh).symm
theorem Bz(f:FuncId)(caps:List D)(σ:List (List D))(hcp:∀d∈caps,d.plain=true):Ct prog 226 [.xl 0,.clo (.func f) [] caps] σ (fun r σ'=>r= .int (-1)∧σ'=σ):=by
 refine zf (rs:=[.tmp 4]) func226 ntmps226 results226 ?_;simp only [aN];refine zr ⟨[],[],[],[7],[]⟩ fun _ _ Z=>?_;simp;apply Z;apply aC;refine zr ⟨[],[],[],[7],[]⟩ fun _ _ Z=>?_;simp;and_intros<;>(try omega);apply Z;apply aG;refine zk [0,1,4,7,8] ?_;refine bI (fun(k:Nat)=> [(8,.d (.int 0))]) [4,5,8,9,10,11,12,13,14,15,16,17,18] (fun(k:Nat)=>k=0) (fun(k:Nat)=>0) (0) (by simp <;> rfl) ?_ ?_ ?_
 ·simp
 ·rfl
 rintro k hk;simp only [List.cons_append,List.nil_append];refine zr ⟨[],[],[],[7],[]⟩ fun _ _ Z=>?_;simp;apply Z;apply aC;refine zi ?_;refine⟨fun c1=>?_,fun c1=>?_⟩
 ·simp at c1
 try simp at c1
 apply bC;apply bB;apply bD;apply aX;apply aA;refine zr ⟨[],[],[],[7],[]⟩ fun _ _ Z=>?_;simp;apply Z;apply aB;simp [aL]
theorem Jc(p:ByteArray→Bool)(l k:Ls)(rest:List D):List.take k.length ((k++l).map D.str++rest)=k.map D.str:=by
 rw [List.map_append,List.append_assoc,List.take_append_of_le_length (by simp)];rw [List.take_of_length_le (by simp)]
@[simp] abbrev qAr23:Cfg:=⟨[4,13],[],[],[18,24,33,38,41],[]⟩
theorem Bc(l:Ls)(p:ByteArray→Bool)(f:FuncId)(caps:List D)(σ:List (List D))(hl:l.length≤1000000)(hne:l≠ [])(hcp:∀d∈caps,d.plain=true)(hcs:caps.map D.strip=caps)(hp:∀x τ,Ct prog f (D.str x::caps) τ (fun r τ'=>r= .bool (p x)∧τ'=τ)):Ct prog 268 [.xs 1 (l.map D.str),.clo (.func f) [] caps] σ (fun r σ'=>r= .xs 1 ((l.filter fun x=> !p x).map D.str)∧σ'=σ++ [[]]):=by
 refine zf (rs:=[.tmp 4]) func268 ntmps268 results268 ?_;simp only [aN];refine kR 0 1 rfl (by decide) fun cap rest hcap hcm hrest hk0 hes=>?_;simp only [List.length_map] at hcap hrest ⊢;rw [eO (f:=D.str) (fun _=>rfl)];refine zr qAr23 fun _ _ Z=>?_;simp(disch:=first|omega|assumption)[hcs,aS,cC];apply Z;refine zr qAr23 fun _ _ Z=>?_;refine zs 2 fun _ Y=>?_;simp(disch:=first|omega|assumption)[hcs,aS,cC];apply Y;refine aD fun _ Y=>?_;simp(disch:=first|omega|assumption)[hcs,aS,cC];refine cH (Bx l p f caps σ.length cap rest _ (by omega) (by simp) hcp hcs hp) ?_;apply Y;simp(disch:=first|omega|assumption)[hcs,aS,cC];apply Z;apply aC;refine zr qAr23 fun _ _ Z=>?_;simp(disch:=first|omega|assumption)[hcs,aS,cC];apply Z;refine zi ?_;refine⟨fun c1=>?_,fun c1=>?_⟩
 ·try simp at c1
  refine zr qAr23 fun _ _ Z=>?_;simp(disch:=first|omega|assumption)[hcs,aS,cC];apply Z;refine cV 4 1 σ.length l.length cap (l.map D.str) (l.map D.str++rest) (by simp <;> rfl) (by simp) (by omega) (by simp [hrest];omega) (by simp) (by simp) (by rw [eO (fun _=>rfl)];exact List.prefix_append _ _) ?_;simp only [jZ];apply aB;apply aJ;simp [aL];rcases oV p l with ⟨_,h⟩ | ⟨k,h,_⟩
  ·rw [h]
  omega
 try simp at c1
 obtain⟨k0,e0,e1,e2,e3⟩:=tP c1;rw [e0];apply aE;apply aA;apply aC;refine zr qAr23 fun _ _ Z=>?_;simp(disch:=first|omega|assumption)[hcs,aS,cC];and_intros<;>try first|omega|exact rfl
 apply Z;apply aG;refine zk [0,1,4,5,6] ?_;refine oB (fun(j:Nat)=> [(5,.d (.v (.int .i64 ((kp p l j).length:Int)))),(6,.d (.v (.int .i64 (j:Int))))]) (fun(j:Nat)=> []) (fun(j:Nat)=> [(σ.length,(ar p l j).map D.str++rest)]) [5,6,7,16,17,18,19,20,21,22,23,24,25,26,27,28,29,30,31,32,33,34,35] (fun(j:Nat)=>j≤l.length) (fun(j:Nat)=>l.length - j) (k0+1) (by simp <;> rfl) ?_ (by simp) (by simp [e1]) ?_ ?_
 ·simp [e1,e2]
 ·omega
 rintro j hj;simp only [List.cons_append,List.nil_append,nT,mD,List.set_cons_zero,List.set_cons_succ];have hkl:=Du p l j hj;have hal:=Bk p l j;apply aC;refine zr qAr23 fun _ _ Z=>?_;simp(disch:=first|omega|assumption)[hcs,aS,cC];and_intros<;>try first|omega|exact rfl
 apply Z;refine zi ?_;refine⟨fun c2=>?_,fun c2=>?_⟩
 ·try simp at c2
  apply aE;apply aA;apply aC;apply aG;refine zr qAr23 fun _ _ Z=>?_;simp(disch:=first|omega|assumption)[hcs,aS,cC];and_intros<;>try first|omega|exact rfl
  apply Z;refine zk [0,1,4,5,6,7] ?_;refine zr qAr23 fun _ _ Z=>?_;refine zs 2 fun _ Y=>?_;simp(disch:=first|omega|assumption)[hcs,aS,cC];apply Y;refine aD fun _ Y=>?_;simp(disch:=first|omega|assumption)[hcs,aS,cC];simp only [Qc p l j (by omega)];refine⟨hcp,?_⟩;refine cH (hp l[j] _) ?_;apply Y;simp(disch:=first|omega|assumption)[hcs,aS,cC];apply Z;refine zi ?_;refine⟨fun c3=>?_,fun c3=>?_⟩
  ·try simp at c3
   refine zr qAr23 fun _ _ Z=>?_;simp(disch:=first|omega|assumption)[hcs,aS,cC];and_intros<;>try first|omega|exact rfl
   apply Z;refine zk [0,1,4,5,6] ?_;refine zt qAr23 fun _ _ Z=>?_;simp(disch:=first|omega|assumption)[hcs,aS,cC];and_intros<;>try first|omega|exact rfl
   apply Z;apply aK;apply aA;refine zt qAr23 fun _ _ Z=>?_;simp(disch:=first|omega|assumption)[hcs,aS,cC];and_intros<;>try first|omega|exact rfl
   apply Z;refine dU (j+1) ?_ ?_ (dD rfl ?_ (by simp) (by rw [← (sD p l j (by omega) c3).1];simp(disch:=omega) [Hr,hal]))
   ·omega
   ·try dsimp only
    omega
   simp(disch:=first|omega|assumption)[hcs,aS,cC,(sD p l j (by omega) c3).2]
  try simp at c3
  apply aE;apply aK;apply aA;refine zt qAr23 fun _ _ Z=>?_;simp(disch:=first|omega|assumption)[hcs,aS,cC];and_intros<;>try first|omega|exact rfl
  apply Z;refine dU (j+1) ?_ ?_ (dD rfl ?_ (by simp) (by simp [(oE p l j (by omega) c3).1]))
  ·omega
  ·try dsimp only
   omega
  simp(disch:=first|omega|assumption)[hcs,aS,cC,(oE p l j (by omega) c3).2]
 try simp at c2
 apply bC;apply bB;apply bD;apply aX;apply aA;refine zr qAr23 fun _ _ Z=>?_;simp(disch:=first|omega|assumption)[hcs,aS,cC];and_intros<;>try first|omega|exact rfl
 apply Z;refine zk [0,4,5] ?_;refine zr qAr23 fun _ _ Z=>?_;simp(disch:=first|omega|assumption)[hcs,aS,cC];and_intros<;>try first|omega|exact rfl
 apply Z;refine cV 4 1 σ.length (kp p l j).length cap ((kp p l j).map D.str) ((kp p l j).map D.str++(eZ #[.string ⟨#[]⟩] (l.length - (kp p l j).length)++rest)) (by simp <;> rfl) (by rw [show List.map D.str (kp p l j)=List.take (kp p l j).length (List.map D.str (ar p l j)++rest)from(Jc p _ _ rest).symm];simp [eX (z:=#[.string ⟨#[]⟩]) (k:=1) rfl,show(kp p l j).length+(l.length - (kp p l j).length)=l.length by omega,Jx D.str (ar p l j) rest l.length hal.symm]) (by omega) (by simp [hrest,eX (z:=#[.string ⟨#[]⟩]) (k:=1) rfl];omega) (by simp) (by simp) (by rw [eO (fun _=>rfl)];exact List.prefix_append _ _) ?_;simp only [jZ];apply aB;simp [aL];unfold kp;rw [List.take_of_length_le (by omega)]
theorem zE(f:FuncId)(caps:List D)(σ:List (List D))(hcp:∀d∈caps,d.plain=true):Ct prog 268 [.xs 1 [],.clo (.func f) [] caps] σ (fun r σ'=>r= .xs 1 []∧σ'=σ):=by
 refine zf (rs:=[.tmp 4]) func268 ntmps268 results268 ?_;simp only [aN];refine zr ⟨[4,13],[],[],[],[]⟩ fun _ _ Z=>?_;simp;apply Z;refine zr ⟨[4,13],[],[],[],[]⟩ fun _ _ Z=>?_;refine zs 2 fun _ Y=>?_;simp;apply Y;refine aD fun _ Y=>?_;simp;refine cH (Bz f caps _ hcp) ?_;apply Y;simp;apply Z;apply aC;refine zr ⟨[4,13],[],[],[],[]⟩ fun _ _ Z=>?_;simp;apply Z;refine zi ?_;refine⟨fun c1=>?_,fun c1=>?_⟩
 ·try simp at c1
  refine zr ⟨[4,13],[],[],[],[]⟩ fun _ _ Z=>?_;simp;apply Z;apply aB;apply aJ;simp[aL]
 simp at c1
theorem aDt(N:Nat)(l:Ls):Sc N (.xs 1 (l.map D.str)):=Sc.xs fun d hd e he=>by
 obtain⟨a,_,rfl⟩:=List.mem_map.1 hd;simp [D.cells] at he;subst he;exact Sc.v _
theorem Ca(l:Ls)(p:ByteArray→Bool)(f:FuncId)(caps:List D)(σ:List (List D))(hl:l.length≤1000000)(hcp:∀d∈caps,d.plain=true)(hcs:caps.map D.strip=caps)(hp:∀x τ,Ct prog f (D.str x::caps) τ (fun r τ'=>r= .bool (p x)∧τ'=τ)):
  Ct prog 268 [.xs 1 (l.map D.str),.clo (.func f) [] caps] σ (fun r σ'=>r= .xs 1 ((l.filter fun x=> !p x).map D.str)∧σ'=σ):=by
 by_cases hne:l= []
 ·subst hne;exact zE f caps σ hcp
 exact(Bc l p f caps σ hl hne hcp hcs hp).trim fun r σ' ⟨hr,hs⟩=>⟨σ, [[]],hs,rfl,by rw [hr];exact aDt _ _,fun n cs h=> .inl h,hr,rfl⟩
theorem My(l:Ls)(σ:List (List D))(hl:l.length≤1000000):Ct prog 152 [dl l] σ (fun r σ'=>pK 1 (l.map D.str) r∧σ'=σ):=by
 refine zf (rs:=[.tmp 2]) func152 ntmps152 results152 ?_;simp only [aN];refine zr ⟨[2],[],[],[7],[]⟩ fun _ _ Z=>?_;simp(disch:=first|omega|assumption);apply Z;apply aC;refine zr ⟨[2],[],[],[7],[]⟩ fun _ _ Z=>?_;refine zs 1 fun _ Y=>?_;simp(disch:=first|omega|assumption);apply Y;refine aD fun _ Y=>?_;simp(disch:=first|omega|assumption);refine⟨Y _ ?_,fun e1=>Y _ ?_⟩
 ·skip
  simp only [dV];apply Z;refine bM (t:=false) (by simp) (fun h=>by cases h) (fun _=>?_);apply aE;apply aA;refine zr ⟨[2],[],[],[7],[]⟩ fun _ _ Z=>?_;simp(disch:=first|omega|assumption);and_intros<;>try first|omega|exact rfl
  apply Z;apply aB;simp [aL,pK]
 skip
 simp only [dV];apply Z;refine bM (t:=true) (by simp) (fun _=>?_) (fun h=>by cases h);refine zr ⟨[2],[],[],[7],[]⟩ fun _ _ Z=>?_;simp(disch:=first|omega|assumption);apply Z;apply aB;apply aJ;simp [aL,pK,e1]
theorem Rw(l:Ls)(σ:List (List D))(hl:l.length≤1000000):Ct prog 152 [dl l] σ (fun r σ'=>r= .xs 1 (l.map D.str)∧σ'=σ):=(My l σ hl).toX fun _ _ h=>h
theorem Lu(l:Ls)(p:ByteArray→Bool)(f:FuncId)(caps:List D)(σ:List (List D))(hl:l.length≤1000000)(hcp:∀d∈caps,d.plain=true)(hcs:caps.map D.strip=caps)(hp:∀x τ,Ct prog f (D.str x::caps) τ (fun r τ'=>r= .bool (p x)∧τ'=τ)):Ct prog 256 [dl l,.clo (.func f) [] caps] σ (fun r σ'=>r= .xs 1 ((l.filter fun x=> !p x).map D.str)∧σ'=σ):=by
 refine zf (rs:=[.tmp 4]) func256 ntmps256 results256 ?_;simp only [aN];refine zr ⟨[4,7,8],[],[],[],[]⟩ fun _ _ Z=>?_;simp;apply Z;refine zr ⟨[4,7,8],[],[],[],[]⟩ fun _ _ Z=>?_;refine zs 1 fun _ Y=>?_;simp;apply Y;refine aD fun _ Y=>?_;simp;refine cH (Rw l _ hl) ?_;apply Y;refine zs 1 fun _ Y=>?_;simp;apply Y;refine aD fun _ Y=>?_;simp;refine cH (Ca l p f caps _ hl hcp hcs hp) ?_;apply Y;simp;apply Z;apply aB;simp[aL]
theorem aBm(x c:ByteArray)(σ:List (List D))  :Ct prog 257 [D.str x,.adr [D.str c]] σ (fun r σ'=>r= .bool (decide (x=c))∧σ'=σ):=by
 refine zf (rs:=[.tmp 3]) func257 ntmps257 results257 ?_;simp only [aN];refine aY fun _ _ Z=>?_;simp;apply Z;refine aY fun _ _ Z=>?_;simp;apply Z;apply aB;simp[aL]
theorem Rg(l:Ls)(c:ByteArray)(σ:List (List D))(hl:l.length≤1000000):Ct prog 230 [dl l,D.str c] σ (fun r σ'=>r= .xs 1 ((lG l c).map D.str)∧σ'=σ):=by
 refine zf (rs:=[.tmp 4]) func230 ntmps230 results230 ?_;simp only [aN];refine zr ⟨[4],[3],[],[],[]⟩ fun _ _ Z=>?_;simp;apply Z;refine zr ⟨[4],[3],[],[],[]⟩ fun _ _ Z=>?_;refine zs 2 fun _ Y=>?_;simp;and_intros<;>(try omega);apply Y;refine aD fun _ Y=>?_;simp;refine cH (Lu l (fun x=>decide (x=c)) 257 [.adr [D.str c]] _ hl (by simp) (by simp) (fun x τ=>aBm x c τ)) ?_;apply Y;simp;apply Z;apply aB;simp [aL,lG]
theorem Xv(l:Ls)(c:ByteArray)(σ:List (List D))(hl:l.length≤1000000):Ct prog 230 [dl l,D.str c] σ (fun r σ'=>r=dl (lG l c)∧σ'=σ):=(Rg l c σ hl).freeze fun _ _ h=>h
end Go.Proofs.YtbgfljpnhhdkoaaGreat
