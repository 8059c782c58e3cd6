import Derived.Test.YtbgfljpnhhdkoaaGreatWkAr1
import Derived.Test.YtbgfljpnhhdkoaaGreatVmX7
open Go.Proofs.Tryz
namespace Go.Proofs.YtbgfljpnhhdkoaaGreat
open Go Go.Vm
set_option maxRecDepth 20000
set_option linter.all false
set_option maxHeartbeats 8000000
abbrev Ls:=List ByteArray
@[simp] abbrev dl(l:Ls):D:= .sl false (l.map D.str)
@[simp] abbrev dlo(l:Ls):D:= .sl true (l.map D.str)
def sZ(c:ByteArray)(l:Ls):Bool:=l.any fun x=>decide (x=c)
theorem Ks(c x:ByteArray)(l:Ls):sZ c (l++ [x])=(sZ c l || decide (x=c)):=by simp [sZ]
theorem Av {c:ByteArray} {l:Ls} {k:Nat} (h:k<l.length)(e:l[k]=c):sZ c l=true:=by
 simp only [sZ,List.any_eq_true,decide_eq_true_eq];exact⟨l[k],List.getElem_mem h,e⟩
def Uz(l:Ls)(c:ByteArray):Ls:=if sZ c l then l else l++ [c]
def Nk(c:ByteArray)(l:Ls):Int:=match l.findIdx? (fun x=>decide (x=c))with | some k=>k | none=> -1
theorem aF2 {c:ByteArray} {l:Ls} {k:Nat} (h:k<l.length)(hh:sZ c (l.take k)=false)(e:c=l[k]):Nk c l=k:=by
 have:l.findIdx? (fun x=>decide (x=c))=some k:=by
  rw [List.findIdx?_eq_some_iff_getElem];refine⟨h,by simp [e],fun j hj=>?_⟩;simp only [sZ,List.any_eq_false,decide_eq_true_eq] at hh;have:=hh ((l.take k)[j]'(by simp;omega)) (List.getElem_mem _);simpa using this
 simp [Nk,this]
theorem Uq {c:ByteArray} {l:Ls} (h:sZ c l=false):Nk c l= -1:=by
 have:l.findIdx? (fun x=>decide (x=c))=none:=by
  rw [List.findIdx?_eq_none_iff];simpa [sZ] using h
 simp [Nk,this]
theorem aAp(c:ByteArray)(l:Ls):(0≤Nk c l)↔sZ c l=true:=by
 unfold Nk;split
 ·rename_i k h;rw [List.findIdx?_eq_some_iff_getElem] at h;obtain⟨hk,he,_⟩:=h;simp only [decide_eq_true_eq] at he;simp [Av hk he]
 rename_i h;rw [List.findIdx?_eq_none_iff] at h;simp [sZ];intro e;have:=h c e;simp at this
def kV(l:Ls)(c:ByteArray):Ls:=l.filter fun x=> !decide (x=c)
theorem Ll(l:Ls)(x c:ByteArray):kV (l++ [x]) c=kV l c++if x=c then [] else [x]:=by
 simp [kV,List.filter_append,List.filter_cons]
theorem Ax(l:Ls)(c:ByteArray)(k:Nat)(h:k<l.length):kV (l.take (k+1)) c=kV (l.take k) c++if l[k]=c then [] else [l[k]]:=by rw [cX l k h,Ll]
theorem Er(l:Ls)(c:ByteArray):(kV l c).length≤l.length:=List.length_filter_le _ _
theorem Pf(l:Ls)(c:ByteArray)(σ:List (List D))(hl:l.length≤9223372036854775807):Ct prog 77 [dl l,D.str c] σ (fun r σ'=>r= .bool (sZ c l)∧σ'=σ):=by
 refine zf (rs:=[.tmp 4]) func77 ntmps77 results77 ?_;simp only [aN];refine aW fun _ _ Z=>?_;simp(disch:=omega);apply Z;apply aB;refine aW fun _ _ Z=>?_;simp(disch:=omega);and_intros<;>(try omega);apply Z;apply aF;refine zk [1,4,7,8,9] ?_;refine bA (fun(k:Nat)=> [(9,.d (.int k))]) [4,6,9,10,11,12,13,14,15,16] (fun(k:Nat)=>k≤l.length∧sZ c (l.take k)=false) (fun(k:Nat)=>l.length - k) (0) (by simp <;> rfl) ?_ ?_ ?_
 ·simp
 ·simp [sZ]
 rintro k ⟨hk,hh⟩;simp only [List.cons_append,List.nil_append];refine aW fun _ _ Z=>?_;simp(disch:=omega);apply Z;apply aB;refine zi ?_;refine⟨fun c1=>?_,fun c1=>?_⟩
 ·try simp at c1
  apply aD;apply aA;apply aB;apply aF;refine aW fun _ _ Z=>?_;simp(disch:=omega);and_intros<;>(try omega);apply Z;refine aW fun _ _ Z=>?_;simp(disch:=omega);apply Z;refine zi ?_;refine⟨fun c2=>?_,fun c2=>?_⟩
  ·try simp at c2
   refine aW fun _ _ Z=>?_;simp(disch:=omega);apply Z;apply aC;apply aP;apply aI;apply dF;apply aP;apply aI;simp [aK];exact Av c1 c2
  try simp at c2
  apply aD;apply aH;apply aA;refine pP fun _ _ Z=>?_;simp(disch:=omega);and_intros<;>(try omega);apply Z;refine zq (k+1) ?_ ?_ ?_
  ·exact⟨by omega,by rw [cX l k (by omega),Ks,hh];simp [*]⟩
  ·try dsimp only
   omega
  simp(disch:=omega)
 try simp at c1
 apply aY;apply aX;apply aZ;apply aR;apply aA;refine aW fun _ _ Z=>?_;simp(disch:=omega);apply Z;apply aC;simp [aK];rw [List.take_of_length_le (by omega)] at hh;exact hh
theorem aGy(a b:Ls)(σ:List (List D))(ha:a.length≤9223372036854775807)(hb:b.length≤9223372036854775807):Ct prog 167 [dl a,dl b] σ (fun r σ'=>r= .bool (decide (a=b))∧σ'=σ):=by
 refine zf (rs:=[.tmp 4]) func167 ntmps167 results167 ?_;simp only [aN];refine aW fun _ _ Z=>?_;simp(disch:=omega);apply Z;apply aB;refine aW fun _ _ Z=>?_;simp(disch:=omega);and_intros<;>(try omega);apply Z;refine zi ?_;refine⟨fun c1=>?_,fun c1=>?_⟩
 ·try simp at c1
  refine aW fun _ _ Z=>?_;simp(disch:=omega);apply Z;apply aC;apply aI;simp [aK];intro e;subst e;exact absurd rfl c1
 try simp at c1
 apply aD;apply aA;apply aB;refine aW fun _ _ Z=>?_;simp(disch:=omega);and_intros<;>(try omega);apply Z;apply aF;refine zk [0,1,4,12,13] ?_;refine bA (fun(k:Nat)=> [(13,.d (.int k))]) [4,5,13,14,15,16,17,18,19,20,21,22,23,24,25] (fun(k:Nat)=>k≤a.length∧a.take k=b.take k) (fun(k:Nat)=>a.length - k) (0) (by simp <;> rfl) ?_ ?_ ?_
 ·simp
 ·simp
 rintro k ⟨hk,hh⟩;simp only [List.cons_append,List.nil_append];refine aW fun _ _ Z=>?_;simp(disch:=omega);apply Z;apply aB;refine zi ?_;refine⟨fun c2=>?_,fun c2=>?_⟩
 ·try simp at c2
  apply aD;apply aA;apply aB;apply aF;refine aW fun _ _ Z=>?_;simp(disch:=omega);apply Z;refine zd ⟨[],[],[],[],[]⟩ [.op {},.op {},.op {},.op {},.op {},.op {},.op {},.op {},.op {}] fun all hall _ Z=>?_;refine eR 8 fun _ Y=>?_;simp(disch:=omega);and_intros<;>(try omega);apply Y;simp(disch:=omega);apply Z;refine zi ?_;refine⟨fun c3=>?_,fun c3=>?_⟩
  ·try simp at c3
   refine zk [0,1,12,13] ?_;refine aW fun _ _ Z=>?_;simp(disch:=omega);apply Z;apply aC;apply aP;apply aI;apply dF;apply aP;apply aI;simp [aK];intro e;subst e;exact c3 rfl
  try simp at c3
  apply aD;apply aH;apply aA;refine zk [0,1,12,13] ?_;refine pP fun _ _ Z=>?_;simp(disch:=omega);and_intros<;>(try omega);apply Z;refine zq (k+1) ?_ ?_ ?_
  ·exact⟨by omega,by rw [cX a k (by omega),cX b k (by omega),hh];simp [*]⟩
  ·try dsimp only
   omega
  simp(disch:=omega)
 try simp at c2
 apply aY;apply aX;apply aZ;apply aR;apply aA;refine aW fun _ _ Z=>?_;simp(disch:=omega);apply Z;apply aC;simp [aK]
 rwa [List.take_of_length_le (by omega),List.take_of_length_le (by omega)] at hh
@[simp] abbrev qAr21:Cfg:=⟨[4,5,18,23],[],[],[],[]⟩
theorem aDi(l:Ls)(c:ByteArray)(σ:List (List D))(hl:l.length≤1000000):Ct prog 78 [dl l,D.str c] σ (fun r σ'=>r=dlo (kV l c)∧σ'=σ):=by
 refine zf (rs:=[.tmp 4]) func78 ntmps78 results78 ?_;simp only [aN];refine zr qAr21 fun _ _ Z=>?_;simp(disch:=omega);apply Z;refine zr qAr21 fun _ _ Z=>?_;simp(disch:=omega);and_intros<;>(try omega);apply Z;apply aB;refine zr qAr21 fun _ _ Z=>?_;simp(disch:=omega);and_intros<;>(try omega);apply Z;apply aF;refine zk [1,4,5,9,10,11] ?_;refine bA (fun(k:Nat)=> [(11,.d (.int k)),(5,.d (dlo (kV (l.take k) c)))]) [5,7,11,12,13,14,15,16,17,18,19,20,21,22] (fun(k:Nat)=>k≤l.length) (fun(k:Nat)=>l.length - k) (0) (by simp <;> rfl) ?_ ?_ ?_
 ·simp [kV]
 ·simp
 rintro k hk;simp only [List.cons_append,List.nil_append];have hcl:=Er (l.take k) c;simp only [List.length_take] at hcl;refine zr qAr21 fun _ _ Z=>?_;simp(disch:=omega);apply Z;apply aB;refine zi ?_;refine⟨fun c1=>?_,fun c1=>?_⟩
 ·try simp at c1
  apply aD;apply aA;apply aB;apply aF;refine zr qAr21 fun _ _ Z=>?_;simp(disch:=omega);and_intros<;>(try omega);apply Z;refine zr qAr21 fun _ _ Z=>?_;simp(disch:=omega);apply Z;refine zi ?_;refine⟨fun c2=>?_,fun c2=>?_⟩
  ·try simp at c2
   refine zk [1,4,5,7,9,10,11] ?_;refine zt qAr21 fun _ _ Z=>?_;simp(disch:=omega);and_intros<;>(try omega);apply Z;apply aH;apply aA;refine zk [1,4,5,9,10,11] ?_;refine zt qAr21 fun _ _ Z=>?_;simp(disch:=omega);and_intros<;>(try omega);apply Z;refine zq (k+1) ?_ ?_ ?_
   ·omega
   ·try dsimp only
    omega
   simp(disch:=omega)[Ax,c2]
  try simp at c2
  apply aD;apply aH;apply aA;refine zk [1,4,5,9,10,11] ?_;refine zt qAr21 fun _ _ Z=>?_;simp(disch:=omega);and_intros<;>(try omega);apply Z;refine zq (k+1) ?_ ?_ ?_
  ·omega
  ·try dsimp only
   omega
  simp(disch:=omega)[Ax,c2]
 try simp at c1
 apply aY;apply aX;apply aZ;apply aR;apply aA;refine zr qAr21 fun _ _ Z=>?_;simp(disch:=omega);apply Z;apply aC;simp [aK];rw [List.take_of_length_le (by omega)]
theorem aAj(l:Ls)(c:ByteArray)(σ:List (List D))(hl:l.length≤9223372036854775807):Ct prog 255 [dl l,D.str c] σ (fun r σ'=>r= .int (Nk c l)∧σ'=σ):=by
 refine zf (rs:=[.tmp 4]) func255 ntmps255 results255 ?_;simp only [aN];refine aW fun _ _ Z=>?_;simp(disch:=omega);apply Z;apply aB;refine aW fun _ _ Z=>?_;simp(disch:=omega);and_intros<;>(try omega);apply Z;apply aF;refine zk [0,1,4,7,8] ?_;refine bA (fun(k:Nat)=> [(8,.d (.int k))]) [4,5,8,9,10,11,12,13,14,15,16,17,18] (fun(k:Nat)=>k≤l.length∧sZ c (l.take k)=false) (fun(k:Nat)=>l.length - k) (0) (by simp <;> rfl) ?_ ?_ ?_
 ·simp
 ·simp [sZ]
 rintro k ⟨hk,hh⟩;simp only [List.cons_append,List.nil_append];refine aW fun _ _ Z=>?_;simp(disch:=omega);apply Z;apply aB;refine zi ?_;refine⟨fun c1=>?_,fun c1=>?_⟩
 ·try simp at c1
  apply aD;apply aA;apply aB;apply aF;refine aW fun _ _ Z=>?_;simp(disch:=omega);apply Z;refine aW fun _ _ Z=>?_;simp(disch:=omega);and_intros<;>(try omega);apply Z;refine zi ?_;refine⟨fun c2=>?_,fun c2=>?_⟩
  ·try simp at c2
   refine zk [0,1,5,7,8] ?_;refine aW fun _ _ Z=>?_;simp(disch:=omega);apply Z;apply aC;apply aP;apply aI;apply dF;apply aP;apply aI;simp [aK];exact(aF2 c1 hh c2).symm
  try simp at c2
  apply aD;apply aH;apply aA;refine zk [0,1,7,8] ?_;refine pP fun _ _ Z=>?_;simp(disch:=omega);and_intros<;>(try omega);apply Z;refine zq (k+1) ?_ ?_ ?_
  ·exact⟨by omega,by rw [cX l k (by omega),Ks,hh];simp;exact fun e=>c2 e.symm⟩
  ·try dsimp only
   omega
  simp(disch:=omega)
 try simp at c1
 apply aY;apply aX;apply aZ;apply aR;apply aA;refine aW fun _ _ Z=>?_;simp(disch:=omega);apply Z;apply aC;simp [aK];rw [List.take_of_length_le (by omega)] at hh;exact(Uq hh).symm
theorem Il(l:Ls)(c:ByteArray)(σ:List (List D))(hl:l.length≤9223372036854775807):Ct prog 229 [dl l,D.str c] σ (fun r σ'=>r= .bool (sZ c l)∧σ'=σ):=by
 refine zf (rs:=[.tmp 4]) func229 ntmps229 results229 ?_;simp only [aN];refine aW fun _ _ Z=>?_;simp;apply Z;refine aW fun _ _ Z=>?_;refine zs 2 fun _ Y=>?_;simp;apply Y;refine aE fun _ Y=>?_;simp;refine bX (aAj _ _ _ hl) ?_;apply Y;simp;apply Z;apply aC;simp [aK,aAp]
theorem uG(l:Ls)(c:ByteArray)(σ:List (List D))(hl:l.length≤9223372036854775807):Ct prog 195 [dl l,D.str c] σ (fun r σ'=>r= .bool (sZ c l)∧σ'=σ):=by
 refine zf (rs:=[.tmp 4]) func195 ntmps195 results195 ?_;simp only [aN];refine aW fun _ _ Z=>?_;simp;apply Z;refine aW fun _ _ Z=>?_;refine zs 2 fun _ Y=>?_;simp;apply Y;refine aE fun _ Y=>?_;simp;refine bX (Il _ _ _ hl) ?_;apply Y;simp;apply Z;apply aC;simp[aK]
theorem Js(l:Ls)(σ:List (List D))(hl:l.length≤1000000):Ct prog 152 [dl l] σ (fun r σ'=>r=dlo l∧σ'=σ):=by
 refine zf (rs:=[.tmp 2]) func152 ntmps152 results152 ?_;simp only [aN];refine zr ⟨[2],[],[],[],[]⟩ fun _ _ Z=>?_;simp;apply Z;apply aB;refine zr ⟨[2],[],[],[],[]⟩ fun _ _ Z=>?_;refine zs 1 fun _ Y=>?_;simp;apply Y;refine aE fun _ Y=>?_;simp;refine⟨Y _ ?_,fun e1=>Y _ ?_⟩
 ·skip
  simp only [dP];apply Z;refine bD (t:=false) (by simp) (fun h=>by cases h) (fun _=>?_);apply aD;apply aA;refine zr ⟨[2],[],[],[],[]⟩ fun _ _ Z=>?_;simp;and_intros<;>(try omega);apply Z;apply aC;simp [aK]
 skip
 simp only [dP];apply Z;refine bD (t:=true) (by simp) (fun _=>?_) (fun h=>by cases h);refine zr ⟨[2],[],[],[],[]⟩ fun _ _ Z=>?_;simp;apply Z;apply aC;apply aI;simp [aK,e1]
@[simp] abbrev qAr22:Cfg:=⟨[4,5,12,16],[],[],[],[]⟩
theorem aI8(l:Ls)(c:ByteArray)(σ:List (List D))(hl:l.length≤1000000):Ct prog 186 [dl l,D.str c] σ (fun r σ'=>r=dlo (Uz l c)∧σ'=σ):=by
 refine zf (rs:=[.tmp 4]) func186 ntmps186 results186 ?_;simp only [aN];refine zr qAr22 fun _ _ Z=>?_;simp;apply Z;refine zr qAr22 fun _ _ Z=>?_;refine zs 1 fun _ Y=>?_;simp;apply Y;refine aE fun _ Y=>?_;simp;refine bX (Js _ _ hl) ?_;apply Y;simp;apply Z;apply aB;refine zr qAr22 fun _ _ Z=>?_;refine zs 2 fun _ Y=>?_;simp;apply Y;refine aE fun _ Y=>?_;simp;refine bX (uG l _ _ (by omega)) ?_;apply Y;simp;apply Z;refine zi ?_;refine⟨fun c1=>?_,fun c1=>?_⟩
 ·try simp at c1
  refine zt qAr22 fun _ _ Z=>?_;simp;and_intros<;>(try omega);apply Z;apply aA;refine zk [4,5] ?_;refine zr qAr22 fun _ _ Z=>?_;simp;apply Z;apply aC;simp [aK,Uz,c1]
 try simp at c1
 apply aD;apply aA;refine zr qAr22 fun _ _ Z=>?_;simp;apply Z;apply aC;simp [aK,Uz,c1]
theorem Cl(l:Ls)(p:ByteArray→Bool)(f:FuncId)(caps:List D)(m cap:Nat)(rest:List D)(σ:List (List D))(hl:l.length≤9223372036854775807)(hσ:σ[m]?=some (l.map D.str++rest))(hcp:∀d∈caps,d.plain=true)(hcs:caps.map D.strip=caps)(hp:∀x τ,Ct prog f (D.str x::caps) τ (fun r τ'=>r= .bool (p x)∧τ'=τ)):Ct prog 226 [.slo m 0 l.length cap,.clo (.func f) [] caps] σ (fun r σ'=>r= .int (rX p l)∧σ'=σ):=by
 refine zf (rs:=[.tmp 4]) func226 ntmps226 results226 ?_;simp only [aN];refine zr ⟨[],[],[],[7,14],[]⟩ fun _ _ Z=>?_;simp(disch:=omega)[hσ,hcs,aT];apply Z;apply aB;refine zr ⟨[],[],[],[7,14],[]⟩ fun _ _ Z=>?_;simp(disch:=omega)[hσ,hcs,aT];and_intros<;>(try omega);apply Z;apply aF;refine zk [0,1,4,7,8] ?_;refine bA (fun(k:Nat)=> [(8,.d (.v (.int .i64 (k:Int))))]) [4,5,8,9,10,11,12,13,14,15,16,17,18] (fun(k:Nat)=>k≤l.length∧∀x∈l.take k,p x=false) (fun(k:Nat)=>l.length - k) (0) (by simp <;> rfl) ?_ ?_ ?_
 ·simp
 ·simp
 rintro k ⟨hk,hh⟩;simp only [List.cons_append,List.nil_append];refine zr ⟨[],[],[],[7,14],[]⟩ fun _ _ Z=>?_;simp(disch:=omega)[hσ,hcs,aT];apply Z;apply aB;refine zi ?_;refine⟨fun c1=>?_,fun c1=>?_⟩
 ·try simp at c1
  apply aD;apply aA;apply aB;apply aF;refine zr ⟨[],[],[],[7,14],[]⟩ fun _ _ Z=>?_;simp(disch:=omega)[hσ,hcs,aT];apply Z;refine zr ⟨[],[],[],[7,14],[]⟩ fun _ _ Z=>?_;refine zs 5 fun _ Y=>?_;simp(disch:=omega)[hσ,hcs,aT];and_intros<;>(try omega);apply Y;refine aE fun _ Y=>?_;simp(disch:=omega)[hσ,hcs,aT];refine⟨hcp,?_⟩;refine bX (hp l[k] _) ?_;apply Y;simp only [dP];apply Z;refine zi ?_;refine⟨fun c2=>?_,fun c2=>?_⟩
  ·try simp at c2
   refine zk [0,1,5,7,8] ?_;refine zr ⟨[],[],[],[7,14],[]⟩ fun _ _ Z=>?_;simp(disch:=omega)[hσ,hcs,aT];apply Z;apply aC;apply aP;apply aI;apply dF;apply aP;apply aI;simp [aK];exact(nI c1 hh c2).symm
  try simp at c2
  apply aD;apply aH;apply aA;refine zk [0,1,7,8] ?_;refine zt ⟨[],[],[],[7,14],[]⟩ fun _ _ Z=>?_;simp(disch:=omega)[hσ,hcs,aT];and_intros<;>(try omega);apply Z;refine zq (k+1) ?_ ?_ ?_
  ·exact⟨by omega,kH (by omega) hh c2⟩
  ·try dsimp only
   omega
  simp(disch:=omega)[hσ,hcs,aT]
 try simp at c1
 apply aY;apply aX;apply aZ;apply aR;apply aA;refine zr ⟨[],[],[],[7,14],[]⟩ fun _ _ Z=>?_;simp(disch:=omega)[hσ,hcs,aT];apply Z;apply aC;simp [aK];rw [List.take_of_length_le (by omega)] at hh;exact(jY hh).symm
theorem Co(f:FuncId)(caps:List D)(σ:List (List D))(hcp:∀d∈caps,d.plain=true):Ct prog 226 [.xl 0,.clo (.func f) [] caps] σ (fun r σ'=>r= .int (-1)∧σ'=σ):=by
 refine zf (rs:=[.tmp 4]) func226 ntmps226 results226 ?_;simp only [aN];refine zr ⟨[],[],[],[7],[]⟩ fun _ _ Z=>?_;simp;apply Z;apply aB;refine zr ⟨[],[],[],[7],[]⟩ fun _ _ Z=>?_;simp;and_intros<;>(try omega);apply Z;apply aF;refine zk [0,1,4,7,8] ?_;refine bA (fun(k:Nat)=> [(8,.d (.int 0))]) [4,5,8,9,10,11,12,13,14,15,16,17,18] (fun(k:Nat)=>k=0) (fun(k:Nat)=>0) (0) (by simp <;> rfl) ?_ ?_ ?_
 ·simp
 ·rfl
 rintro k hk;simp only [List.cons_append,List.nil_append];refine zr ⟨[],[],[],[7],[]⟩ fun _ _ Z=>?_;simp;apply Z;apply aB;refine zi ?_;refine⟨fun c1=>?_,fun c1=>?_⟩
 ·simp at c1
 try simp at c1
 apply aY;apply aX;apply aZ;apply aR;apply aA;refine zr ⟨[],[],[],[7],[]⟩ fun _ _ Z=>?_;simp;apply Z;apply aC;simp [aK]
theorem Ku(p:ByteArray→Bool)(l k:Ls)(rest:List D):List.take k.length ((k++l).map D.str++rest)=k.map D.str:=by
 rw [List.map_append,List.append_assoc,List.take_append_of_le_length (by simp)];rw [List.take_of_length_le (by simp)]
@[simp] abbrev qAr23:Cfg:=⟨[4,13],[],[],[18,24,33,38,41],[]⟩
theorem Bc(l:Ls)(p:ByteArray→Bool)(f:FuncId)(caps:List D)(σ:List (List D))(hl:l.length≤1000000)(hne:l≠ [])(hcp:∀d∈caps,d.plain=true)(hcs:caps.map D.strip=caps)(hp:∀x τ,Ct prog f (D.str x::caps) τ (fun r τ'=>r= .bool (p x)∧τ'=τ)):Ct prog 268 [.xs 1 (l.map D.str),.clo (.func f) [] caps] σ (fun r σ'=>r= .xs 1 ((l.filter fun x=> !p x).map D.str)∧σ'=σ++ [[]]):=by
 refine zf (rs:=[.tmp 4]) func268 ntmps268 results268 ?_;simp only [aN];refine kR 0 1 rfl (by decide) fun cap rest hcap hcm hrest hk0 hes=>?_;simp only [List.length_map] at hcap hrest ⊢;rw [dQ (f:=D.str) (fun _=>rfl)];refine zr qAr23 fun _ _ Z=>?_;simp(disch:=first|omega|assumption)[hcs,aT,cB];apply Z;refine zr qAr23 fun _ _ Z=>?_;refine zs 2 fun _ Y=>?_;simp(disch:=first|omega|assumption)[hcs,aT,cB];apply Y;refine aE fun _ Y=>?_;simp(disch:=first|omega|assumption)[hcs,aT,cB];refine bX (Cl l p f caps σ.length cap rest _ (by omega) (by simp) hcp hcs hp) ?_;apply Y;simp(disch:=first|omega|assumption)[hcs,aT,cB];apply Z;apply aB;refine zr qAr23 fun _ _ Z=>?_;simp(disch:=first|omega|assumption)[hcs,aT,cB];apply Z;refine zi ?_;refine⟨fun c1=>?_,fun c1=>?_⟩
 ·try simp at c1
  refine zr qAr23 fun _ _ Z=>?_;simp(disch:=first|omega|assumption)[hcs,aT,cB];apply Z;refine cT 4 1 σ.length l.length cap (l.map D.str) (l.map D.str++rest) (by simp <;> rfl) (by simp) (by omega) (by simp [hrest];omega) (by simp) (by simp) (by rw [dQ (fun _=>rfl)];exact List.prefix_append _ _) ?_;simp only [kG];apply aC;apply aI;simp [aK];rcases oH p l with ⟨_,h⟩ | ⟨k,h,_⟩
  ·rw [h]
  omega
 try simp at c1
 obtain⟨k0,e0,e1,e2,e3⟩:=tW c1;rw [e0];apply aD;apply aA;apply aB;refine zr qAr23 fun _ _ Z=>?_;simp(disch:=first|omega|assumption)[hcs,aT,cB];and_intros<;>try first|omega|exact rfl
 apply Z;apply aF;refine zk [0,1,4,5,6] ?_;refine nS (fun(j:Nat)=> [(5,.d (.v (.int .i64 ((kp p l j).length:Int)))),(6,.d (.v (.int .i64 (j:Int))))]) (fun(j:Nat)=> []) (fun(j:Nat)=> [(σ.length,(ar p l j).map D.str++rest)]) [5,6,7,16,17,18,19,20,21,22,23,24,25,26,27,28,29,30,31,32,33,34,35] (fun(j:Nat)=>j≤l.length) (fun(j:Nat)=>l.length - j) (k0+1) (by simp <;> rfl) ?_ (by simp) (by simp [e1]) ?_ ?_
 ·simp [e1,e2]
 ·omega
 rintro j hj;simp only [List.cons_append,List.nil_append,nU,mB,List.set_cons_zero,List.set_cons_succ];have hkl:=En p l j hj;have hal:=zY p l j;apply aB;refine zr qAr23 fun _ _ Z=>?_;simp(disch:=first|omega|assumption)[hcs,aT,cB];and_intros<;>try first|omega|exact rfl
 apply Z;refine zi ?_;refine⟨fun c2=>?_,fun c2=>?_⟩
 ·try simp at c2
  apply aD;apply aA;apply aB;apply aF;refine zr qAr23 fun _ _ Z=>?_;simp(disch:=first|omega|assumption)[hcs,aT,cB];and_intros<;>try first|omega|exact rfl
  apply Z;refine zk [0,1,4,5,6,7] ?_;refine zr qAr23 fun _ _ Z=>?_;refine zs 2 fun _ Y=>?_;simp(disch:=first|omega|assumption)[hcs,aT,cB];apply Y;refine aE fun _ Y=>?_;simp(disch:=first|omega|assumption)[hcs,aT,cB];simp only [Pj p l j (by omega)];refine⟨hcp,?_⟩;refine bX (hp l[j] _) ?_;apply Y;simp(disch:=first|omega|assumption)[hcs,aT,cB];apply Z;refine zi ?_;refine⟨fun c3=>?_,fun c3=>?_⟩
  ·try simp at c3
   refine zr qAr23 fun _ _ Z=>?_;simp(disch:=first|omega|assumption)[hcs,aT,cB];and_intros<;>try first|omega|exact rfl
   apply Z;refine zk [0,1,4,5,6] ?_;refine zt qAr23 fun _ _ Z=>?_;simp(disch:=first|omega|assumption)[hcs,aT,cB];and_intros<;>try first|omega|exact rfl
   apply Z;apply aH;apply aA;refine zt qAr23 fun _ _ Z=>?_;simp(disch:=first|omega|assumption)[hcs,aT,cB];and_intros<;>try first|omega|exact rfl
   apply Z;refine dT (j+1) ?_ ?_ (dC rfl ?_ (by simp) (by rw [← (rY p l j (by omega) c3).1];simp(disch:=omega) [Ja,hal]))
   ·omega
   ·try dsimp only
    omega
   simp(disch:=first|omega|assumption)[hcs,aT,cB,(rY p l j (by omega) c3).2]
  try simp at c3
  apply aD;apply aH;apply aA;refine zt qAr23 fun _ _ Z=>?_;simp(disch:=first|omega|assumption)[hcs,aT,cB];and_intros<;>try first|omega|exact rfl
  apply Z;refine dT (j+1) ?_ ?_ (dC rfl ?_ (by simp) (by simp [(oS p l j (by omega) c3).1]))
  ·omega
  ·try dsimp only
   omega
  simp(disch:=first|omega|assumption)[hcs,aT,cB,(oS p l j (by omega) c3).2]
 try simp at c2
 apply aY;apply aX;apply aZ;apply aR;apply aA;refine zr qAr23 fun _ _ Z=>?_;simp(disch:=first|omega|assumption)[hcs,aT,cB];and_intros<;>try first|omega|exact rfl
 apply Z;refine zk [0,4,5] ?_;refine zr qAr23 fun _ _ Z=>?_;simp(disch:=first|omega|assumption)[hcs,aT,cB];and_intros<;>try first|omega|exact rfl
 apply Z;refine cT 4 1 σ.length (kp p l j).length cap ((kp p l j).map D.str) ((kp p l j).map D.str++(eW #[.string ⟨#[]⟩] (l.length - (kp p l j).length)++rest)) (by simp <;> rfl) (by rw [show List.map D.str (kp p l j)=List.take (kp p l j).length (List.map D.str (ar p l j)++rest)from(Ku p _ _ rest).symm];simp [eV (z:=#[.string ⟨#[]⟩]) (k:=1) rfl,show(kp p l j).length+(l.length - (kp p l j).length)=l.length by omega,Kf D.str (ar p l j) rest l.length hal.symm]) (by omega) (by simp [hrest,eV (z:=#[.string ⟨#[]⟩]) (k:=1) rfl];omega) (by simp) (by simp) (by rw [dQ (fun _=>rfl)];exact List.prefix_append _ _) ?_;simp only [kG];apply aC;simp [aK];unfold kp;rw [List.take_of_length_le (by omega)]
theorem zB(f:FuncId)(caps:List D)(σ:List (List D))(hcp:∀d∈caps,d.plain=true):Ct prog 268 [.xs 1 [],.clo (.func f) [] caps] σ (fun r σ'=>r= .xs 1 []∧σ'=σ):=by
 refine zf (rs:=[.tmp 4]) func268 ntmps268 results268 ?_;simp only [aN];refine zr ⟨[4,13],[],[],[],[]⟩ fun _ _ Z=>?_;simp;apply Z;refine zr ⟨[4,13],[],[],[],[]⟩ fun _ _ Z=>?_;refine zs 2 fun _ Y=>?_;simp;apply Y;refine aE fun _ Y=>?_;simp;refine bX (Co f caps _ hcp) ?_;apply Y;simp;apply Z;apply aB;refine zr ⟨[4,13],[],[],[],[]⟩ fun _ _ Z=>?_;simp;apply Z;refine zi ?_;refine⟨fun c1=>?_,fun c1=>?_⟩
 ·try simp at c1
  refine zr ⟨[4,13],[],[],[],[]⟩ fun _ _ Z=>?_;simp;apply Z;apply aC;apply aI;simp[aK]
 simp at c1
theorem aEc(N:Nat)(l:Ls):Sc N (.xs 1 (l.map D.str)):=Sc.xs fun d hd e he=>by
 obtain⟨a,_,rfl⟩:=List.mem_map.1 hd;simp [D.cells] at he;subst he;exact Sc.v _
theorem Ce(l:Ls)(p:ByteArray→Bool)(f:FuncId)(caps:List D)(σ:List (List D))(hl:l.length≤1000000)(hcp:∀d∈caps,d.plain=true)(hcs:caps.map D.strip=caps)(hp:∀x τ,Ct prog f (D.str x::caps) τ (fun r τ'=>r= .bool (p x)∧τ'=τ)):
  Ct prog 268 [.xs 1 (l.map D.str),.clo (.func f) [] caps] σ (fun r σ'=>r= .xs 1 ((l.filter fun x=> !p x).map D.str)∧σ'=σ):=by
 by_cases hne:l= []
 ·subst hne;exact zB f caps σ hcp
 exact(Bc l p f caps σ hl hne hcp hcs hp).trim fun r σ' ⟨hr,hs⟩=>⟨σ, [[]],hs,rfl,by rw [hr];exact aEc _ _,fun n cs h=> .inl h,hr,rfl⟩
theorem Nz(l:Ls)(σ:List (List D))(hl:l.length≤1000000):Ct prog 152 [dl l] σ (fun r σ'=>pG 1 (l.map D.str) r∧σ'=σ):=by
 refine zf (rs:=[.tmp 2]) func152 ntmps152 results152 ?_;simp only [aN];refine zr ⟨[2],[],[],[7],[]⟩ fun _ _ Z=>?_;simp(disch:=first|omega|assumption);apply Z;apply aB;refine zr ⟨[2],[],[],[7],[]⟩ fun _ _ Z=>?_;refine zs 1 fun _ Y=>?_;simp(disch:=first|omega|assumption);apply Y;refine aE fun _ Y=>?_;simp(disch:=first|omega|assumption);refine⟨Y _ ?_,fun e1=>Y _ ?_⟩
 ·skip
  simp only [dP];apply Z;refine bD (t:=false) (by simp) (fun h=>by cases h) (fun _=>?_);apply aD;apply aA;refine zr ⟨[2],[],[],[7],[]⟩ fun _ _ Z=>?_;simp(disch:=first|omega|assumption);and_intros<;>try first|omega|exact rfl
  apply Z;apply aC;simp [aK,pG]
 skip
 simp only [dP];apply Z;refine bD (t:=true) (by simp) (fun _=>?_) (fun h=>by cases h);refine zr ⟨[2],[],[],[7],[]⟩ fun _ _ Z=>?_;simp(disch:=first|omega|assumption);apply Z;apply aC;apply aI;simp [aK,pG,e1]
theorem Sy(l:Ls)(σ:List (List D))(hl:l.length≤1000000):Ct prog 152 [dl l] σ (fun r σ'=>r= .xs 1 (l.map D.str)∧σ'=σ):=(Nz l σ hl).toX fun _ _ h=>h
theorem Mm(l:Ls)(p:ByteArray→Bool)(f:FuncId)(caps:List D)(σ:List (List D))(hl:l.length≤1000000)(hcp:∀d∈caps,d.plain=true)(hcs:caps.map D.strip=caps)(hp:∀x τ,Ct prog f (D.str x::caps) τ (fun r τ'=>r= .bool (p x)∧τ'=τ)):Ct prog 256 [dl l,.clo (.func f) [] caps] σ (fun r σ'=>r= .xs 1 ((l.filter fun x=> !p x).map D.str)∧σ'=σ):=by
 refine zf (rs:=[.tmp 4]) func256 ntmps256 results256 ?_;simp only [aN];refine zr ⟨[4,7,8],[],[],[],[]⟩ fun _ _ Z=>?_;simp;apply Z;refine zr ⟨[4,7,8],[],[],[],[]⟩ fun _ _ Z=>?_;refine zs 1 fun _ Y=>?_;simp;apply Y;refine aE fun _ Y=>?_;simp;refine bX (Sy l _ hl) ?_;apply Y;refine zs 1 fun _ Y=>?_;simp;apply Y;refine aE fun _ Y=>?_;simp;refine bX (Ce l p f caps _ hl hcp hcs hp) ?_;apply Y;simp;apply Z;apply aC;simp[aK]
theorem Zv(x c:ByteArray)(σ:List (List D))  :Ct prog 257 [D.str x,.adr [D.str c]] σ (fun r σ'=>r= .bool (decide (x=c))∧σ'=σ):=by
 refine zf (rs:=[.tmp 3]) func257 ntmps257 results257 ?_;simp only [aN];refine aW fun _ _ Z=>?_;simp;apply Z;refine aW fun _ _ Z=>?_;simp;apply Z;apply aC;simp[aK]
theorem Vq(l:Ls)(c:ByteArray)(σ:List (List D))(hl:l.length≤1000000):Ct prog 230 [dl l,D.str c] σ (fun r σ'=>r= .xs 1 ((kV l c).map D.str)∧σ'=σ):=by
 refine zf (rs:=[.tmp 4]) func230 ntmps230 results230 ?_;simp only [aN];refine zr ⟨[4],[3],[],[],[]⟩ fun _ _ Z=>?_;simp;apply Z;refine zr ⟨[4],[3],[],[],[]⟩ fun _ _ Z=>?_;refine zs 2 fun _ Y=>?_;simp;and_intros<;>(try omega);apply Y;refine aE fun _ Y=>?_;simp;refine bX (Mm l (fun x=>decide (x=c)) 257 [.adr [D.str c]] _ hl (by simp) (by simp) (fun x τ=>Zv x c τ)) ?_;apply Y;simp;apply Z;apply aC;simp [aK,kV]
theorem aCi(l:Ls)(c:ByteArray)(σ:List (List D))(hl:l.length≤1000000):Ct prog 230 [dl l,D.str c] σ (fun r σ'=>r=dl (kV l c)∧σ'=σ):=(Vq l c σ hl).freeze fun _ _ h=>h
end Go.Proofs.YtbgfljpnhhdkoaaGreat
