import Derived.Test.YtbgfljpnhhdkoaaGreatVmX7
set_option linter.all false
namespace Go.Vm
open Go
theorem dL {α:Type} (l:List α)(k:Nat)(h:k<l.length):l.take (k+1)=l.take k++ [l[k]]:=by
 rw [List.take_add_one,List.getElem?_eq_getElem h];rfl
theorem tU {α:Type} {p:List α→Prop} (h0:p [])(h1:∀l x,p l→p (l++ [x]))(l:List α):p l:=by
 have:∀(r:List α),p r.reverse:=by
  intro r;induction r with
  | nil=>exact h0
  | cons a r ih=>rw [List.reverse_cons];exact h1 _ _ ih
 have:=this l.reverse
 rwa [List.reverse_reverse] at this
def rS {α:Type} (p:α→Bool)(l:List α):Int:=match l.findIdx? p with | some k=>k | none=> -1
theorem qV {α:Type} {p:α→Bool} {l:List α} {k:Nat} (h:k<l.length)(hh:∀x∈l.take k,p x=false)(e:p l[k]=true):rS p l=k:=by
 have:l.findIdx? p=some k:=by
  rw [List.findIdx?_eq_some_iff_getElem];refine⟨h,e,fun j hj=>?_⟩;have:=hh ((l.take k)[j]'(by simp;omega)) (List.getElem_mem _);simpa using this
 simp [rS,this]
theorem mF {α:Type} {p:α→Bool} {l:List α} (h:∀x∈l,p x=false):rS p l= -1:=by
 have:l.findIdx? p=none:=by
  rw [List.findIdx?_eq_none_iff];simpa using h
 simp [rS,this]
theorem oV {α:Type} (p:α→Bool)(l:List α):(rS p l= -1∧l.filter (fun x=> !p x)=l)∨∃k:Nat,rS p l=k∧k<l.length∧∀x∈l.take k,p x=false:=by
 unfold rS;split
 ·rename_i k h;rw [List.findIdx?_eq_some_iff_getElem] at h;obtain⟨hk,he,hn⟩:=h;refine .inr ⟨k,rfl,hk,fun x hx=>?_⟩;obtain⟨j,hj,rfl⟩:=List.getElem_of_mem hx;have:=hn j (by simp at hj;omega);simpa using this
 rename_i h;rw [List.findIdx?_eq_none_iff] at h;refine .inl ⟨rfl,?_⟩;rw [List.filter_eq_self];intro x hx;simp [h x hx]
theorem mP {α:Type} {p:α→Bool} {l:List α} {k:Nat} (h:k<l.length)(hh:∀x∈l.take k,p x=false)(e:p l[k]=false):∀x∈l.take (k+1),p x=false:=by
 rw [dL l k h];intro x hx;rcases List.mem_append.1 hx with h1 | h1
 ·exact hh x h1
 simp at h1;subst h1;exact e
theorem Hr {α:Type} (f:α→D)(l:List α)(rest:List D)(i:Nat)(x:α)(h:i<l.length):List.take i (l.map f++rest)++f x::List.drop (i+1) (l.map f++rest)=(l.set i x).map f++rest:=by
 rw [← cC f l rest i x h];simp
theorem Jx {α:Type} (f:α→D)(l:List α)(rest:List D)(n:Nat)(h:n=l.length):List.drop n (l.map f++rest)=rest:=by
 subst h;rw [List.drop_append_of_le_length (by simp),List.drop_eq_nil_of_le (by simp)];rfl
theorem eO {α:Type} {f:α→D} (h:∀a,(f a).cells= [f a])(l:List α):(l.map f).flatMap D.cells=l.map f:=by
 induction l with
 | nil=>rfl
 | cons a l ih=>simp only [List.map_cons,List.flatMap_cons,h a,ih];rfl
def kp {α:Type} (p:α→Bool)(l:List α)(j:Nat):List α:=(l.take j).filter fun x=> !p x
def ar {α:Type} (p:α→Bool)(l:List α)(j:Nat):List α:=kp p l j++l.drop (kp p l j).length
theorem Du {α:Type} (p:α→Bool)(l:List α)(j:Nat)(h:j≤l.length):(kp p l j).length≤j:=by
 unfold kp;have:=List.length_filter_le (fun x=> !p x) (l.take j);rw [List.length_take] at this;omega
theorem aJ6 {α:Type} (p:α→Bool)(l:List α)(j:Nat):(kp p l j).length≤l.length:=by
 unfold kp;have:=List.length_filter_le (fun x=> !p x) (l.take j);rw [List.length_take] at this;omega
theorem Qw {α:Type} (p:α→Bool)(l:List α)(j:Nat)(h:j<l.length):kp p l (j+1)=kp p l j++if p l[j]=true then [] else [l[j]]:=by
 unfold kp;rw [dL l j h,List.filter_append,List.filter_cons];by_cases e:p l[j]=true <;> simp [e]
theorem Bk {α:Type} (p:α→Bool)(l:List α)(j:Nat):(ar p l j).length=l.length:=by
 unfold ar;have:=aJ6 p l j;rw [List.length_append,List.length_drop];omega
theorem Qc {α:Type} (p:α→Bool)(l:List α)(j:Nat)(h:j<l.length):(ar p l j)[j]'(by rw [Bk];exact h)=l[j]:=by
 have hk:=Du p l j (by omega);unfold ar;rw [List.getElem_append_right (by omega),List.getElem_drop];congr 1;omega
theorem oE {α:Type} (p:α→Bool)(l:List α)(j:Nat)(h:j<l.length)(e:p l[j]=true):ar p l (j+1)=ar p l j∧kp p l (j+1)=kp p l j:=by
 have:=Qw p l j h;rw [if_pos e,List.append_nil] at this;exact⟨by unfold ar;rw [this],this⟩
theorem sD {α:Type} (p:α→Bool)(l:List α)(j:Nat)(h:j<l.length)(e:p l[j]=false):(ar p l j).set (kp p l j).length l[j]=ar p l (j+1)∧(kp p l (j+1)).length=(kp p l j).length+1:=by
 have hs:=Qw p l j h;have hk:=Du p l j (by omega);rw [if_neg (by simp [e])] at hs;refine⟨?_,by rw [hs];simp⟩;unfold ar;rw [hs,List.length_append,List.length_singleton,List.set_append_right _ _ (Nat.le_refl _),Nat.sub_self,List.append_assoc];congr 1;rw [List.drop_eq_getElem_cons (by omega)];rfl
theorem Wo {α:Type} (p:α→Bool)(l:List α)(k:Nat)(h:k<l.length)(hh:∀x∈l.take k,p x=false)(e:p l[k]=true):ar p l (k+1)=l∧(kp p l (k+1)).length=k:=by
 have h1:kp p l k=l.take k:=by
  unfold kp;rw [List.filter_eq_self];intro x hx;simp [hh x hx]
 have h2:=(oE p l k h e).2;unfold ar;rw [h2,h1,List.length_take,Nat.min_eq_left (by omega)];exact⟨List.take_append_drop k l,rfl⟩
theorem tP {α:Type} {p:α→Bool} {l:List α} (h:¬rS p l= -1):∃k:Nat,rS p l=k∧ar p l (k+1)=l∧(kp p l (k+1)).length=k∧k<l.length:=by
 unfold rS at *;split at h
 ·rename_i k hf;rw [List.findIdx?_eq_some_iff_getElem] at hf;obtain⟨hk,he,hn⟩:=hf;have hh:∀x∈l.take k,p x=false:=fun x hx=>by
   obtain⟨j,hj,rfl⟩:=List.getElem_of_mem hx;have:=hn j (by simp at hj;omega);simpa using this
  obtain⟨a,b⟩:=Wo p l k hk hh he;exact⟨k,rfl,a,b,hk⟩
 exact absurd rfl h
theorem kH {α:Type} {l:List α} {m:Nat} {x:α} (h:l[m]?=some x):m<l.length:=(List.getElem?_eq_some_iff.1 h).1
theorem aI {α:Type} {l:List α} {m:Nat} {x:α} (h:l[m]?=some x)(a:α):(l.set m a)[m]?=some a:=by
 rw [List.getElem?_set,if_pos rfl,if_pos (kH h)]
theorem cR {α:Type} {l:List α} {m:Nat} {x:α} (h:l[m]?=some x)(a:α)(r:List α):(l.set m a++r)[m]?=some a:=by
 rw [List.getElem?_append_left (by rw [List.length_set];exact kH h),aI h]
theorem dC {α:Type} {l:List α} {m:Nat} {x:α} (h:l[m]?=some x)(r:List α):(l++r)[m]?=some x:=by
 rw [List.getElem?_append_left (kH h)];exact h
theorem cU {α:Type} {l:List α} {m:Nat} {x:α} (h:l[m]?=some x)(a b:α)(r:List α):(l.set m a++r).set m b=l.set m b++r:=by
 rw [List.set_append_left _ _ (by rw [List.length_set];exact kH h),List.set_set]
theorem eB {α:Type} {l:List α} {m:Nat} {x:α} (h:l[m]?=some x)(b:α)(r:List α):(l++r).set m b=l.set m b++r:=by
 rw [List.set_append_left _ _ (kH h)]
theorem cB {α:Type} (l:List α)(m:Nat)(a b:α)(r:List α):(l.set m a++b::r)[l.length]?=some b:=by
 rw [List.getElem?_append_right (by rw [List.length_set];omega),List.length_set,Nat.sub_self];rfl
theorem bY {α:Type} (l:List α)(m:Nat)(a b c:α)(r:List α):(l.set m a++b::r).set l.length c=l.set m a++c::r:=by
 rw [List.set_append_right _ _ (by rw [List.length_set];omega),List.length_set,Nat.sub_self];rfl
theorem bO {α:Type} (l:List α)(b:α)(r:List α):(l++b::r)[l.length]?=some b:=by
 rw [List.getElem?_append_right (by omega),Nat.sub_self];rfl
theorem bW {α:Type} (l:List α)(b c:α)(r:List α):(l++b::r).set l.length c=l++c::r:=by
 rw [List.set_append_right _ _ (by omega),Nat.sub_self];rfl
theorem bU {α:Type} (l:List α)(m:Nat)(a b b':α)(r:List α):(l.set m a++b::b'::r)[l.length+1]?=some b':=by
 rw [List.getElem?_append_right (by rw [List.length_set];omega),List.length_set,Nat.add_sub_cancel_left];rfl
theorem cF {α:Type} (l:List α)(m:Nat)(a b b' c:α)(r:List α):(l.set m a++b::b'::r).set (l.length+1) c=l.set m a++b::c::r:=by
 rw [List.set_append_right _ _ (by rw [List.length_set];omega),List.length_set,Nat.add_sub_cancel_left];rfl
theorem aV {α:Type} (l r:List α)(k:Nat):(l++r)[l.length+k]?=r[k]?:=by
 rw [List.getElem?_append_right (by omega),Nat.add_sub_cancel_left]
theorem aP {α:Type} (l r:List α)(k:Nat)(c:α):(l++r).set (l.length+k) c=l++r.set k c:=by
 rw [List.set_append_right _ _ (by omega),Nat.add_sub_cancel_left]
theorem aM {α:Type} (l r:List α):(l++r)[l.length]?=r[0]?:=aV l r 0
theorem aH {α:Type} (l r:List α)(c:α):(l++r).set l.length c=l++r.set 0 c:=aP l r 0 c
theorem dI {α:Type} (l:List α)(m:Nat)(a b b' b2:α)(r:List α):(l.set m a++b::b'::b2::r)[l.length+2]?=some b2:=by
 rw [List.getElem?_append_right (by rw [List.length_set];omega),List.length_set,Nat.add_sub_cancel_left];rfl
theorem cE {α:Type} (l:List α)(m:Nat)(a b b' b2 c:α)(r:List α):(l.set m a++b::b'::b2::r).set (l.length+2) c=l.set m a++b::b'::c::r:=by
 rw [List.set_append_right _ _ (by rw [List.length_set];omega),List.length_set,Nat.add_sub_cancel_left];rfl
section
variable {α:Type} {f:α→List D} {k:Nat}
theorem cL(hf:∀a,(f a).length=k)(l:List α):(l.flatMap f).length=l.length * k:=by
 induction l with
 | nil=>simp
 | cons a l ih=>simp only [List.flatMap_cons,List.length_append,ih,hf,List.length_cons,Nat.add_mul,Nat.one_mul];omega
theorem sO(l:List α)(i:Nat)(h:i<l.length):l.flatMap f=(l.take i).flatMap f++(f l[i]++(l.drop (i+1)).flatMap f):=by
 have:l=l.take i++(l[i]::l.drop (i+1)):=by rw [← List.drop_eq_getElem_cons h,List.take_append_drop]
 conv=>lhs;rw [this]
 rw [List.flatMap_append,List.flatMap_cons]
theorem kZ(hf:∀a,(f a).length=k)(l:List α)(i:Nat)(h:i<l.length):((l.take i).flatMap f).length=i * k:=by
 rw [cL hf,List.length_take,Nat.min_eq_left (by omega)]
theorem Di(hf:∀a,(f a).length=k)(l:List α)(rest:List D)(i:Nat)(h:i<l.length):((l.flatMap f++rest).drop (i * k)).take k=f l[i]:=by
 rw [sO l i h,List.append_assoc,← kZ hf l i h,List.drop_left,List.append_assoc,← hf l[i],List.take_left]
theorem Tt(hf:∀a,(f a).length=k)(l:List α)(rest:List D)(i j:Nat)(h:i<l.length)(hj:j<k):(l.flatMap f++rest)[i * k+j]?=(f l[i])[j]?:=by
 rw [sO l i h,List.append_assoc,← kZ hf l i h,List.getElem?_append_right (by omega),Nat.add_sub_cancel_left,List.append_assoc,List.getElem?_append_left (by rw [hf];exact hj)]
theorem Pl(hf:∀a,(f a).length=k)(l:List α)(rest:List D)(i:Nat)(h:i<l.length):qZ true k ((l.flatMap f++rest).drop (i * k))=some (.agg (f l[i])):=by
 have hle:k≤((l.flatMap f++rest).drop (i * k)).length:=by
  have:=congrArg List.length (Di hf l rest i h);rw [List.length_take,hf] at this;omega
 simp only [qZ,if_true,hle,Di hf l rest i h]
theorem Ii(hf:∀a,(f a).length=k)(l:List α)(rest:List D)(i j:Nat)(h:i<l.length)(hj:j<k):qZ false 1 ((l.flatMap f++rest).drop (i * k+j))=(f l[i])[j]?:=by
 rw [← Tt hf l rest i j h hj];simp only [qZ,Bool.false_eq_true,if_false,List.head?_drop]
theorem jM(A B C X:List D)(h:X.length=B.length):cW (A++(B++C)) A.length X=A++(X++C):=by
 unfold cW;rw [List.take_left,h,← List.append_assoc A B C,← List.length_append,List.drop_left,List.append_assoc]
theorem xJ(hf:∀a,(f a).length=k)(l:List α)(rest:List D)(i:Nat)(x:α)(h:i<l.length):cW (l.flatMap f++rest) (i * k) (f x)=(l.set i x).flatMap f++rest:=by
 have e1:(l.set i x).flatMap f=(l.take i).flatMap f++(f x++(l.drop (i+1)).flatMap f):=by
  rw [List.set_eq_take_append_cons_drop,if_pos h,List.flatMap_append,List.flatMap_cons]
 rw [e1,sO l i h,← kZ hf l i h,List.append_assoc,List.append_assoc,jM _ _ _ _ (by rw [hf,hf]),List.append_assoc,List.append_assoc]
theorem cK {d:α→D} (hd:∀a,(d a).cells=f a)(l:List α):(l.map d).flatMap D.cells=l.flatMap f:=by
 induction l with
 | nil=>rfl
 | cons a l ih=>simp only [List.map_cons,List.flatMap_cons,hd a,ih]
end
variable {rr:Option Nat} {dfr:List Deferred}
section
variable {P:Program}
theorem zs {c:Cfg} {all:List Oper} (n:Nat) {r r2:List Oper} {st:St} {K:St→Prop} (h:∀K':St→Prop,(∀s,lH P c all r2 s K→K' s)→lH P c all (r.take n) st K')(hd:r.drop n=r2:=by simp only [List.drop] <;> rfl):lH P c all r st K:=bZ n (by rw [hd];exact h)
theorem jD {c:Cfg} {all:List Oper} (n:Nat) {r r2:List Oper} {ks k2:List DK} {st:St} {K:St→Prop} (h:∀K':St→Prop,(∀s,gY P c all r2 k2 s K→K' s)→gY P c all (r.take n) (ks.take n) st K')(hks:n≤ks.length:=by simp)(hd:r.drop n=r2:=by simp only [List.drop] <;> rfl)(hd2:ks.drop n=k2:=by simp only [List.drop] <;> rfl):gY P c all r ks st K:=Ld n hks (by rw [hd,hd2];exact h)
theorem zq {α:Type} {S:α→St} {p:α→Prop} {m:α→Nat} {x:α} {Q:Exit→St→Prop} {s:St} {n:Nat} {l:List (Nat×Slot)} {loc obj:List (List D)} (y:α)(hp:p y)(hm:m y<m x)(hl:rX loc.length s.env l)(hS:S y=St.mk' n l loc obj:=by exact rfl)(hn:s.n=n:=by exact rfl)(hloc:loc<+:s.loc:=by simp)(hobj:s.obj=obj:=by simp):xG S p m x Q .normal s:=
 dU y hp hm (by rw [hS];exact dD hn hl hloc hobj)
theorem zf {f:FuncId} {fn:Func} {cd:Code} {args:List D} {σ:List (List D)} {Q:D→List (List D)→Prop} {n:Nat} {rs:List ResultVar} (hf:P.funcs[f]?=some fn)(hn:fn.ntmps=n)(hrs:fn.results=rs.toArray)(h:AWP P cd (aL P rs Q) (St.mk' n (aN 0 args) [] σ))
  (hb : fn.body = some cd := by exact rfl) (hname : (fn.name != "runtime.NumGoroutine") = true := by exact rfl) (hle : args.length ≤ n := by simp) : Ct P f args σ Q := Yr hf hb hname hn hrs hle h
theorem zr(c:Cfg) {id:Nat} {ops ops':List Oper} {y:Code} {Q:Exit→St→Prop} {st:St} (h:∀(all:List Oper) (K:St→Prop),(∀s,dO rr dfr P y Q s→K s)→lH P c all ops' st K)(he:ops.map mJ=ops':=by simp only [jV,lB] <;> rfl):dO rr dfr P (.seq (.region id ops.toArray false) y) Q st:=
 aC (nC he fun all _ K hK=>h all K fun s hs=>hK s (aA hs))
theorem mY(c:Cfg) {id:Nat} {ops ops':List Oper} {y:Code} {Q:Exit→St→Prop} {st:St} (h:∀(all:List Oper),(∀j,aR all j=aR ops j)→∀(K:St→Prop),(∀s,dO rr dfr P y Q s→K s)→lH P c all ops' st K)(he:ops.map mJ=ops':=by simp only [jV,lB] <;> rfl):dO rr dfr P (.seq (.region id ops.toArray false) y) Q st:=
 aC (nC he fun all ha K hK=>h all ha K fun s hs=>hK s (aA hs))
theorem zt(c:Cfg) {id:Nat} {ops ops':List Oper} {Q:Exit→St→Prop} {st:St} (h:∀(all:List Oper) (K:St→Prop),(∀s,Q .normal s→K s)→lH P c all ops' st K)(he:ops.map mJ=ops':=by simp only [jV,lB] <;> rfl):dO rr dfr P (.region id ops.toArray false) Q st:=
 nC he fun all _ K hK=>h all K hK
theorem ztg(c:Cfg) {id:Nat} {ops ops':List Oper} {Q:Exit→St→Prop} {st:St} (h:∀(all:List Oper),(∀j,aR all j=aR ops j)→∀(K:St→Prop),(∀s,Q .normal s→K s)→lH P c all ops' st K)(he:ops.map mJ=ops':=by simp only [jV,lB] <;> rfl):dO rr dfr P (.region id ops.toArray false) Q st:=
 nC he fun all ha K hK=>h all ha K hK
theorem aY {id:Nat} {ops ops':List Oper} {y:Code} {Q:Exit→St→Prop} {st:St} (h:∀(all:List Oper) (K:St→Prop),(∀s,dO rr dfr P y Q s→K s)→lH P ⟨[], [], [], [], []⟩ all ops' st K)(he:ops.map mJ=ops':=by simp only [jV,lB] <;> rfl):dO rr dfr P (.seq (.region id ops.toArray false) y) Q st:=zr _ h he
theorem yL {id:Nat} {ops ops':List Oper} {Q:Exit→St→Prop} {st:St} (h:∀(all:List Oper) (K:St→Prop),(∀s,Q .normal s→K s)→lH P ⟨[], [], [], [], []⟩ all ops' st K)(he:ops.map mJ=ops':=by simp only [jV,lB] <;> rfl):dO rr dfr P (.region id ops.toArray false) Q st:=zt _ h he
theorem zd(c:Cfg)(ks:List DK) {id:Nat} {ops ops':List Oper} {y:Code} {Q:Exit→St→Prop} {st:St} (h:∀(all:List Oper),(∀j,aR all j=aR ops j)→∀(K:St→Prop),(∀s,dO rr dfr P y Q s→K s)→gY P c all ops' ks st K)
  (he:ops.map mJ=ops':=by simp only [jV,lB] <;> rfl) (hm:P.follows .mixedOrders=true:=by kernel_rfl) (hok:Bj c ops ks=true:=by kernel_rfl):dO rr dfr P (.seq (.region id ops.toArray true) y) Q st:=
 aC (Dc ks hm hok he fun all ha K hK=>h all ha K fun s hs=>hK s (aA hs))
theorem ze(c:Cfg)(ks:List DK) {id:Nat} {ops ops':List Oper} {Q:Exit→St→Prop} {st:St} (h:∀(all:List Oper),(∀j,aR all j=aR ops j)→∀(K:St→Prop),(∀s,Q .normal s→K s)→gY P c all ops' ks st K)
  (he:ops.map mJ=ops':=by simp only [jV,lB] <;> rfl) (hm:P.follows .mixedOrders=true:=by kernel_rfl) (hok:Bj c ops ks=true:=by kernel_rfl):dO rr dfr P (.region id ops.toArray true) Q st:=
 Dc ks hm hok he fun all ha K hK=>h all ha K hK
theorem zk(K:List Nat) {l2:List (Nat×Slot)} {c:Code} {n:Nat} {l:List (Nat×Slot)} {loc obj:List (List D)} {Q:Exit→St→Prop} (h:dO rr dfr P c Q (St.mk' n l2 loc obj))(hl:qM K l=l2:=by simp only [Ea,sP,vX,vF,aCd,aAr,Nat.reduceBEq] <;> rfl):dO rr dfr P c Q (St.mk' n l loc obj):=aCc K hl h
theorem zg {c:Cfg} {all r:List Oper} {d:Option Tmp} {op:Op} {ty:TypeId} {pos:String} {after:Array Edge} {j t:Nat} {b want:Bool} {st:St} {K:St→Prop} (hg:aR all j=some t)(h1:∀K':St→Prop,(∀s,lH P c all r s K→K' s)→Nr d st∧fG P c d op st K')
  (hs:st.env t= .d (.v (.bool b)):=by simp <;> rfl) (hb:b=want:=by exact rfl):lH P c all (⟨d,op,ty,pos,after,some (j,want)⟩::r) st K:=aId hg hs hb h1
theorem zi {t:Nat} {a b:Code} {s:Slot} {n:Nat} {l:List (Nat×Slot)} {loc obj:List (List D)} {Q:Exit→St→Prop} (h:sX s.toD (dO rr dfr P a Q (St.mk' n ((t,.d (.bool true))::l) loc obj)) (dO rr dfr P b Q (St.mk' n ((t,.d (.bool false))::l) loc obj)))(hs:cQ l t=s:=by simp <;> rfl):dO rr dfr P (.cond (.tmp t) a b) Q (St.mk' n l loc obj):=aFz hs h
theorem cH {f:FuncId} {args args':List D} {σ y:List (List D)} {x:D} {Q:D→List (List D)→Prop} (h:Ct P f args σ (fun r τ=>r=x∧τ=y))(k:Q x y)(hl:jN args' args:=by first | exact eW rfl | (refine eW ?_;simp;done) | (refine eW ?_;simp;rfl) | (simp [jN,Bt];done)):Ct P f args' σ Q:=
 (h.of_le hl rfl).mono fun r τ ⟨h1,h2⟩=>by rw [h1,h2];exact k
theorem Uj {f:FuncId} {args args':List D} {σ:List (List D)} {Q Q':D→List (List D)→Prop} (h:Ct P f args σ Q)(k:∀r τ,Q r τ→Q' r τ)(hl:jN args' args:=by first | exact eW rfl | (refine eW ?_;simp;done) | (refine eW ?_;simp;rfl) | (simp [jN,Bt];done)):Ct P f args' σ Q':=
 (h.of_le hl rfl).mono k
theorem To {f:FuncId} {args args':List D} {r:D} {k:D→Prop} (h:∀σ,Ct P f args σ (fun r' τ=>r'=r∧τ=σ))(hk:k r)(hl:jN args' args:=by first | exact eW rfl | (refine eW ?_;simp;done) | (refine eW ?_;simp;rfl) | (simp [jN,Bt];done)):∃r,(∀σ,Ct P f args' σ fun r' σ'=>r'=r∧σ'=σ)∧k r:=
 ⟨r,fun σ=>(h σ).of_le hl rfl,hk⟩
theorem zdr {f:FuncId} {args args':List D} {σ:List (List D)} {r:D} {k:D→Prop} (h:Ct P f args σ (fun r' τ=>r'=r∧τ=σ))(hk:k r)(hl:jN args' args:=by first | exact eW rfl | (refine eW ?_;simp;done) | (refine eW ?_;simp;rfl) | (simp [jN,Bt];done)):∃r,(Ct P f args' σ fun r' σ'=>r'=r∧σ'=σ)∧k r:=
 ⟨r,h.of_le hl rfl,hk⟩
theorem zdd {f:FuncId} {args args':List D} {σ σ0:List (List D)} {r:D} {k:D→List (List D)→Prop} (h:Ct P f args σ (fun r' τ=>r'=r∧τ=σ0))(hk:k r σ0)(hl:jN args' args:=by first | exact eW rfl | (refine eW ?_;simp;done) | (refine eW ?_;simp;rfl) | (simp [jN,Bt];done)):∃r σ0,(Ct P f args' σ fun r' σ'=>r'=r∧σ'=σ0)∧k r σ0:=
 ⟨r,σ0,h.of_le hl rfl,hk⟩
end
end Go.Vm
