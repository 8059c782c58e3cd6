import Derived.Test.YtbgfljpnhhdkoaaGreatVmX7
set_option linter.all false
namespace Go.Vm
open Go
theorem dA {α:Type} (l:List α)(k:Nat)(h:k<l.length):l.take (k+1)=l.take k++ [l[k]]:=by
 rw [List.take_add_one,List.getElem?_eq_getElem h];rfl
theorem uE {α:Type} {p:List α→Prop} (h0:p [])(h1:∀l x,p l→p (l++ [x]))(l:List α):p l:=by
 have:∀(r:List α),p r.reverse:=by
  intro r;induction r with
  | nil=>exact h0
  | cons a r ih=>rw [List.reverse_cons];exact h1 _ _ ih
 have:=this l.reverse
 rwa [List.reverse_reverse] at this
def rJ {α:Type} (p:α→Bool)(l:List α):Int:=match l.findIdx? p with | some k=>k | none=> -1
theorem oO {α:Type} {p:α→Bool} {l:List α} {k:Nat} (h:k<l.length)(hh:∀x∈l.take k,p x=false)(e:p l[k]=true):rJ p l=k:=by
 have:l.findIdx? p=some k:=by
  rw [List.findIdx?_eq_some_iff_getElem];refine⟨h,e,fun j hj=>?_⟩;have:=hh ((l.take k)[j]'(by simp;omega)) (List.getElem_mem _);simpa using this
 simp [rJ,this]
theorem lR {α:Type} {p:α→Bool} {l:List α} (h:∀x∈l,p x=false):rJ p l= -1:=by
 have:l.findIdx? p=none:=by
  rw [List.findIdx?_eq_none_iff];simpa using h
 simp [rJ,this]
theorem oK {α:Type} (p:α→Bool)(l:List α):(rJ p l= -1∧l.filter (fun x=> !p x)=l)∨∃k:Nat,rJ p l=k∧k<l.length∧∀x∈l.take k,p x=false:=by
 unfold rJ;split
 ·rename_i k h;rw [List.findIdx?_eq_some_iff_getElem] at h;obtain⟨hk,he,hn⟩:=h;refine .inr ⟨k,rfl,hk,fun x hx=>?_⟩;obtain⟨j,hj,rfl⟩:=List.getElem_of_mem hx;have:=hn j (by simp at hj;omega);simpa using this
 rename_i h;rw [List.findIdx?_eq_none_iff] at h;refine .inl ⟨rfl,?_⟩;rw [List.filter_eq_self];intro x hx;simp [h x hx]
theorem kS {α:Type} {p:α→Bool} {l:List α} {k:Nat} (h:k<l.length)(hh:∀x∈l.take k,p x=false)(e:p l[k]=false):∀x∈l.take (k+1),p x=false:=by
 rw [dA l k h];intro x hx;rcases List.mem_append.1 hx with h1 | h1
 ·exact hh x h1
 simp at h1;subst h1;exact e
theorem Kj {α:Type} (f:α→D)(l:List α)(rest:List D)(i:Nat)(x:α)(h:i<l.length):List.take i (l.map f++rest)++f x::List.drop (i+1) (l.map f++rest)=(l.set i x).map f++rest:=by
 rw [← cB f l rest i x h];simp
theorem Ia {α:Type} (f:α→D)(l:List α)(rest:List D)(n:Nat)(h:n=l.length):List.drop n (l.map f++rest)=rest:=by
 subst h;rw [List.drop_append_of_le_length (by simp),List.drop_eq_nil_of_le (by simp)];rfl
theorem dT {α:Type} {f:α→D} (h:∀a,(f a).cells= [f a])(l:List α):(l.map f).flatMap D.cells=l.map f:=by
 induction l with
 | nil=>rfl
 | cons a l ih=>simp only [List.map_cons,List.flatMap_cons,h a,ih];rfl
def kp {α:Type} (p:α→Bool)(l:List α)(j:Nat):List α:=(l.take j).filter fun x=> !p x
def ar {α:Type} (p:α→Bool)(l:List α)(j:Nat):List α:=kp p l j++l.drop (kp p l j).length
theorem Dm {α:Type} (p:α→Bool)(l:List α)(j:Nat)(h:j≤l.length):(kp p l j).length≤j:=by
 unfold kp;have:=List.length_filter_le (fun x=> !p x) (l.take j);rw [List.length_take] at this;omega
theorem aJc {α:Type} (p:α→Bool)(l:List α)(j:Nat):(kp p l j).length≤l.length:=by
 unfold kp;have:=List.length_filter_le (fun x=> !p x) (l.take j);rw [List.length_take] at this;omega
theorem Oo {α:Type} (p:α→Bool)(l:List α)(j:Nat)(h:j<l.length):kp p l (j+1)=kp p l j++if p l[j]=true then [] else [l[j]]:=by
 unfold kp;rw [dA l j h,List.filter_append,List.filter_cons];by_cases e:p l[j]=true <;> simp [e]
theorem zN {α:Type} (p:α→Bool)(l:List α)(j:Nat):(ar p l j).length=l.length:=by
 unfold ar;have:=aJc p l j;rw [List.length_append,List.length_drop];omega
theorem Pl {α:Type} (p:α→Bool)(l:List α)(j:Nat)(h:j<l.length):(ar p l j)[j]'(by rw [zN];exact h)=l[j]:=by
 have hk:=Dm p l j (by omega);unfold ar;rw [List.getElem_append_right (by omega),List.getElem_drop];congr 1;omega
theorem oS {α:Type} (p:α→Bool)(l:List α)(j:Nat)(h:j<l.length)(e:p l[j]=true):ar p l (j+1)=ar p l j∧kp p l (j+1)=kp p l j:=by
 have:=Oo p l j h;rw [if_pos e,List.append_nil] at this;exact⟨by unfold ar;rw [this],this⟩
theorem rT {α:Type} (p:α→Bool)(l:List α)(j:Nat)(h:j<l.length)(e:p l[j]=false):(ar p l j).set (kp p l j).length l[j]=ar p l (j+1)∧(kp p l (j+1)).length=(kp p l j).length+1:=by
 have hs:=Oo p l j h;have hk:=Dm p l j (by omega);rw [if_neg (by simp [e])] at hs;refine⟨?_,by rw [hs];simp⟩;unfold ar;rw [hs,List.length_append,List.length_singleton,List.set_append_right _ _ (Nat.le_refl _),Nat.sub_self,List.append_assoc];congr 1;rw [List.drop_eq_getElem_cons (by omega)];rfl
theorem aBa {α:Type} (p:α→Bool)(l:List α)(k:Nat)(h:k<l.length)(hh:∀x∈l.take k,p x=false)(e:p l[k]=true):ar p l (k+1)=l∧(kp p l (k+1)).length=k:=by
 have h1:kp p l k=l.take k:=by
  unfold kp;rw [List.filter_eq_self];intro x hx;simp [hh x hx]
 have h2:=(oS p l k h e).2;unfold ar;rw [h2,h1,List.length_take,Nat.min_eq_left (by omega)];exact⟨List.take_append_drop k l,rfl⟩
theorem tM {α:Type} {p:α→Bool} {l:List α} (h:¬rJ p l= -1):∃k:Nat,rJ p l=k∧ar p l (k+1)=l∧(kp p l (k+1)).length=k∧k<l.length:=by
 unfold rJ at *;split at h
 ·rename_i k hf;rw [List.findIdx?_eq_some_iff_getElem] at hf;obtain⟨hk,he,hn⟩:=hf;have hh:∀x∈l.take k,p x=false:=fun x hx=>by
   obtain⟨j,hj,rfl⟩:=List.getElem_of_mem hx;have:=hn j (by simp at hj;omega);simpa using this
  obtain⟨a,b⟩:=aBa p l k hk hh he;exact⟨k,rfl,a,b,hk⟩
 exact absurd rfl h
theorem iX {α:Type} {l:List α} {m:Nat} {x:α} (h:l[m]?=some x):m<l.length:=(List.getElem?_eq_some_iff.1 h).1
theorem aK {α:Type} {l:List α} {m:Nat} {x:α} (h:l[m]?=some x)(a:α):(l.set m a)[m]?=some a:=by
 rw [List.getElem?_set,if_pos rfl,if_pos (iX h)]
theorem bY {α:Type} {l:List α} {m:Nat} {x:α} (h:l[m]?=some x)(a:α)(r:List α):(l.set m a++r)[m]?=some a:=by
 rw [List.getElem?_append_left (by rw [List.length_set];exact iX h),aK h]
theorem dC {α:Type} {l:List α} {m:Nat} {x:α} (h:l[m]?=some x)(r:List α):(l++r)[m]?=some x:=by
 rw [List.getElem?_append_left (iX h)];exact h
theorem cR {α:Type} {l:List α} {m:Nat} {x:α} (h:l[m]?=some x)(a b:α)(r:List α):(l.set m a++r).set m b=l.set m b++r:=by
 rw [List.set_append_left _ _ (by rw [List.length_set];exact iX h),List.set_set]
theorem eA {α:Type} {l:List α} {m:Nat} {x:α} (h:l[m]?=some x)(b:α)(r:List α):(l++r).set m b=l.set m b++r:=by
 rw [List.set_append_left _ _ (iX h)]
theorem bT {α:Type} (l:List α)(m:Nat)(a b:α)(r:List α):(l.set m a++b::r)[l.length]?=some b:=by
 rw [List.getElem?_append_right (by rw [List.length_set];omega),List.length_set,Nat.sub_self];rfl
theorem bO {α:Type} (l:List α)(m:Nat)(a b c:α)(r:List α):(l.set m a++b::r).set l.length c=l.set m a++c::r:=by
 rw [List.set_append_right _ _ (by rw [List.length_set];omega),List.length_set,Nat.sub_self];rfl
theorem bQ {α:Type} (l:List α)(b:α)(r:List α):(l++b::r)[l.length]?=some b:=by
 rw [List.getElem?_append_right (by omega),Nat.sub_self];rfl
theorem bX {α:Type} (l:List α)(b c:α)(r:List α):(l++b::r).set l.length c=l++c::r:=by
 rw [List.set_append_right _ _ (by omega),Nat.sub_self];rfl
theorem bV {α:Type} (l:List α)(m:Nat)(a b b':α)(r:List α):(l.set m a++b::b'::r)[l.length+1]?=some b':=by
 rw [List.getElem?_append_right (by rw [List.length_set];omega),List.length_set,Nat.add_sub_cancel_left];rfl
theorem cF {α:Type} (l:List α)(m:Nat)(a b b' c:α)(r:List α):(l.set m a++b::b'::r).set (l.length+1) c=l.set m a++b::c::r:=by
 rw [List.set_append_right _ _ (by rw [List.length_set];omega),List.length_set,Nat.add_sub_cancel_left];rfl
theorem aT {α:Type} (l r:List α)(k:Nat):(l++r)[l.length+k]?=r[k]?:=by
 rw [List.getElem?_append_right (by omega),Nat.add_sub_cancel_left]
theorem aP {α:Type} (l r:List α)(k:Nat)(c:α):(l++r).set (l.length+k) c=l++r.set k c:=by
 rw [List.set_append_right _ _ (by omega),Nat.add_sub_cancel_left]
theorem aM {α:Type} (l r:List α):(l++r)[l.length]?=r[0]?:=aT l r 0
theorem aG {α:Type} (l r:List α)(c:α):(l++r).set l.length c=l++r.set 0 c:=aP l r 0 c
theorem dH {α:Type} (l:List α)(m:Nat)(a b b' b2:α)(r:List α):(l.set m a++b::b'::b2::r)[l.length+2]?=some b2:=by
 rw [List.getElem?_append_right (by rw [List.length_set];omega),List.length_set,Nat.add_sub_cancel_left];rfl
theorem cE {α:Type} (l:List α)(m:Nat)(a b b' b2 c:α)(r:List α):(l.set m a++b::b'::b2::r).set (l.length+2) c=l.set m a++b::b'::c::r:=by
 rw [List.set_append_right _ _ (by rw [List.length_set];omega),List.length_set,Nat.add_sub_cancel_left];rfl
section
variable {α:Type} {f:α→List D} {k:Nat}
theorem cL(hf:∀a,(f a).length=k)(l:List α):(l.flatMap f).length=l.length * k:=by
 induction l with
 | nil=>simp
 | cons a l ih=>simp only [List.flatMap_cons,List.length_append,ih,hf,List.length_cons,Nat.add_mul,Nat.one_mul];omega
theorem sO(l:List α)(i:Nat)(h:i<l.length):l.flatMap f=(l.take i).flatMap f++(f l[i]++(l.drop (i+1)).flatMap f):=by
 have:l=l.take i++(l[i]::l.drop (i+1)):=by rw [← List.drop_eq_getElem_cons h,List.take_append_drop]
 conv=>lhs;rw [this]
 rw [List.flatMap_append,List.flatMap_cons]
theorem kW(hf:∀a,(f a).length=k)(l:List α)(i:Nat)(h:i<l.length):((l.take i).flatMap f).length=i * k:=by
 rw [cL hf,List.length_take,Nat.min_eq_left (by omega)]
theorem Cm(hf:∀a,(f a).length=k)(l:List α)(rest:List D)(i:Nat)(h:i<l.length):((l.flatMap f++rest).drop (i * k)).take k=f l[i]:=by
 rw [sO l i h,List.append_assoc,← kW hf l i h,List.drop_left,List.append_assoc,← hf l[i],List.take_left]
theorem Si(hf:∀a,(f a).length=k)(l:List α)(rest:List D)(i j:Nat)(h:i<l.length)(hj:j<k):(l.flatMap f++rest)[i * k+j]?=(f l[i])[j]?:=by
 rw [sO l i h,List.append_assoc,← kW hf l i h,List.getElem?_append_right (by omega),Nat.add_sub_cancel_left,List.append_assoc,List.getElem?_append_left (by rw [hf];exact hj)]
theorem Px(hf:∀a,(f a).length=k)(l:List α)(rest:List D)(i:Nat)(h:i<l.length):qP true k ((l.flatMap f++rest).drop (i * k))=some (.agg (f l[i])):=by
 have hle:k≤((l.flatMap f++rest).drop (i * k)).length:=by
  have:=congrArg List.length (Cm hf l rest i h);rw [List.length_take,hf] at this;omega
 simp only [qP,if_true,hle,Cm hf l rest i h]
theorem Jh(hf:∀a,(f a).length=k)(l:List α)(rest:List D)(i j:Nat)(h:i<l.length)(hj:j<k):qP false 1 ((l.flatMap f++rest).drop (i * k+j))=(f l[i])[j]?:=by
 rw [← Si hf l rest i j h hj];simp only [qP,Bool.false_eq_true,if_false,List.head?_drop]
theorem jN(A B C X:List D)(h:X.length=B.length):cV (A++(B++C)) A.length X=A++(X++C):=by
 unfold cV;rw [List.take_left,h,← List.append_assoc A B C,← List.length_append,List.drop_left,List.append_assoc]
theorem wR(hf:∀a,(f a).length=k)(l:List α)(rest:List D)(i:Nat)(x:α)(h:i<l.length):cV (l.flatMap f++rest) (i * k) (f x)=(l.set i x).flatMap f++rest:=by
 have e1:(l.set i x).flatMap f=(l.take i).flatMap f++(f x++(l.drop (i+1)).flatMap f):=by
  rw [List.set_eq_take_append_cons_drop,if_pos h,List.flatMap_append,List.flatMap_cons]
 rw [e1,sO l i h,← kW hf l i h,List.append_assoc,List.append_assoc,jN _ _ _ _ (by rw [hf,hf]),List.append_assoc,List.append_assoc]
theorem cJ {d:α→D} (hd:∀a,(d a).cells=f a)(l:List α):(l.map d).flatMap D.cells=l.flatMap f:=by
 induction l with
 | nil=>rfl
 | cons a l ih=>simp only [List.map_cons,List.flatMap_cons,hd a,ih]
end
variable {rr:Option Nat} {dfr:List Deferred}
section
variable {P:Program}
theorem zs {c:Cfg} {all:List Oper} (n:Nat) {r r2:List Oper} {st:St} {K:St→Prop} (h:∀K':St→Prop,(∀s,lE P c all r2 s K→K' s)→lE P c all (r.take n) st K')(hd:r.drop n=r2:=by simp only [List.drop] <;> rfl):lE P c all r st K:=bF n (by rw [hd];exact h)
theorem dJ {c:Cfg} {all:List Oper} (n:Nat) {r r2:List Oper} {ks k2:List DK} {st:St} {K:St→Prop} (h:∀K':St→Prop,(∀s,fY P c all r2 k2 s K→K' s)→fY P c all (r.take n) (ks.take n) st K')(hks:n≤ks.length:=by simp)(hd:r.drop n=r2:=by simp only [List.drop] <;> rfl)(hd2:ks.drop n=k2:=by simp only [List.drop] <;> rfl):fY P c all r ks st K:=Lf n hks (by rw [hd,hd2];exact h)
theorem zq {α:Type} {S:α→St} {p:α→Prop} {m:α→Nat} {x:α} {Q:Exit→St→Prop} {s:St} {n:Nat} {l:List (Nat×Slot)} {loc obj:List (List D)} (y:α)(hp:p y)(hm:m y<m x)(hl:pH loc.length s.env l)(hS:S y=St.mk' n l loc obj:=by exact rfl)(hn:s.n=n:=by exact rfl)(hloc:loc<+:s.loc:=by simp)(hobj:s.obj=obj:=by simp):sU S p m x Q .normal s:=
 dU y hp hm (by rw [hS];exact dG hn hl hloc hobj)
theorem zf {f:FuncId} {fn:Func} {cd:Code} {args:List D} {σ:List (List D)} {Q:D→List (List D)→Prop} {n:Nat} {rs:List ResultVar} (hf:P.funcs[f]?=some fn)(hn:fn.ntmps=n)(hrs:fn.results=rs.toArray)(h:AWP P cd (aJ P rs Q) (St.mk' n (aO 0 args) [] σ))
  (hb : fn.body = some cd := by exact rfl) (hname : (fn.name != "runtime.NumGoroutine") = true := by exact rfl) (hle : args.length ≤ n := by simp) : Ct P f args σ Q := Wm hf hb hname hn hrs hle h
theorem zr(c:Cfg) {id:Nat} {ops ops':List Oper} {y:Code} {Q:Exit→St→Prop} {st:St} (h:∀(all:List Oper) (K:St→Prop),(∀s,dI rr dfr P y Q s→K s)→lE P c all ops' st K)(he:ops.map mQ=ops':=by simp only [jR,kZ] <;> rfl):dI rr dfr P (.seq (.region id ops.toArray false) y) Q st:=
 aC (mX he fun all _ K hK=>h all K fun s hs=>hK s (aA hs))
theorem kF(c:Cfg) {id:Nat} {ops ops':List Oper} {y:Code} {Q:Exit→St→Prop} {st:St} (h:∀(all:List Oper),(∀j,aN all j=aN ops j)→∀(K:St→Prop),(∀s,dI rr dfr P y Q s→K s)→lE P c all ops' st K)(he:ops.map mQ=ops':=by simp only [jR,kZ] <;> rfl):dI rr dfr P (.seq (.region id ops.toArray false) y) Q st:=
 aC (mX he fun all ha K hK=>h all ha K fun s hs=>hK s (aA hs))
theorem zt(c:Cfg) {id:Nat} {ops ops':List Oper} {Q:Exit→St→Prop} {st:St} (h:∀(all:List Oper) (K:St→Prop),(∀s,Q .normal s→K s)→lE P c all ops' st K)(he:ops.map mQ=ops':=by simp only [jR,kZ] <;> rfl):dI rr dfr P (.region id ops.toArray false) Q st:=
 mX he fun all _ K hK=>h all K hK
theorem ztg(c:Cfg) {id:Nat} {ops ops':List Oper} {Q:Exit→St→Prop} {st:St} (h:∀(all:List Oper),(∀j,aN all j=aN ops j)→∀(K:St→Prop),(∀s,Q .normal s→K s)→lE P c all ops' st K)(he:ops.map mQ=ops':=by simp only [jR,kZ] <;> rfl):dI rr dfr P (.region id ops.toArray false) Q st:=
 mX he fun all ha K hK=>h all ha K hK
theorem aV {id:Nat} {ops ops':List Oper} {y:Code} {Q:Exit→St→Prop} {st:St} (h:∀(all:List Oper) (K:St→Prop),(∀s,dI rr dfr P y Q s→K s)→lE P ⟨[], [], [], [], []⟩ all ops' st K)(he:ops.map mQ=ops':=by simp only [jR,kZ] <;> rfl):dI rr dfr P (.seq (.region id ops.toArray false) y) Q st:=zr _ h he
theorem rH {id:Nat} {ops ops':List Oper} {Q:Exit→St→Prop} {st:St} (h:∀(all:List Oper) (K:St→Prop),(∀s,Q .normal s→K s)→lE P ⟨[], [], [], [], []⟩ all ops' st K)(he:ops.map mQ=ops':=by simp only [jR,kZ] <;> rfl):dI rr dfr P (.region id ops.toArray false) Q st:=zt _ h he
theorem zd(c:Cfg)(ks:List DK) {id:Nat} {ops ops':List Oper} {y:Code} {Q:Exit→St→Prop} {st:St} (h:∀(all:List Oper),(∀j,aN all j=aN ops j)→∀(K:St→Prop),(∀s,dI rr dfr P y Q s→K s)→fY P c all ops' ks st K)
  (he:ops.map mQ=ops':=by simp only [jR,kZ] <;> rfl) (hm:P.follows .mixedOrders=true:=by kernel_rfl) (hok:zS c ops ks=true:=by kernel_rfl):dI rr dfr P (.seq (.region id ops.toArray true) y) Q st:=
 aC (Cx ks hm hok he fun all ha K hK=>h all ha K fun s hs=>hK s (aA hs))
theorem ze(c:Cfg)(ks:List DK) {id:Nat} {ops ops':List Oper} {Q:Exit→St→Prop} {st:St} (h:∀(all:List Oper),(∀j,aN all j=aN ops j)→∀(K:St→Prop),(∀s,Q .normal s→K s)→fY P c all ops' ks st K)
  (he:ops.map mQ=ops':=by simp only [jR,kZ] <;> rfl) (hm:P.follows .mixedOrders=true:=by kernel_rfl) (hok:zS c ops ks=true:=by kernel_rfl):dI rr dfr P (.region id ops.toArray true) Q st:=
 Cx ks hm hok he fun all ha K hK=>h all ha K hK
theorem zk(K:List Nat) {l2:List (Nat×Slot)} {c:Code} {n:Nat} {l:List (Nat×Slot)} {loc obj:List (List D)} {Q:Exit→St→Prop} (h:dI rr dfr P c Q (St.mk' n l2 loc obj))(hl:pG K l=l2:=by simp only [Dv,sP,uY,wD,Vr,aAw,Nat.reduceBEq] <;> rfl):dI rr dfr P c Q (St.mk' n l loc obj):=aBd K hl h
theorem zg {c:Cfg} {all r:List Oper} {d:Option Tmp} {op:Op} {ty:TypeId} {pos:String} {after:Array Edge} {j t:Nat} {b want:Bool} {st:St} {K:St→Prop} (hg:aN all j=some t)(h1:∀K':St→Prop,(∀s,lE P c all r s K→K' s)→Ki d st∧fA P c d op st K')
  (hs:st.env t= .d (.v (.bool b)):=by simp <;> rfl) (hb:b=want:=by exact rfl):lE P c all (⟨d,op,ty,pos,after,some (j,want)⟩::r) st K:=aG6 hg hs hb h1
theorem oW {c:Cfg} {all r:List Oper} {d:Option Tmp} {op:Op} {ty:TypeId} {pos:String} {after:Array Edge} {j t:Nat} {b want:Bool} {k:DK} {ks:List DK} {st:St} {K:St→Prop} (hg:aN all j=some t)(h1:∀K':St→Prop,(∀s,fY P c all r ks s K→K' s)→Ki d st∧rI P c d op k st K')
  (hs:st.env t= .d (.v (.bool b)):=by simp <;> rfl) (hb:b=want:=by exact rfl):fY P c all (⟨d,op,ty,pos,after,some (j,want)⟩::r) (k::ks) st K:=aDb hg hs hb h1
theorem zi {t:Nat} {a b:Code} {s:Slot} {n:Nat} {l:List (Nat×Slot)} {loc obj:List (List D)} {Q:Exit→St→Prop} (h:rW s.toD (dI rr dfr P a Q (St.mk' n ((t,.d (.bool true))::l) loc obj)) (dI rr dfr P b Q (St.mk' n ((t,.d (.bool false))::l) loc obj)))(hs:cO l t=s:=by simp <;> rfl):dI rr dfr P (.cond (.tmp t) a b) Q (St.mk' n l loc obj):=aFf hs h
theorem cD {f:FuncId} {args args':List D} {σ y:List (List D)} {x:D} {Q:D→List (List D)→Prop} (h:Ct P f args σ (fun r τ=>r=x∧τ=y))(k:Q x y)(hl:jM args' args:=by first | exact eV rfl | (refine eV ?_;simp;done) | (refine eV ?_;simp;rfl) | (simp [jM,zR];done)):Ct P f args' σ Q:=
 (h.of_le hl rfl).mono fun r τ ⟨h1,h2⟩=>by rw [h1,h2];exact k
theorem zcm {f:FuncId} {args args':List D} {σ:List (List D)} {Q Q':D→List (List D)→Prop} (h:Ct P f args σ Q)(k:∀r τ,Q r τ→Q' r τ)(hl:jM args' args:=by first | exact eV rfl | (refine eV ?_;simp;done) | (refine eV ?_;simp;rfl) | (simp [jM,zR];done)):Ct P f args' σ Q':=
 (h.of_le hl rfl).mono k
theorem Cr {f:FuncId} {args args':List D} {r:D} {k:D→Prop} (h:∀σ,Ct P f args σ (fun r' τ=>r'=r∧τ=σ))(hk:k r)(hl:jM args' args:=by first | exact eV rfl | (refine eV ?_;simp;done) | (refine eV ?_;simp;rfl) | (simp [jM,zR];done)):∃r,(∀σ,Ct P f args' σ fun r' σ'=>r'=r∧σ'=σ)∧k r:=
 ⟨r,fun σ=>(h σ).of_le hl rfl,hk⟩
theorem sR {f:FuncId} {args args':List D} {σ:List (List D)} {r:D} {k:D→Prop} (h:Ct P f args σ (fun r' τ=>r'=r∧τ=σ))(hk:k r)(hl:jM args' args:=by first | exact eV rfl | (refine eV ?_;simp;done) | (refine eV ?_;simp;rfl) | (simp [jM,zR];done)):∃r,(Ct P f args' σ fun r' σ'=>r'=r∧σ'=σ)∧k r:=
 ⟨r,h.of_le hl rfl,hk⟩
theorem Bo {f:FuncId} {args args':List D} {σ σ0:List (List D)} {r:D} {k:D→List (List D)→Prop} (h:Ct P f args σ (fun r' τ=>r'=r∧τ=σ0))(hk:k r σ0)(hl:jM args' args:=by first | exact eV rfl | (refine eV ?_;simp;done) | (refine eV ?_;simp;rfl) | (simp [jM,zR];done)):∃r σ0,(Ct P f args' σ fun r' σ'=>r'=r∧σ'=σ0)∧k r σ0:=
 ⟨r,σ0,h.of_le hl rfl,hk⟩
end
end Go.Vm
