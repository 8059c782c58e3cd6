import Derived.Test.YtbdjepeabjangaaGreatVmX7
set_option linter.all false
namespace Go.Vm
open Go
variable {K:St->Prop}{Q:Exit->St->Prop}{after:Array Edge}{all ops ops' r r2:List Oper}{args args':List D}{c:Cfg}{d:Option Tmp}{i m n t:Nat}{ks:List DK}{l:List (Nat×Slot)}{loc obj σ:List (List D)}{pos:String}{s st:St}{x:Bool}{y:Code}{α:Type}
theorem bM (l:List α)(k:Nat)(h:k<l.length):l.take (k+1)=l.take k++ [l[k]]:=by
 rw [List.take_add_one,aN h];rfl
theorem wF {p:List α->Prop} (h0:p [])(h1:∀l x,p l->p (l++ [x]))(l:List α):p l:=by
 have:∀(r:List α),p r.reverse:=by
  intro r;induction r with
  | nil=>exact h0
  | cons a r ih=>rw [List.reverse_cons];exact h1 _ _ ih
 have:=this l.reverse
 rwa [List.reverse_reverse] at this
def uC {α:Type} (p:α->Bool)(l:List α):Int:=match l.findIdx? p with | some k=>k | none=> -1
theorem At {p:α->Bool} {l:List α} {k:Nat} (h:k<l.length)(hh:∀x∈l.take k,p x=false)(e:p l[k]=true):uC p l=k:=by
 have:l.findIdx? p=some k:=by
  rw [nI];refine⟨h,e,fun j hj=>?_⟩;have:=hh ((l.take k)[j]'(by simp;omega)) (cR _);simpa using this
 simp [uC,this]
theorem sM {p:α->Bool} {l:List α} (h:∀x∈l,p x=false):uC p l= -1:=by
 have:l.findIdx? p=none:=by
  rw [nG];simpa using h
 simp [uC,this]
theorem vI (p:α->Bool)(l:List α):(uC p l= -1/\l.filter (fun x=> !p x)=l)\/∃k:Nat,uC p l=k/\k<l.length/\∀x∈l.take k,p x=false:=by
 unfold uC;split
 .rename_i k h;rw [nI] at h;obtain⟨hk,he,hn⟩:=h;refine .inr ⟨k,rfl,hk,fun x hx=>?_⟩;obtain⟨j,hj,rfl⟩:=yI hx;have:=hn j (by simp at hj;omega);simpa using this
 rename_i h;rw [nG] at h;refine .inl ⟨rfl,?_⟩;rw [tI];intro x hx;simp [h x hx]
theorem vY {p:α->Bool} {l:List α} {k:Nat} (h:k<l.length)(hh:∀x∈l.take k,p x=false)(e:p l[k]=false):∀x∈l.take (k+1),p x=false:=by
 rw [bM l k h];intro x hx;rcases dZ.1 hx with h1 | h1
 .exact hh x h1
 simp at h1;subst h1;exact e
theorem aDh (f:α->D)(l:List α)(rest:List D)(i:Nat)(x:α)(h:i<l.length):List.take i (l.map f++rest)++f x::List.drop (i+1) (l.map f++rest)=(l.set i x).map f++rest:=by
 rw [<- gD f l rest i x h];simp
theorem aBg (f:α->D)(l:List α)(rest:List D)(n:Nat)(h:n=l.length):List.drop n (l.map f++rest)=rest:=by
 subst h;rw [List.drop_append_of_le_length (by simp),tE (by simp)];rfl
theorem mG {f:α->D} (h:∀a,(f a).cells= [f a])(l:List α):(l.map f).flatMap D.cells=l.map f:=by
 induction l with
 | nil=>rfl
 | cons a l ih=>simp only [fM,hU,h a,ih];rfl
def kp {α:Type} (p:α->Bool)(l:List α)(j:Nat):List α:=(l.take j).filter fun x=> !p x
def ar {α:Type} (p:α->Bool)(l:List α)(j:Nat):List α:=kp p l j++l.drop (kp p l j).length
theorem Ln (p:α->Bool)(l:List α)(j:Nat)(h:j<=l.length):(kp p l j).length<=j:=by
 unfold kp;have:=gU (fun x=> !p x) (l.take j);rw [bB] at this;omega
theorem aMa (p:α->Bool)(l:List α)(j:Nat):(kp p l j).length<=l.length:=by
 unfold kp;have:=gU (fun x=> !p x) (l.take j);rw [bB] at this;omega
theorem Rb (p:α->Bool)(l:List α)(j:Nat)(h:j<l.length):kp p l (j+1)=kp p l j++if p l[j]=true then [] else [l[j]]:=by
 unfold kp;rw [bM l j h,eW,nQ];by_cases e:p l[j]=true <;> simp [e]
theorem Ha (p:α->Bool)(l:List α)(j:Nat):(ar p l j).length=l.length:=by
 unfold ar;have:=aMa p l j;rw [aX,dI];omega
theorem aA3 (p:α->Bool)(l:List α)(j:Nat)(h:j<l.length):(ar p l j)[j]'(by rw [Ha];exact h)=l[j]:=by
 have hk:=Ln p l j (by omega);unfold ar;rw [List.getElem_append_right (by omega),List.getElem_drop];congr 1;omega
theorem uN (p:α->Bool)(l:List α)(j:Nat)(h:j<l.length)(e:p l[j]=true):ar p l (j+1)=ar p l j/\kp p l (j+1)=kp p l j:=by
 have:=Rb p l j h;rw [aR e,iK] at this;exact⟨by unfold ar;rw [this],this⟩
theorem zH (p:α->Bool)(l:List α)(j:Nat)(h:j<l.length)(e:p l[j]=false):(ar p l j).set (kp p l j).length l[j]=ar p l (j+1)/\(kp p l (j+1)).length=(kp p l j).length+1:=by
 have hs:=Rb p l j h;have hk:=Ln p l j (by omega);rw [aG (by simp [e])] at hs;refine⟨?_,by rw [hs];simp⟩;unfold ar;rw [hs,aX,tC,jF _ _ (bD _),kU,bN];congr 1;rw [xM (by omega)];rfl
theorem aDi (p:α->Bool)(l:List α)(k:Nat)(h:k<l.length)(hh:∀x∈l.take k,p x=false)(e:p l[k]=true):ar p l (k+1)=l/\(kp p l (k+1)).length=k:=by
 have h1:kp p l k=l.take k:=by
  unfold kp;rw [tI];intro x hx;simp [hh x hx]
 have h2:=(uN p l k h e).2;unfold ar;rw [h2,h1,bB,iA (by omega)];exact⟨gL k l,rfl⟩
theorem Cu {p:α->Bool} {l:List α} (h:¬uC p l= -1):∃k:Nat,uC p l=k/\ar p l (k+1)=l/\(kp p l (k+1)).length=k/\k<l.length:=by
 unfold uC at *;split at h
 .rename_i k hf;rw [nI] at hf;obtain⟨hk,he,hn⟩:=hf;have hh:∀x∈l.take k,p x=false:=fun x hx=>by
   obtain⟨j,hj,rfl⟩:=yI hx;have:=hn j (by simp at hj;omega);simpa using this
  obtain⟨a,b⟩:=aDi p l k hk hh he;exact⟨k,rfl,a,b,hk⟩
 exact absurd rfl h
theorem Cl {l:List α} {x:α} (h:l[m]?=some x):m<l.length:=(aH.1 h).1
theorem eI {l:List α} {x:α} (h:l[m]?=some x)(a:α):(l.set m a)[m]?=some a:=by
 rw [bS,aR rfl,aR (Cl h)]
theorem fU {l:List α} {x:α} (h:l[m]?=some x)(a:α)(r:List α):(l.set m a++r)[m]?=some a:=by
 rw [aU (by rw [dR];exact Cl h),eI h]
theorem cO {l:List α} {x:α} (h:l[m]?=some x)(r:List α):(l++r)[m]?=some x:=by
 rw [aU (Cl h)];exact h
theorem fT {l:List α} {x:α} (h:l[m]?=some x)(a b:α)(r:List α):(l.set m a++r).set m b=l.set m b++r:=by
 rw [List.set_append_left _ _ (by rw [dR];exact Cl h),List.set_set]
theorem eS {l:List α} {x:α} (h:l[m]?=some x)(b:α)(r:List α):(l++r).set m b=l.set m b++r:=by
 rw [List.set_append_left _ _ (Cl h)]
theorem eF (l:List α)(m:Nat)(a b:α)(r:List α):(l.set m a++b::r)[l.length]?=some b:=by
 rw [bI (by rw [dR];omega),dR,kU];rfl
theorem cM (l:List α)(m:Nat)(a b c:α)(r:List α):(l.set m a++b::r).set l.length c=l.set m a++c::r:=by
 rw [jF _ _ (by rw [dR];omega),dR,kU];rfl
theorem dV (l:List α)(b:α)(r:List α):(l++b::r)[l.length]?=some b:=by
 rw [bI (by omega),kU];rfl
theorem cF (l:List α)(b c:α)(r:List α):(l++b::r).set l.length c=l++c::r:=by
 rw [jF _ _ (by omega),kU];rfl
theorem dW (l:List α)(m:Nat)(a b b':α)(r:List α):(l.set m a++b::b'::r)[l.length+1]?=some b':=by
 rw [bI (by rw [dR];omega),dR,kB];rfl
theorem cG (l:List α)(m:Nat)(a b b' c:α)(r:List α):(l.set m a++b::b'::r).set (l.length+1) c=l.set m a++b::c::r:=by
 rw [jF _ _ (by rw [dR];omega),dR,kB];rfl
theorem aI (l r:List α)(k:Nat):(l++r)[l.length+k]?=r[k]?:=by
 rw [bI (by omega),kB]
theorem aF (l r:List α)(k:Nat)(c:α):(l++r).set (l.length+k) c=l++r.set k c:=by
 rw [jF _ _ (by omega),kB]
theorem aB (l r:List α):(l++r)[l.length]?=r[0]?:=aI l r 0
theorem aA (l r:List α)(c:α):(l++r).set l.length c=l++r.set 0 c:=aF l r 0 c
theorem dU (l:List α)(m:Nat)(a b b' b2:α)(r:List α):(l.set m a++b::b'::b2::r)[l.length+2]?=some b2:=by
 rw [bI (by rw [dR];omega),dR,kB];rfl
theorem cE (l:List α)(m:Nat)(a b b' b2 c:α)(r:List α):(l.set m a++b::b'::b2::r).set (l.length+2) c=l.set m a++b::b'::c::r:=by
 rw [jF _ _ (by rw [dR];omega),dR,kB];rfl
section
variable {f:α->List D}{k:Nat}
theorem dG(hf:∀a,(f a).length=k)(l:List α):(l.flatMap f).length=l.length * k:=by
 induction l with
 | nil=>simp
 | cons a l ih=>simp only [hU,aX,ih,hf,bU,cB,Nat.one_mul];omega
theorem oO(l:List α)(i:Nat)(h:i<l.length):l.flatMap f=(l.take i).flatMap f++(f l[i]++(l.drop (i+1)).flatMap f):=by
 have:l=l.take i++(l[i]::l.drop (i+1)):=by rw [<- xM h,gL]
 conv=>lhs;rw [this]
 rw [fN,hU]
theorem lE(hf:∀a,(f a).length=k)(l:List α)(i:Nat)(h:i<l.length):((l.take i).flatMap f).length=i * k:=by
 rw [dG hf,bB,iA (by omega)]
theorem Er(hf:∀a,(f a).length=k)(l:List α)(rest:List D)(i:Nat)(h:i<l.length):((l.flatMap f++rest).drop (i * k)).take k=f l[i]:=by
 rw [oO l i h,bN,<- lE hf l i h,sS,bN,<- hf l[i],tZ]
theorem Gk(hf:∀a,(f a).length=k)(l:List α)(rest:List D)(i j:Nat)(h:i<l.length)(hj:j<k):(l.flatMap f++rest)[i * k+j]?=(f l[i])[j]?:=by
 rw [oO l i h,bN,<- lE hf l i h,bI (by omega),kB,bN,aU (by rw [hf];exact hj)]
theorem Qf(hf:∀a,(f a).length=k)(l:List α)(rest:List D)(i:Nat)(h:i<l.length):sH true k ((l.flatMap f++rest).drop (i * k))=some (.agg (f l[i])):=by
 have hle:k<=((l.flatMap f++rest).drop (i * k)).length:=by
  have:=congrArg List.length (Er hf l rest i h);rw [bB,hf] at this;omega
 simp only [sH,aJ,hle,Er hf l rest i h]
theorem Kj(hf:∀a,(f a).length=k)(l:List α)(rest:List D)(i j:Nat)(h:i<l.length)(hj:j<k):sH false 1 ((l.flatMap f++rest).drop (i * k+j))=(f l[i])[j]?:=by
 rw [<- Gk hf l rest i j h hj];simp only [sH,fL,aZ,nS]
theorem kR(A B C X:List D)(h:X.length=B.length):dE (A++(B++C)) A.length X=A++(X++C):=by
 unfold dE;rw [tZ,h,<- bN A B C,<- aX,sS,bN]
theorem zU(hf:∀a,(f a).length=k)(l:List α)(rest:List D)(i:Nat)(x:α)(h:i<l.length):dE (l.flatMap f++rest) (i * k) (f x)=(l.set i x).flatMap f++rest:=by
 have e1:(l.set i x).flatMap f=(l.take i).flatMap f++(f x++(l.drop (i+1)).flatMap f):=by
  rw [Dy,aR h,fN,hU]
 rw [e1,oO l i h,<- lE hf l i h,bN,bN,kR _ _ _ _ (by rw [hf,hf]),bN,bN]
theorem dB {d:α->D} (hd:∀a,(d a).cells=f a)(l:List α):(l.map d).flatMap D.cells=l.flatMap f:=by
 induction l with
 | nil=>rfl
 | cons a l ih=>simp only [fM,hU,hd a,ih]
end
variable {rr:Option Nat} {dfr:List Deferred}
section
variable {P:Program}
theorem zs (n:Nat) (h:∀K':St->Prop,(∀s,lT P c all r2 s K->K' s)->lT P c all (r.take n) st K')(hd:r.drop n=r2:=by simp only [List.drop] <;> rfl):lT P c all r st K:=Sk n (by rw [hd];exact h)
theorem kY (n:Nat) {k2:List DK} (h:∀K':St->Prop,(∀s,gY P c all r2 k2 s K->K' s)->gY P c all (r.take n) (ks.take n) st K')(hks:n<=ks.length:=by simp)(hd:r.drop n=r2:=by simp only [List.drop] <;> rfl)(hd2:ks.drop n=k2:=by simp only [List.drop] <;> rfl):gY P c all r ks st K:=Oq n hks (by rw [hd,hd2];exact h)
theorem zq {S:α->St} {p:α->Prop} {m:α->Nat} {x:α} (y:α)(hp:p y)(hm:m y<m x)(hl:uH loc.length s.env l)(hS:S y=St.mk' n l loc obj:=by exact rfl)(hn:s.n=n:=by exact rfl)(hloc:loc<+:s.loc:=by simp)(hobj:s.obj=obj:=by simp):wQ S p m x Q .normal s:=
 eL y hp hm (by rw [hS];exact bT hn hl hloc hobj)
theorem zf {f:FuncId} {fn:Func} {cd:Code} {Q:D->List (List D)->Prop} {rs:List ResultVar} (hf:P.funcs[f]?=some fn)(h:AWP P cd (aT P rs Q) (St.mk' n l [] σ))
  (hn : fn.ntmps = n := by exact rfl) (hrs : fn.results = rs.toArray := by exact rfl) (hb : fn.body = some cd := by exact rfl) (hl : oL 0 args = l := by simp only [oL] <;> rfl) (hname : (fn.name != "runtime.NumGoroutine") = true := by exact rfl) (hle : args.length ≤ n := by simp) : Ct P f args σ Q := aB5 hf hb hname hn hrs hle (by rw [hl]; exact h)
theorem zr(c:Cfg) {id:Nat} (h:∀(all:List Oper) (K:St->Prop),(∀s,dL rr dfr P y Q s->K s)->lT P c all ops' st K)(he:ops.map oP=ops':=by simp only [kS,mH] <;> rfl):dL rr dfr P (.seq (.region id ops.toArray false) y) Q st:=
 aE (pC he fun all _ K hK=>h all K fun s hs=>hK s (kI hs))
theorem vJ(c:Cfg) {id:Nat} (h:∀(all:List Oper),(∀j,aY all j=aY ops j)->∀(K:St->Prop),(∀s,dL rr dfr P y Q s->K s)->lT P c all ops' st K)(he:ops.map oP=ops':=by simp only [kS,mH] <;> rfl):dL rr dfr P (.seq (.region id ops.toArray false) y) Q st:=
 aE (pC he fun all ha K hK=>h all ha K fun s hs=>hK s (kI hs))
theorem zt(c:Cfg) {id:Nat} (h:∀(all:List Oper) (K:St->Prop),(∀s,Q .normal s->K s)->lT P c all ops' st K)(he:ops.map oP=ops':=by simp only [kS,mH] <;> rfl):dL rr dfr P (.region id ops.toArray false) Q st:=
 pC he fun all _ K hK=>h all K hK
theorem ztg(c:Cfg) {id:Nat} (h:∀(all:List Oper),(∀j,aY all j=aY ops j)->∀(K:St->Prop),(∀s,Q .normal s->K s)->lT P c all ops' st K)(he:ops.map oP=ops':=by simp only [kS,mH] <;> rfl):dL rr dfr P (.region id ops.toArray false) Q st:=
 pC he fun all ha K hK=>h all ha K hK
theorem cL {id:Nat} (h:∀(all:List Oper) (K:St->Prop),(∀s,dL rr dfr P y Q s->K s)->lT P ⟨[], [], [], [], []⟩ all ops' st K)(he:ops.map oP=ops':=by simp only [kS,mH] <;> rfl):dL rr dfr P (.seq (.region id ops.toArray false) y) Q st:=zr _ h he
theorem Dd {id:Nat} (h:∀(all:List Oper) (K:St->Prop),(∀s,Q .normal s->K s)->lT P ⟨[], [], [], [], []⟩ all ops' st K)(he:ops.map oP=ops':=by simp only [kS,mH] <;> rfl):dL rr dfr P (.region id ops.toArray false) Q st:=zt _ h he
theorem zd(c:Cfg)(ks:List DK) {id:Nat} (h:∀(all:List Oper),(∀j,aY all j=aY ops j)->∀(K:St->Prop),(∀s,dL rr dfr P y Q s->K s)->gY P c all ops' ks st K)
  (he:ops.map oP=ops':=by simp only [kS,mH] <;> rfl) (hm:P.follows .mixedOrders=true:=by kernel_rfl) (hok:Bu c ops ks=true:=by kernel_rfl):dL rr dfr P (.seq (.region id ops.toArray true) y) Q st:=
 aE (Dw ks hm hok he fun all ha K hK=>h all ha K fun s hs=>hK s (kI hs))
theorem ze(c:Cfg)(ks:List DK) {id:Nat} (h:∀(all:List Oper),(∀j,aY all j=aY ops j)->∀(K:St->Prop),(∀s,Q .normal s->K s)->gY P c all ops' ks st K)
  (he:ops.map oP=ops':=by simp only [kS,mH] <;> rfl) (hm:P.follows .mixedOrders=true:=by kernel_rfl) (hok:Bu c ops ks=true:=by kernel_rfl):dL rr dfr P (.region id ops.toArray true) Q st:=
 Dw ks hm hok he fun all ha K hK=>h all ha K hK
theorem zk(K:List Nat) {l2:List (Nat×Slot)} {c:Code} (h:dL rr dfr P c Q (St.mk' n l2 loc obj))(hl:wU K l=l2:=by simp only [Wv,Bl,Gd,Dz,aHi,aHs,Nat.reduceBEq] <;> rfl):dL rr dfr P c Q (St.mk' n l loc obj):=aAu K hl h
theorem zg {op:Op} {ty:TypeId} {j:Nat} {b want:Bool} (hg:aY all j=some t)(h1:∀K':St->Prop,(∀s,lT P c all r s K->K' s)->Le d st/\gK P c d op st K')
  (hs:st.env t= .d (.v (.bool b)):=by simp <;> rfl) (hb:b=want:=by exact rfl):lT P c all (⟨d,op,ty,pos,after,some (j,want)⟩::r) st K:=aH7 hg hs hb h1
theorem zdg {op:Op} {ty:TypeId} {j:Nat} {b want:Bool} {k:DK} (hg:aY all j=some t)(h1:∀K':St->Prop,(∀s,gY P c all r ks s K->K' s)->Le d st/\uD P c d op k st K')
  (hs:st.env t= .d (.v (.bool b)):=by simp <;> rfl) (hb:b=want:=by exact rfl):gY P c all (⟨d,op,ty,pos,after,some (j,want)⟩::r) (k::ks) st K:=aEm hg hs hb h1
theorem zi {a b:Code} {s:Slot} (h:uP s.toD (dL rr dfr P a Q (St.mk' n ((t,.d (.bool true))::l) loc obj)) (dL rr dfr P b Q (St.mk' n ((t,.d (.bool false))::l) loc obj)))(hs:dM l t=s:=by simp <;> rfl):dL rr dfr P (.cond (.tmp t) a b) Q (St.mk' n l loc obj):=Rp hs h
theorem eH {f:FuncId} {y:List (List D)} {x:D} {Q:D->List (List D)->Prop} (h:Ct P f args σ (fun r τ=>r=x/\τ=y))(k:Q x y)(hl:kF args' args:=by first | exact eV rfl | (refine eV ?_;simp;done) | (refine eV ?_;simp;rfl) | (simp [kF,zD];done)):Ct P f args' σ Q:=
 (h.of_le hl rfl).mono fun r τ ⟨h1,h2⟩=>by rw [h1,h2];exact k
theorem Xl {f:FuncId} {Q Q':D->List (List D)->Prop} (h:Ct P f args σ Q)(k:∀r τ,Q r τ->Q' r τ)(hl:kF args' args:=by first | exact eV rfl | (refine eV ?_;simp;done) | (refine eV ?_;simp;rfl) | (simp [kF,zD];done)):Ct P f args' σ Q':=
 (h.of_le hl rfl).mono k
theorem rG {f:FuncId} {r:D} {k:D->Prop} (h:∀σ,Ct P f args σ (fun r' τ=>r'=r/\τ=σ))(hk:k r)(hl:kF args' args:=by first | exact eV rfl | (refine eV ?_;simp;done) | (refine eV ?_;simp;rfl) | (simp [kF,zD];done)):∃r,(∀σ,Ct P f args' σ fun r' σ'=>r'=r/\σ'=σ)/\k r:=
 ⟨r,fun σ=>(h σ).of_le hl rfl,hk⟩
theorem zdr {f:FuncId} {r:D} {k:D->Prop} (h:Ct P f args σ (fun r' τ=>r'=r/\τ=σ))(hk:k r)(hl:kF args' args:=by first | exact eV rfl | (refine eV ?_;simp;done) | (refine eV ?_;simp;rfl) | (simp [kF,zD];done)):∃r,(Ct P f args' σ fun r' σ'=>r'=r/\σ'=σ)/\k r:=
 ⟨r,h.of_le hl rfl,hk⟩
theorem zda {f:FuncId} {σ0:List (List D)} {r:D} {F:List (List D)->List (List D)} {k:D->List (List D)->Prop} (J:List (List D))(h:Ct P f args σ (fun r' τ=>r'=r/\τ=σ0))(hk:k r J)(hl:kF args' args:=by first | exact eV rfl | (refine eV ?_;simp;done) | (refine eV ?_;simp;rfl) | (simp [kF,zD];done))(hJ:σ0=F J:=by simp):∃r J,(Ct P f args' σ fun r' σ'=>r'=r/\σ'=F J)/\k r J:=
 ⟨r,J,hJ ▸ h.of_le hl rfl,hk⟩
theorem zI {a b:Code} {s:Slot} (h1:x=true->dL rr dfr P a Q (St.mk' n ((t,.d (.bool true))::l) loc obj))(h2:x=false->dL rr dfr P b Q (St.mk' n ((t,.d (.bool false))::l) loc obj))
  (hs:dM l t=s:=by simp <;> rfl) (hb:s= .d (.v (.bool x)):=by exact rfl):dL rr dfr P (.cond (.tmp t) a b) Q (St.mk' n l loc obj):=Rp hs (by rw [hb];exact⟨h1,h2⟩)
theorem zb {s:Slot} (t:Nat)(h1:x=true->lT P c all r (St.mk' n ((t,.d (.bool true))::l) loc obj) K)(h2:x=false->lT P c all r (St.mk' n ((t,.d (.bool false))::l) loc obj) K)
  (hs:dM l t=s:=by simp <;> rfl) (hb:s= .d (.v (.bool x)):=by exact rfl):lT P c all r (St.mk' n l loc obj) K:=aB3 t hs (by rw [hb];exact⟨h1,h2⟩)
theorem zbD {s:Slot} (t:Nat)(h1:x=true->gY P c all r ks (St.mk' n ((t,.d (.bool true))::l) loc obj) K)(h2:x=false->gY P c all r ks (St.mk' n ((t,.d (.bool false))::l) loc obj) K)
  (hs:dM l t=s:=by simp <;> rfl) (hb:s= .d (.v (.bool x)):=by exact rfl):gY P c all r ks (St.mk' n l loc obj) K:=Tv t hs (by rw [hb];exact⟨h1,h2⟩)
theorem zA (h:dL rr dfr P y Q s):dL rr dfr P .skip (pY rr dfr P y Q) s:=jM h
theorem zB (h:dL rr dfr P y Q s):oJ i (pY rr dfr P y Q) .normal s:=h
theorem rK (h:dL rr dfr P y Q s):dL rr dfr P .skip (oJ i (pY rr dfr P y Q)) s:=jM h
theorem zSB {x:Code} (h:dL rr dfr P x (oJ i (pY rr dfr P y Q)) s):dL rr dfr P (.seq (.block i x) y) Q s:=aE (aQ h)
theorem mT {x:Code} (h:dL rr dfr P x (oJ i (pY rr dfr P y Q)) s):dL rr dfr P .skip (pY rr dfr P (.seq (.block i x) y) Q) s:=jM (zSB h)
theorem zE {S:α->St} {p:α->Prop} {m:α->Nat} {x:α} {y1:Code} (h:dL rr dfr P y Q s):dL rr dfr P (.exit i) (pY rr dfr P y1 (wQ S p m x (oJ i (pY rr dfr P y Q)))) s:=Bk (Bb (Ch (yT h)))
@[simp] theorem aM7 :pY rr dfr P y Q .ret s=Q .ret s:=rfl
@[simp] theorem aL2 :oJ i Q .ret s=Q .ret s:=rfl
@[simp] theorem aM1 {S:α->St} {p:α->Prop} {m:α->Nat} {x:α} :wQ S p m x Q .ret s=Q .ret s:=rfl
@[simp] theorem aMw {S:α->St} {p:α->Prop} :aB2 S p Q .ret s=Q .ret s:=rfl
end
end Go.Vm
