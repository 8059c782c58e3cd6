import Derived.Test.YtbdjepeabjangaaGreatVmX7
set_option linter.all false
namespace Go.Vm
open Go
variable {K:St->Prop}{Q:Exit->St->Prop}{after:Array Edge}{all ops ops' r r2:List Oper}{args args':List D}{c:Cfg}{d:Option Tmp}{i m n t:Nat}{ks:List DK}{l:List (Nat×Slot)}{loc obj σ:List (List D)}{pos:String}{s st:St}{x:Bool}{y:Code}{α:Type}
theorem bB (l:List α)(k:Nat)(h:k<l.length):l.take (k+1)=l.take k++ [l[k]]:=by
 rw [List.take_add_one,aS h];rfl
theorem uE {p:List α->Prop} (h0:p [])(h1:∀l x,p l->p (l++ [x]))(l:List α):p l:=by
 have:∀(r:List α),p r.reverse:=by
  intro r;induction r with
  | nil=>exact h0
  | cons a r ih=>rw [List.reverse_cons];exact h1 _ _ ih
 have:=this l.reverse
 rwa [List.reverse_reverse] at this
def wG {α:Type} (p:α->Bool)(l:List α):Int:=match l.findIdx? p with | some k=>k | none=> -1
theorem Dm {p:α->Bool} {l:List α} {k:Nat} (h:k<l.length)(hh:∀x∈l.take k,p x=false)(e:p l[k]=true):wG p l=k:=by
 have:l.findIdx? p=some k:=by
  rw [pN];refine⟨h,e,fun j hj=>?_⟩;have:=hh ((l.take k)[j]'(by simp;omega)) (bS _);simpa using this
 simp [wG,this]
theorem vK {p:α->Bool} {l:List α} (h:∀x∈l,p x=false):wG p l= -1:=by
 have:l.findIdx? p=none:=by
  rw [pE];simpa using h
 simp [wG,this]
theorem xK (p:α->Bool)(l:List α):(wG p l= -1/\l.filter (fun x=> !p x)=l)\/∃k:Nat,wG p l=k/\k<l.length/\∀x∈l.take k,p x=false:=by
 unfold wG;split
 .rename_i k h;rw [pN] at h;obtain⟨hk,he,hn⟩:=h;refine .inr ⟨k,rfl,hk,fun x hx=>?_⟩;obtain⟨j,hj,rfl⟩:=oT hx;have:=hn j (by simp at hj;omega);simpa using this
 rename_i h;rw [pE] at h;refine .inl ⟨rfl,?_⟩;rw [oX];intro x hx;simp [h x hx]
theorem tH {p:α->Bool} {l:List α} {k:Nat} (h:k<l.length)(hh:∀x∈l.take k,p x=false)(e:p l[k]=false):∀x∈l.take (k+1),p x=false:=by
 rw [bB l k h];intro x hx;rcases dZ.1 hx with h1 | h1
 .exact hh x h1
 simp at h1;subst h1;exact e
theorem aCp (f:α->D)(l:List α)(rest:List D)(i:Nat)(x:α)(h:i<l.length):List.take i (l.map f++rest)++f x::List.drop (i+1) (l.map f++rest)=(l.set i x).map f++rest:=by
 rw [<- gN f l rest i x h];simp
theorem aDj (f:α->D)(l:List α)(rest:List D)(n:Nat)(h:n=l.length):List.drop n (l.map f++rest)=rest:=by
 subst h;rw [List.drop_append_of_le_length (by simp),vE (by simp)];rfl
theorem nY {f:α->D} (h:∀a,(f a).cells= [f a])(l:List α):(l.map f).flatMap D.cells=l.map f:=by
 induction l with
 | nil=>rfl
 | cons a l ih=>simp only [eW,iU,h a,ih];rfl
def kp {α:Type} (p:α->Bool)(l:List α)(j:Nat):List α:=(l.take j).filter fun x=> !p x
def ar {α:Type} (p:α->Bool)(l:List α)(j:Nat):List α:=kp p l j++l.drop (kp p l j).length
theorem Po (p:α->Bool)(l:List α)(j:Nat)(h:j<=l.length):(kp p l j).length<=j:=by
 unfold kp;have:=gE (fun x=> !p x) (l.take j);rw [bF] at this;omega
theorem aQk (p:α->Bool)(l:List α)(j:Nat):(kp p l j).length<=l.length:=by
 unfold kp;have:=gE (fun x=> !p x) (l.take j);rw [bF] at this;omega
theorem Wc (p:α->Bool)(l:List α)(j:Nat)(h:j<l.length):kp p l (j+1)=kp p l j++if p l[j]=true then [] else [l[j]]:=by
 unfold kp;rw [bB l j h,cT,kE];by_cases e:p l[j]=true <;> simp [e]
theorem Kb (p:α->Bool)(l:List α)(j:Nat):(ar p l j).length=l.length:=by
 unfold ar;have:=aQk p l j;rw [bC,dO];omega
theorem aCu (p:α->Bool)(l:List α)(j:Nat)(h:j<l.length):(ar p l j)[j]'(by rw [Kb];exact h)=l[j]:=by
 have hk:=Po p l j (by omega);unfold ar;rw [List.getElem_append_right (by omega),List.getElem_drop];congr 1;omega
theorem xN (p:α->Bool)(l:List α)(j:Nat)(h:j<l.length)(e:p l[j]=true):ar p l (j+1)=ar p l j/\kp p l (j+1)=kp p l j:=by
 have:=Wc p l j h;rw [aR e,iC] at this;exact⟨by unfold ar;rw [this],this⟩
theorem Cl (p:α->Bool)(l:List α)(j:Nat)(h:j<l.length)(e:p l[j]=false):(ar p l j).set (kp p l j).length l[j]=ar p l (j+1)/\(kp p l (j+1)).length=(kp p l j).length+1:=by
 have hs:=Wc p l j h;have hk:=Po p l j (by omega);rw [aH (by simp [e])] at hs;refine⟨?_,by rw [hs];simp⟩;unfold ar;rw [hs,bC,rZ,kH _ _ (bG _),lR,bU];congr 1;rw [Ah (by omega)];rfl
theorem aH5 (p:α->Bool)(l:List α)(k:Nat)(h:k<l.length)(hh:∀x∈l.take k,p x=false)(e:p l[k]=true):ar p l (k+1)=l/\(kp p l (k+1)).length=k:=by
 have h1:kp p l k=l.take k:=by
  unfold kp;rw [oX];intro x hx;simp [hh x hx]
 have h2:=(xN p l k h e).2;unfold ar;rw [h2,h1,bF,iR (by omega)];exact⟨fP k l,rfl⟩
theorem Et {p:α->Bool} {l:List α} (h:¬wG p l= -1):∃k:Nat,wG p l=k/\ar p l (k+1)=l/\(kp p l (k+1)).length=k/\k<l.length:=by
 unfold wG at *;split at h
 .rename_i k hf;rw [pN] at hf;obtain⟨hk,he,hn⟩:=hf;have hh:∀x∈l.take k,p x=false:=fun x hx=>by
   obtain⟨j,hj,rfl⟩:=oT hx;have:=hn j (by simp at hj;omega);simpa using this
  obtain⟨a,b⟩:=aH5 p l k hk hh he;exact⟨k,rfl,a,b,hk⟩
 exact absurd rfl h
theorem Fz {l:List α} {x:α} (h:l[m]?=some x):m<l.length:=(aJ.1 h).1
theorem eP {l:List α} {x:α} (h:l[m]?=some x)(a:α):(l.set m a)[m]?=some a:=by
 rw [cF,aR rfl,aR (Fz h)]
theorem gG {l:List α} {x:α} (h:l[m]?=some x)(a:α)(r:List α):(l.set m a++r)[m]?=some a:=by
 rw [aX (by rw [dS];exact Fz h),eP h]
theorem cW {l:List α} {x:α} (h:l[m]?=some x)(r:List α):(l++r)[m]?=some x:=by
 rw [aX (Fz h)];exact h
theorem gF {l:List α} {x:α} (h:l[m]?=some x)(a b:α)(r:List α):(l.set m a++r).set m b=l.set m b++r:=by
 rw [List.set_append_left _ _ (by rw [dS];exact Fz h),List.set_set]
theorem fD {l:List α} {x:α} (h:l[m]?=some x)(b:α)(r:List α):(l++r).set m b=l.set m b++r:=by
 rw [List.set_append_left _ _ (Fz h)]
theorem eN (l:List α)(m:Nat)(a b:α)(r:List α):(l.set m a++b::r)[l.length]?=some b:=by
 rw [bR (by rw [dS];omega),dS,lR];rfl
theorem cS (l:List α)(m:Nat)(a b c:α)(r:List α):(l.set m a++b::r).set l.length c=l.set m a++c::r:=by
 rw [kH _ _ (by rw [dS];omega),dS,lR];rfl
theorem eF (l:List α)(b:α)(r:List α):(l++b::r)[l.length]?=some b:=by
 rw [bR (by omega),lR];rfl
theorem cL (l:List α)(b c:α)(r:List α):(l++b::r).set l.length c=l++c::r:=by
 rw [kH _ _ (by omega),lR];rfl
theorem eG (l:List α)(m:Nat)(a b b':α)(r:List α):(l.set m a++b::b'::r)[l.length+1]?=some b':=by
 rw [bR (by rw [dS];omega),dS,lD];rfl
theorem cN (l:List α)(m:Nat)(a b b' c:α)(r:List α):(l.set m a++b::b'::r).set (l.length+1) c=l.set m a++b::c::r:=by
 rw [kH _ _ (by rw [dS];omega),dS,lD];rfl
theorem aL (l r:List α)(k:Nat):(l++r)[l.length+k]?=r[k]?:=by
 rw [bR (by omega),lD]
theorem aI (l r:List α)(k:Nat)(c:α):(l++r).set (l.length+k) c=l++r.set k c:=by
 rw [kH _ _ (by omega),lD]
theorem aD (l r:List α):(l++r)[l.length]?=r[0]?:=aL l r 0
theorem aA (l r:List α)(c:α):(l++r).set l.length c=l++r.set 0 c:=aI l r 0 c
theorem eH (l:List α)(m:Nat)(a b b' b2:α)(r:List α):(l.set m a++b::b'::b2::r)[l.length+2]?=some b2:=by
 rw [bR (by rw [dS];omega),dS,lD];rfl
theorem cM (l:List α)(m:Nat)(a b b' b2 c:α)(r:List α):(l.set m a++b::b'::b2::r).set (l.length+2) c=l.set m a++b::b'::c::r:=by
 rw [kH _ _ (by rw [dS];omega),dS,lD];rfl
section
variable {f:α->List D}{k:Nat}
theorem dM(hf:∀a,(f a).length=k)(l:List α):(l.flatMap f).length=l.length * k:=by
 induction l with
 | nil=>simp
 | cons a l ih=>simp only [iU,bC,ih,hf,cI,cK,Nat.one_mul];omega
theorem pU(l:List α)(i:Nat)(h:i<l.length):l.flatMap f=(l.take i).flatMap f++(f l[i]++(l.drop (i+1)).flatMap f):=by
 have:l=l.take i++(l[i]::l.drop (i+1)):=by rw [<- Ah h,fP]
 conv=>lhs;rw [this]
 rw [gB,iU]
theorem mG(hf:∀a,(f a).length=k)(l:List α)(i:Nat)(h:i<l.length):((l.take i).flatMap f).length=i * k:=by
 rw [dM hf,bF,iR (by omega)]
theorem Hj(hf:∀a,(f a).length=k)(l:List α)(rest:List D)(i:Nat)(h:i<l.length):((l.flatMap f++rest).drop (i * k)).take k=f l[i]:=by
 rw [pU l i h,bU,<- mG hf l i h,vF,bU,<- hf l[i],vN]
theorem Jh(hf:∀a,(f a).length=k)(l:List α)(rest:List D)(i j:Nat)(h:i<l.length)(hj:j<k):(l.flatMap f++rest)[i * k+j]?=(f l[i])[j]?:=by
 rw [pU l i h,bU,<- mG hf l i h,bR (by omega),lD,bU,aX (by rw [hf];exact hj)]
theorem Wg(hf:∀a,(f a).length=k)(l:List α)(rest:List D)(i:Nat)(h:i<l.length):uH true k ((l.flatMap f++rest).drop (i * k))=some (.agg (f l[i])):=by
 have hle:k<=((l.flatMap f++rest).drop (i * k)).length:=by
  have:=congrArg List.length (Hj hf l rest i h);rw [bF,hf] at this;omega
 simp only [uH,aO,hle,Hj hf l rest i h]
theorem Ns(hf:∀a,(f a).length=k)(l:List α)(rest:List D)(i j:Nat)(h:i<l.length)(hj:j<k):uH false 1 ((l.flatMap f++rest).drop (i * k+j))=(f l[i])[j]?:=by
 rw [<- Jh hf l rest i j h hj];simp only [uH,gD,bE,nB]
theorem lQ(A B C X:List D)(h:X.length=B.length):dK (A++(B++C)) A.length X=A++(X++C):=by
 unfold dK;rw [vN,h,<- bU A B C,<- bC,vF,bU]
theorem Ck(hf:∀a,(f a).length=k)(l:List α)(rest:List D)(i:Nat)(x:α)(h:i<l.length):dK (l.flatMap f++rest) (i * k) (f x)=(l.set i x).flatMap f++rest:=by
 have e1:(l.set i x).flatMap f=(l.take i).flatMap f++(f x++(l.drop (i+1)).flatMap f):=by
  rw [Ig,aR h,gB,iU]
 rw [e1,pU l i h,<- mG hf l i h,bU,bU,lQ _ _ _ _ (by rw [hf,hf]),bU,bU]
theorem dI {d:α->D} (hd:∀a,(d a).cells=f a)(l:List α):(l.map d).flatMap D.cells=l.flatMap f:=by
 induction l with
 | nil=>rfl
 | cons a l ih=>simp only [eW,iU,hd a,ih]
end
variable {rr:Option Nat} {dfr:List Deferred}
section
variable {P:Program}
theorem zs (n:Nat) (h:∀K':St->Prop,(∀s,nE P c all r2 s K->K' s)->nE P c all (r.take n) st K')(hd:r.drop n=r2:=by simp only [List.drop] <;> rfl):nE P c all r st K:=aBn n (by rw [hd];exact h)
theorem iK (n:Nat) {k2:List DK} (h:∀K':St->Prop,(∀s,iJ P c all r2 k2 s K->K' s)->iJ P c all (r.take n) (ks.take n) st K')(hks:n<=ks.length:=by simp)(hd:r.drop n=r2:=by simp only [List.drop] <;> rfl)(hd2:ks.drop n=k2:=by simp only [List.drop] <;> rfl):iJ P c all r ks st K:=Sj n hks (by rw [hd,hd2];exact h)
theorem zq {S:α->St} {p:α->Prop} {m:α->Nat} {x:α} (y:α)(hp:p y)(hm:m y<m x)(hl:wQ loc.length s.env l)(hS:S y=St.mk' n l loc obj:=by exact rfl)(hn:s.n=n:=by exact rfl)(hloc:loc<+:s.loc:=by simp)(hobj:s.obj=obj:=by simp):yU S p m x Q .normal s:=
 cQ y hp hm (by rw [hS];exact aU hn hl hloc hobj)
theorem zf {f:FuncId} {fn:Func} {cd:Code} {Q:D->List (List D)->Prop} {rs:List ResultVar} (hf:P.funcs[f]?=some fn)(h:AWP P cd (aP P rs Q) (St.mk' n l [] σ))
  (hn : fn.ntmps = n := by exact rfl) (hrs : fn.results = rs.toArray := by exact rfl) (hb : fn.body = some cd := by exact rfl) (hl : qE 0 args = l := by simp only [qE] <;> rfl) (hname : (fn.name != "runtime.NumGoroutine") = true := by exact rfl) (hle : args.length ≤ n := by simp) : Ct P f args σ Q := aE5 hf hb hname hn hrs hle (by rw [hl]; exact h)
theorem zr(c:Cfg) {id:Nat} (h:∀(all:List Oper) (K:St->Prop),(∀s,dQ rr dfr P y Q s->K s)->nE P c all ops' st K)(he:ops.map qJ=ops':=by simp only [mA,nW] <;> rfl):dQ rr dfr P (.seq (.region id ops.toArray false) y) Q st:=
 aF (qR he fun all _ K hK=>h all K fun s hs=>hK s (iE hs))
theorem oL(c:Cfg) {id:Nat} (h:∀(all:List Oper),(∀j,aQ all j=aQ ops j)->∀(K:St->Prop),(∀s,dQ rr dfr P y Q s->K s)->nE P c all ops' st K)(he:ops.map qJ=ops':=by simp only [mA,nW] <;> rfl):dQ rr dfr P (.seq (.region id ops.toArray false) y) Q st:=
 aF (qR he fun all ha K hK=>h all ha K fun s hs=>hK s (iE hs))
theorem zt(c:Cfg) {id:Nat} (h:∀(all:List Oper) (K:St->Prop),(∀s,Q .normal s->K s)->nE P c all ops' st K)(he:ops.map qJ=ops':=by simp only [mA,nW] <;> rfl):dQ rr dfr P (.region id ops.toArray false) Q st:=
 qR he fun all _ K hK=>h all K hK
theorem ztg(c:Cfg) {id:Nat} (h:∀(all:List Oper),(∀j,aQ all j=aQ ops j)->∀(K:St->Prop),(∀s,Q .normal s->K s)->nE P c all ops' st K)(he:ops.map qJ=ops':=by simp only [mA,nW] <;> rfl):dQ rr dfr P (.region id ops.toArray false) Q st:=
 qR he fun all ha K hK=>h all ha K hK
theorem bT {id:Nat} (h:∀(all:List Oper) (K:St->Prop),(∀s,dQ rr dfr P y Q s->K s)->nE P ⟨[], [], [], [], []⟩ all ops' st K)(he:ops.map qJ=ops':=by simp only [mA,nW] <;> rfl):dQ rr dfr P (.seq (.region id ops.toArray false) y) Q st:=zr _ h he
theorem tD {id:Nat} (h:∀(all:List Oper) (K:St->Prop),(∀s,Q .normal s->K s)->nE P ⟨[], [], [], [], []⟩ all ops' st K)(he:ops.map qJ=ops':=by simp only [mA,nW] <;> rfl):dQ rr dfr P (.region id ops.toArray false) Q st:=zt _ h he
theorem zd(c:Cfg)(ks:List DK) {id:Nat} (h:∀(all:List Oper),(∀j,aQ all j=aQ ops j)->∀(K:St->Prop),(∀s,dQ rr dfr P y Q s->K s)->iJ P c all ops' ks st K)
  (he:ops.map qJ=ops':=by simp only [mA,nW] <;> rfl) (hm:P.follows .mixedOrders=true:=by kernel_rfl) (hok:Ev c ops ks=true:=by kernel_rfl):dQ rr dfr P (.seq (.region id ops.toArray true) y) Q st:=
 aF (Iq ks hm hok he fun all ha K hK=>h all ha K fun s hs=>hK s (iE hs))
theorem ze(c:Cfg)(ks:List DK) {id:Nat} (h:∀(all:List Oper),(∀j,aQ all j=aQ ops j)->∀(K:St->Prop),(∀s,Q .normal s->K s)->iJ P c all ops' ks st K)
  (he:ops.map qJ=ops':=by simp only [mA,nW] <;> rfl) (hm:P.follows .mixedOrders=true:=by kernel_rfl) (hok:Ev c ops ks=true:=by kernel_rfl):dQ rr dfr P (.region id ops.toArray true) Q st:=
 Iq ks hm hok he fun all ha K hK=>h all ha K hK
theorem zk(K:List Nat) {l2:List (Nat×Slot)} {c:Code} (h:dQ rr dfr P c Q (St.mk' n l2 loc obj))(hl:xZ K l=l2:=by simp only [Zh,Es,It,Hz,aLt,aLx,Nat.reduceBEq] <;> rfl):dQ rr dfr P c Q (St.mk' n l loc obj):=aDh K hl h
theorem zg {op:Op} {ty:TypeId} {j:Nat} {b want:Bool} (hg:aQ all j=some t)(h1:∀K':St->Prop,(∀s,nE P c all r s K->K' s)->Ot d st/\gV P c d op st K')
  (hs:st.env t= .d (.v (.bool b)):=by simp <;> rfl) (hb:b=want:=by exact rfl):nE P c all (⟨d,op,ty,pos,after,some (j,want)⟩::r) st K:=aO1 hg hs hb h1
theorem zdg {op:Op} {ty:TypeId} {j:Nat} {b want:Bool} {k:DK} (hg:aQ all j=some t)(h1:∀K':St->Prop,(∀s,iJ P c all r ks s K->K' s)->Ot d st/\wI P c d op k st K')
  (hs:st.env t= .d (.v (.bool b)):=by simp <;> rfl) (hb:b=want:=by exact rfl):iJ P c all (⟨d,op,ty,pos,after,some (j,want)⟩::r) (k::ks) st K:=aKy hg hs hb h1
theorem zi {a b:Code} {s:Slot} (h:xL s.toD (dQ rr dfr P a Q (St.mk' n ((t,.d (.bool true))::l) loc obj)) (dQ rr dfr P b Q (St.mk' n ((t,.d (.bool false))::l) loc obj)))(hs:dR l t=s:=by simp <;> rfl):dQ rr dfr P (.cond (.tmp t) a b) Q (St.mk' n l loc obj):=Vi hs h
theorem dX {f:FuncId} {y:List (List D)} {x:D} {Q:D->List (List D)->Prop} (h:Ct P f args σ (fun r τ=>r=x/\τ=y))(k:Q x y)(hl:lJ args' args:=by first | exact fE rfl | (refine fE ?_;simp;done) | (refine fE ?_;simp;rfl) | (simp [lJ,Co];done)):Ct P f args' σ Q:=
 (h.of_le hl rfl).mono fun r τ ⟨h1,h2⟩=>by rw [h1,h2];exact k
theorem zcm {f:FuncId} {Q Q':D->List (List D)->Prop} (h:Ct P f args σ Q)(k:∀r τ,Q r τ->Q' r τ)(hl:lJ args' args:=by first | exact fE rfl | (refine fE ?_;simp;done) | (refine fE ?_;simp;rfl) | (simp [lJ,Co];done)):Ct P f args' σ Q':=
 (h.of_le hl rfl).mono k
theorem pH {f:FuncId} {r:D} {k:D->Prop} (h:∀σ,Ct P f args σ (fun r' τ=>r'=r/\τ=σ))(hk:k r)(hl:lJ args' args:=by first | exact fE rfl | (refine fE ?_;simp;done) | (refine fE ?_;simp;rfl) | (simp [lJ,Co];done)):∃r,(∀σ,Ct P f args' σ fun r' σ'=>r'=r/\σ'=σ)/\k r:=
 ⟨r,fun σ=>(h σ).of_le hl rfl,hk⟩
theorem zdr {f:FuncId} {r:D} {k:D->Prop} (h:Ct P f args σ (fun r' τ=>r'=r/\τ=σ))(hk:k r)(hl:lJ args' args:=by first | exact fE rfl | (refine fE ?_;simp;done) | (refine fE ?_;simp;rfl) | (simp [lJ,Co];done)):∃r,(Ct P f args' σ fun r' σ'=>r'=r/\σ'=σ)/\k r:=
 ⟨r,h.of_le hl rfl,hk⟩
theorem zda {f:FuncId} {σ0:List (List D)} {r:D} {F:List (List D)->List (List D)} {k:D->List (List D)->Prop} (J:List (List D))(h:Ct P f args σ (fun r' τ=>r'=r/\τ=σ0))(hk:k r J)(hl:lJ args' args:=by first | exact fE rfl | (refine fE ?_;simp;done) | (refine fE ?_;simp;rfl) | (simp [lJ,Co];done))(hJ:σ0=F J:=by simp):∃r J,(Ct P f args' σ fun r' σ'=>r'=r/\σ'=F J)/\k r J:=
 ⟨r,J,hJ ▸ h.of_le hl rfl,hk⟩
theorem zI {a b:Code} {s:Slot} (h1:x=true->dQ rr dfr P a Q (St.mk' n ((t,.d (.bool true))::l) loc obj))(h2:x=false->dQ rr dfr P b Q (St.mk' n ((t,.d (.bool false))::l) loc obj))
  (hs:dR l t=s:=by simp <;> rfl) (hb:s= .d (.v (.bool x)):=by exact rfl):dQ rr dfr P (.cond (.tmp t) a b) Q (St.mk' n l loc obj):=Vi hs (by rw [hb];exact⟨h1,h2⟩)
theorem zb {s:Slot} (t:Nat)(h1:x=true->nE P c all r (St.mk' n ((t,.d (.bool true))::l) loc obj) K)(h2:x=false->nE P c all r (St.mk' n ((t,.d (.bool false))::l) loc obj) K)
  (hs:dR l t=s:=by simp <;> rfl) (hb:s= .d (.v (.bool x)):=by exact rfl):nE P c all r (St.mk' n l loc obj) K:=aF7 t hs (by rw [hb];exact⟨h1,h2⟩)
theorem zbD {s:Slot} (t:Nat)(h1:x=true->iJ P c all r ks (St.mk' n ((t,.d (.bool true))::l) loc obj) K)(h2:x=false->iJ P c all r ks (St.mk' n ((t,.d (.bool false))::l) loc obj) K)
  (hs:dR l t=s:=by simp <;> rfl) (hb:s= .d (.v (.bool x)):=by exact rfl):iJ P c all r ks (St.mk' n l loc obj) K:=Xd t hs (by rw [hb];exact⟨h1,h2⟩)
theorem zA (h:dQ rr dfr P y Q s):dQ rr dfr P .skip (sC rr dfr P y Q) s:=fM h
theorem zB (h:dQ rr dfr P y Q s):qP i (sC rr dfr P y Q) .normal s:=h
theorem lP (h:dQ rr dfr P y Q s):dQ rr dfr P .skip (qP i (sC rr dfr P y Q)) s:=fM h
theorem zSB {x:Code} (h:dQ rr dfr P x (qP i (sC rr dfr P y Q)) s):dQ rr dfr P (.seq (.block i x) y) Q s:=aF (aN h)
theorem kL {x:Code} (h:dQ rr dfr P x (qP i (sC rr dfr P y Q)) s):dQ rr dfr P .skip (sC rr dfr P (.seq (.block i x) y) Q) s:=fM (zSB h)
theorem zE {S:α->St} {p:α->Prop} {m:α->Nat} {x:α} {y1:Code} (h:dQ rr dfr P y Q s):dQ rr dfr P (.exit i) (sC rr dfr P y1 (yU S p m x (qP i (sC rr dfr P y Q)))) s:=tT (uK (Ef (rF h)))
@[simp] theorem aR4 :sC rr dfr P y Q .ret s=Q .ret s:=rfl
@[simp] theorem aQ9 :qP i Q .ret s=Q .ret s:=rfl
@[simp] theorem aSa {S:α->St} {p:α->Prop} {m:α->Nat} {x:α} :yU S p m x Q .ret s=Q .ret s:=rfl
@[simp] theorem aR1 {S:α->St} {p:α->Prop} :aG0 S p Q .ret s=Q .ret s:=rfl
end
end Go.Vm
