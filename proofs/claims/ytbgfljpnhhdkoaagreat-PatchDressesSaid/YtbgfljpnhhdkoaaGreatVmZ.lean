import Derived.Test.YtbgfljpnhhdkoaaGreatVmX7
set_option linter.all false
namespace Go.Vm
open Go
variable {K:St->Prop}{Q:Exit->St->Prop}{after:Array Edge}{all ops ops' r r2:List Oper}{args args':List D}{c:Cfg}{d:Option Tmp}{i m n t:Nat}{ks:List DK}{l:List (Nat×Slot)}{loc obj σ:List (List D)}{pos:String}{s st:St}{x:Bool}{y:Code}{α:Type}
theorem bK (l:List α)(k:Nat)(h:k<l.length):l.take (k+1)=l.take k++ [l[k]]:=by
 rw [List.take_add_one,aQ h];rfl
theorem oG {p:List α->Prop} (h0:p [])(h1:∀l x,p l->p (l++ [x]))(l:List α):p l:=by
 have:∀(r:List α),p r.reverse:=by
  intro r;induction r with
  | nil=>exact h0
  | cons a r ih=>rw [Hl];exact h1 _ _ ih
 have:=this l.reverse
 rwa [List.reverse_reverse] at this
def wQ {α:Type} (p:α->Bool)(l:List α):Int:=match l.findIdx? p with | some k=>k | none=> -1
theorem tZ {p:α->Bool} {l:List α} {k:Nat} (h:k<l.length)(hh:∀x∈l.take k,p x=false)(e:p l[k]=true):wQ p l=k:=by
 have:l.findIdx? p=some k:=by
  rw [qL];refine⟨h,e,fun j hj=>?_⟩;have:=hh ((l.take k)[j]'(by simp;omega)) (cN _);simpa using this
 simp [wQ,this]
theorem qQ {p:α->Bool} {l:List α} (h:∀x∈l,p x=false):wQ p l= -1:=by
 have:l.findIdx? p=none:=by
  rw [qX];simpa using h
 simp [wQ,this]
theorem wT (p:α->Bool)(l:List α):(wQ p l= -1/\l.filter (fun x=> !p x)=l)\/∃k:Nat,wQ p l=k/\k<l.length/\∀x∈l.take k,p x=false:=by
 unfold wQ;split
 .rename_i k h;rw [qL] at h;obtain⟨hk,he,hn⟩:=h;refine .inr ⟨k,rfl,hk,fun x hx=>?_⟩;obtain⟨j,hj,rfl⟩:=kN hx;have:=hn j (by simp at hj;omega);simpa using this
 rename_i h;rw [qX] at h;refine .inl ⟨rfl,?_⟩;rw [lT];intro x hx;simp [h x hx]
theorem oF {p:α->Bool} {l:List α} {k:Nat} (h:k<l.length)(hh:∀x∈l.take k,p x=false)(e:p l[k]=false):∀x∈l.take (k+1),p x=false:=by
 rw [bK l k h];intro x hx;rcases cK.1 hx with h1 | h1
 .exact hh x h1
 simp at h1;subst h1;exact e
theorem Wq (f:α->D)(l:List α)(rest:List D)(i:Nat)(x:α)(h:i<l.length):List.take i (l.map f++rest)++f x::List.drop (i+1) (l.map f++rest)=(l.set i x).map f++rest:=by
 rw [<- dI f l rest i x h];simp
theorem Vn (f:α->D)(l:List α)(rest:List D)(n:Nat)(h:n=l.length):List.drop n (l.map f++rest)=rest:=by
 subst h;rw [List.drop_append_of_le_length (by simp),Af (by simp)];rfl
theorem gH {f:α->D} (h:∀a,(f a).cells= [f a])(l:List α):(l.map f).flatMap D.cells=l.map f:=by
 induction l with
 | nil=>rfl
 | cons a l ih=>simp only [eZ,gM,h a,ih];rfl
def kp {α:Type} (p:α->Bool)(l:List α)(j:Nat):List α:=(l.take j).filter fun x=> !p x
def ar {α:Type} (p:α->Bool)(l:List α)(j:Nat):List α:=kp p l j++l.drop (kp p l j).length
theorem Oo (p:α->Bool)(l:List α)(j:Nat)(h:j<=l.length):(kp p l j).length<=j:=by
 unfold kp;have:=gE (fun x=> !p x) (l.take j);rw [bF] at this;omega
theorem aWa (p:α->Bool)(l:List α)(j:Nat):(kp p l j).length<=l.length:=by
 unfold kp;have:=gE (fun x=> !p x) (l.take j);rw [bF] at this;omega
theorem aCx (p:α->Bool)(l:List α)(j:Nat)(h:j<l.length):kp p l (j+1)=kp p l j++if p l[j]=true then [] else [l[j]]:=by
 unfold kp;rw [bK l j h,eP,gJ];by_cases e:p l[j]=true <;> simp [e]
theorem Mo (p:α->Bool)(l:List α)(j:Nat):(ar p l j).length=l.length:=by
 unfold ar;have:=aWa p l j;rw [bB,dW];omega
theorem aBt (p:α->Bool)(l:List α)(j:Nat)(h:j<l.length):(ar p l j)[j]'(by rw [Mo];exact h)=l[j]:=by
 have hk:=Oo p l j (by omega);unfold ar;rw [Hi (by omega),List.getElem_drop];congr 1;omega
theorem vX (p:α->Bool)(l:List α)(j:Nat)(h:j<l.length)(e:p l[j]=true):ar p l (j+1)=ar p l j/\kp p l (j+1)=kp p l j:=by
 have:=aCx p l j h;rw [aI e,fZ] at this;exact⟨by unfold ar;rw [this],this⟩
theorem Aw (p:α->Bool)(l:List α)(j:Nat)(h:j<l.length)(e:p l[j]=false):(ar p l j).set (kp p l j).length l[j]=ar p l (j+1)/\(kp p l (j+1)).length=(kp p l j).length+1:=by
 have hs:=aCx p l j h;have hk:=Oo p l j (by omega);rw [aC (by simp [e])] at hs;refine⟨?_,by rw [hs];simp⟩;unfold ar;rw [hs,bB,vR,lR _ _ (aV _),mS,bM];congr 1;rw [zM (by omega)];rfl
theorem aKu (p:α->Bool)(l:List α)(k:Nat)(h:k<l.length)(hh:∀x∈l.take k,p x=false)(e:p l[k]=true):ar p l (k+1)=l/\(kp p l (k+1)).length=k:=by
 have h1:kp p l k=l.take k:=by
  unfold kp;rw [lT];intro x hx;simp [hh x hx]
 have h2:=(vX p l k h e).2;unfold ar;rw [h2,h1,bF,jN (by omega)];exact⟨fP k l,rfl⟩
theorem Cr {p:α->Bool} {l:List α} (h:¬wQ p l= -1):∃k:Nat,wQ p l=k/\ar p l (k+1)=l/\(kp p l (k+1)).length=k/\k<l.length:=by
 unfold wQ at *;split at h
 .rename_i k hf;rw [qL] at hf;obtain⟨hk,he,hn⟩:=hf;have hh:∀x∈l.take k,p x=false:=fun x hx=>by
   obtain⟨j,hj,rfl⟩:=kN hx;have:=hn j (by simp at hj;omega);simpa using this
  obtain⟨a,b⟩:=aKu p l k hk hh he;exact⟨k,rfl,a,b,hk⟩
 exact absurd rfl h
theorem lC {l:List α} {x:α} (h:l[m]?=some x):m<l.length:=(aM.1 h).1
theorem aO {l:List α} {x:α} (h:l[m]?=some x)(a:α):(l.set m a)[m]?=some a:=by
 rw [bP,aI rfl,aI (lC h)]
theorem dE {l:List α} {x:α} (h:l[m]?=some x)(a:α)(r:List α):(l.set m a++r)[m]?=some a:=by
 rw [aW (by rw [cV];exact lC h),aO h]
theorem fB {l:List α} {x:α} (h:l[m]?=some x)(r:List α):(l++r)[m]?=some x:=by
 rw [aW (lC h)];exact h
theorem eG {l:List α} {x:α} (h:l[m]?=some x)(a b:α)(r:List α):(l.set m a++r).set m b=l.set m b++r:=by
 rw [Ak _ _ (by rw [cV];exact lC h),aH]
theorem gY {l:List α} {x:α} (h:l[m]?=some x)(b:α)(r:List α):(l++r).set m b=l.set m b++r:=by
 rw [Ak _ _ (lC h)]
theorem cX (l:List α)(m:Nat)(a b:α)(r:List α):(l.set m a++b::r)[l.length]?=some b:=by
 rw [bQ (by rw [cV];omega),cV,mS];rfl
theorem cO (l:List α)(m:Nat)(a b c:α)(r:List α):(l.set m a++b::r).set l.length c=l.set m a++c::r:=by
 rw [lR _ _ (by rw [cV];omega),cV,mS];rfl
theorem cQ (l:List α)(b:α)(r:List α):(l++b::r)[l.length]?=some b:=by
 rw [bQ (by omega),mS];rfl
theorem dB (l:List α)(b c:α)(r:List α):(l++b::r).set l.length c=l++c::r:=by
 rw [lR _ _ (by omega),mS];rfl
theorem dA (l:List α)(m:Nat)(a b b':α)(r:List α):(l.set m a++b::b'::r)[l.length+1]?=some b':=by
 rw [bQ (by rw [cV];omega),cV,nW];rfl
theorem dR (l:List α)(m:Nat)(a b b' c:α)(r:List α):(l.set m a++b::b'::r).set (l.length+1) c=l.set m a++b::c::r:=by
 rw [lR _ _ (by rw [cV];omega),cV,nW];rfl
theorem aY (l r:List α)(k:Nat):(l++r)[l.length+k]?=r[k]?:=by
 rw [bQ (by omega),nW]
theorem aR (l r:List α)(k:Nat)(c:α):(l++r).set (l.length+k) c=l++r.set k c:=by
 rw [lR _ _ (by omega),nW]
theorem aL (l r:List α):(l++r)[l.length]?=r[0]?:=aY l r 0
theorem aJ (l r:List α)(c:α):(l++r).set l.length c=l++r.set 0 c:=aR l r 0 c
theorem fO (l:List α)(m:Nat)(a b b' b2:α)(r:List α):(l.set m a++b::b'::b2::r)[l.length+2]?=some b2:=by
 rw [bQ (by rw [cV];omega),cV,nW];rfl
theorem dQ (l:List α)(m:Nat)(a b b' b2 c:α)(r:List α):(l.set m a++b::b'::b2::r).set (l.length+2) c=l.set m a++b::b'::c::r:=by
 rw [lR _ _ (by rw [cV];omega),cV,nW];rfl
section
variable {f:α->List D}{k:Nat}
theorem dJ(hf:∀a,(f a).length=k)(l:List α):(l.flatMap f).length=l.length * k:=by
 induction l with
 | nil=>simp
 | cons a l ih=>simp only [gM,bB,ih,hf,bT,dP,Nat.one_mul];omega
theorem wM(l:List α)(i:Nat)(h:i<l.length):l.flatMap f=(l.take i).flatMap f++(f l[i]++(l.drop (i+1)).flatMap f):=by
 have:l=l.take i++(l[i]::l.drop (i+1)):=by rw [<- zM h,fP]
 conv=>lhs;rw [this]
 rw [iB,gM]
theorem rJ(hf:∀a,(f a).length=k)(l:List α)(i:Nat)(h:i<l.length):((l.take i).flatMap f).length=i * k:=by
 rw [dJ hf,bF,jN (by omega)]
theorem Pj(hf:∀a,(f a).length=k)(l:List α)(rest:List D)(i:Nat)(h:i<l.length):((l.flatMap f++rest).drop (i * k)).take k=f l[i]:=by
 rw [wM l i h,bM,<- rJ hf l i h,zG,bM,<- hf l[i],zT]
theorem Fi(hf:∀a,(f a).length=k)(l:List α)(rest:List D)(i j:Nat)(h:i<l.length)(hj:j<k):(l.flatMap f++rest)[i * k+j]?=(f l[i])[j]?:=by
 rw [wM l i h,bM,<- rJ hf l i h,bQ (by omega),nW,bM,aW (by rw [hf];exact hj)]
theorem aBu(hf:∀a,(f a).length=k)(l:List α)(rest:List D)(i:Nat)(h:i<l.length):An true k ((l.flatMap f++rest).drop (i * k))=some (.agg (f l[i])):=by
 have hle:k<=((l.flatMap f++rest).drop (i * k)).length:=by
  have:=congrArg List.length (Pj hf l rest i h);rw [bF,hf] at this;omega
 simp only [An,aU,hle,Pj hf l rest i h]
theorem Ug(hf:∀a,(f a).length=k)(l:List α)(rest:List D)(i j:Nat)(h:i<l.length)(hj:j<k):An false 1 ((l.flatMap f++rest).drop (i * k+j))=(f l[i])[j]?:=by
 rw [<- Fi hf l rest i j h hj];simp only [An,iH,bJ,qW]
theorem oK(A B C X:List D)(h:X.length=B.length):eV (A++(B++C)) A.length X=A++(X++C):=by
 unfold eV;rw [zT,h,<- bM A B C,<- bB,zG,bM]
theorem Hw(hf:∀a,(f a).length=k)(l:List α)(rest:List D)(i:Nat)(x:α)(h:i<l.length):eV (l.flatMap f++rest) (i * k) (f x)=(l.set i x).flatMap f++rest:=by
 have e1:(l.set i x).flatMap f=(l.take i).flatMap f++(f x++(l.drop (i+1)).flatMap f):=by
  rw [List.set_eq_take_append_cons_drop,aI h,iB,gM]
 rw [e1,wM l i h,<- rJ hf l i h,bM,bM,oK _ _ _ _ (by rw [hf,hf]),bM,bM]
theorem cW {d:α->D} (hd:∀a,(d a).cells=f a)(l:List α):(l.map d).flatMap D.cells=l.flatMap f:=by
 induction l with
 | nil=>rfl
 | cons a l ih=>simp only [eZ,gM,hd a,ih]
end
variable {rr:Option Nat} {dfr:List Deferred}
section
variable {P:Program}
theorem zs (n:Nat) (h:∀K':St->Prop,(∀s,qI P c all r2 s K->K' s)->qI P c all (r.take n) st K')(hd:r.drop n=r2:=by simp only [List.drop] <;> rfl):qI P c all r st K:=aFj n (by rw [hd];exact h)
theorem iU (n:Nat) {k2:List DK} (h:∀K':St->Prop,(∀s,jS P c all r2 k2 s K->K' s)->jS P c all (r.take n) (ks.take n) st K')(hks:n<=ks.length:=by simp)(hd:r.drop n=r2:=by simp only [List.drop] <;> rfl)(hd2:ks.drop n=k2:=by simp only [List.drop] <;> rfl):jS P c all r ks st K:=Zc n hks (by rw [hd,hd2];exact h)
theorem zq {S:α->St} {p:α->Prop} {m:α->Nat} {x:α} (y:α)(hp:p y)(hm:m y<m x)(hl:xT loc.length s.env l)(hS:S y=St.mk' n l loc obj:=by exact rfl)(hn:s.n=n:=by exact rfl)(hloc:loc<+:s.loc:=by simp)(hobj:s.obj=obj:=by simp):Av S p m x Q .normal s:=
 eX y hp hm (by rw [hS];exact dX hn hl hloc hobj)
theorem zf {f:FuncId} {fn:Func} {cd:Code} {Q:D->List (List D)->Prop} {rs:List ResultVar} (hf:P.funcs[f]?=some fn)(h:AWP P cd (aK P rs Q) (St.mk' n l [] σ))
  (hn : fn.ntmps = n := by exact rfl) (hrs : fn.results = rs.toArray := by exact rfl) (hb : fn.body = some cd := by exact rfl) (hl : tM 0 args = l := by simp only [tM] <;> rfl) (hname : (fn.name != "runtime.NumGoroutine") = true := by exact rfl) (hle : args.length ≤ n := by simp) : Ct P f args σ Q := aMv hf hb hname hn hrs hle (by rw [hl]; exact h)
theorem zr(c:Cfg) {id:Nat} (h:∀(all:List Oper) (K:St->Prop),(∀s,eK rr dfr P y Q s->K s)->qI P c all ops' st K)(he:ops.map rQ=ops':=by simp only [lJ,nE] <;> rfl):eK rr dfr P (.seq (.region id ops.toArray false) y) Q st:=
 aF (tW he fun all _ K hK=>h all K fun s hs=>hK s (gI hs))
theorem pB(c:Cfg) {id:Nat} (h:∀(all:List Oper),(∀j,aT all j=aT ops j)->∀(K:St->Prop),(∀s,eK rr dfr P y Q s->K s)->qI P c all ops' st K)(he:ops.map rQ=ops':=by simp only [lJ,nE] <;> rfl):eK rr dfr P (.seq (.region id ops.toArray false) y) Q st:=
 aF (tW he fun all ha K hK=>h all ha K fun s hs=>hK s (gI hs))
theorem zt(c:Cfg) {id:Nat} (h:∀(all:List Oper) (K:St->Prop),(∀s,Q .normal s->K s)->qI P c all ops' st K)(he:ops.map rQ=ops':=by simp only [lJ,nE] <;> rfl):eK rr dfr P (.region id ops.toArray false) Q st:=
 tW he fun all _ K hK=>h all K hK
theorem ztg(c:Cfg) {id:Nat} (h:∀(all:List Oper),(∀j,aT all j=aT ops j)->∀(K:St->Prop),(∀s,Q .normal s->K s)->qI P c all ops' st K)(he:ops.map rQ=ops':=by simp only [lJ,nE] <;> rfl):eK rr dfr P (.region id ops.toArray false) Q st:=
 tW he fun all ha K hK=>h all ha K hK
theorem bE {id:Nat} (h:∀(all:List Oper) (K:St->Prop),(∀s,eK rr dfr P y Q s->K s)->qI P ⟨[], [], [], [], []⟩ all ops' st K)(he:ops.map rQ=ops':=by simp only [lJ,nE] <;> rfl):eK rr dfr P (.seq (.region id ops.toArray false) y) Q st:=zr _ h he
theorem rB {id:Nat} (h:∀(all:List Oper) (K:St->Prop),(∀s,Q .normal s->K s)->qI P ⟨[], [], [], [], []⟩ all ops' st K)(he:ops.map rQ=ops':=by simp only [lJ,nE] <;> rfl):eK rr dfr P (.region id ops.toArray false) Q st:=zt _ h he
theorem zd(c:Cfg)(ks:List DK) {id:Nat} (h:∀(all:List Oper),(∀j,aT all j=aT ops j)->∀(K:St->Prop),(∀s,eK rr dfr P y Q s->K s)->jS P c all ops' ks st K)
  (he:ops.map rQ=ops':=by simp only [lJ,nE] <;> rfl) (hm:P.follows .mixedOrders=true:=by kernel_rfl) (hok:La c ops ks=true:=by kernel_rfl):eK rr dfr P (.seq (.region id ops.toArray true) y) Q st:=
 aF (Qw ks hm hok he fun all ha K hK=>h all ha K fun s hs=>hK s (gI hs))
theorem ze(c:Cfg)(ks:List DK) {id:Nat} (h:∀(all:List Oper),(∀j,aT all j=aT ops j)->∀(K:St->Prop),(∀s,Q .normal s->K s)->jS P c all ops' ks st K)
  (he:ops.map rQ=ops':=by simp only [lJ,nE] <;> rfl) (hm:P.follows .mixedOrders=true:=by kernel_rfl) (hok:La c ops ks=true:=by kernel_rfl):eK rr dfr P (.region id ops.toArray true) Q st:=
 Qw ks hm hok he fun all ha K hK=>h all ha K hK
theorem Rk(l:List Oper):dS [] l= []:=rfl
theorem Mg {π:List Nat} {l:List Oper} {o:Oper} (h:l[i]?=some o):dS (i::π) l=o::dS π l:=by simp [dS,h]
theorem zeN(c:Cfg)(π:List Nat)(j:Nat)(ks:List DK) {id:Nat} (h:∀(all:List Oper),(∀j,aT all j=aT ops j)->∀(K:St->Prop),(∀s,Q .normal s->K s)->jS P c all ops' ks st K)
  (he:(dS π ops).map rQ=ops':=by(repeat rw [Mg rfl]);simp only [Rk,lJ,nE] <;> rfl) (hm:P.follows .mixedOrders=true:=by kernel_rfl) (hok:Jh c ops π j ks=true:=by kernel_rfl):eK rr dfr P (.region id ops.toArray true) Q st:=
 aD7 π j ks hm hok fun K hK=>by
  have:=h ops (fun _=>rfl) K hK
  rwa [<- he,zZ] at this
theorem zdN(c:Cfg)(π:List Nat)(j:Nat)(ks:List DK) {id:Nat} (h:∀(all:List Oper),(∀j,aT all j=aT ops j)->∀(K:St->Prop),(∀s,eK rr dfr P y Q s->K s)->jS P c all ops' ks st K)
  (he:(dS π ops).map rQ=ops':=by(repeat rw [Mg rfl]);simp only [Rk,lJ,nE] <;> rfl) (hm:P.follows .mixedOrders=true:=by kernel_rfl) (hok:Jh c ops π j ks=true:=by kernel_rfl):eK rr dfr P (.seq (.region id ops.toArray true) y) Q st:=
 aF (zeN c π j ks (fun all ha K hK=>h all ha K fun s hs=>hK s (gI hs)) he hm hok)
theorem zk(K:List Nat) {l2:List (Nat×Slot)} {c:Code} (h:eK rr dfr P c Q (St.mk' n l2 loc obj))(hl:xM K l=l2:=by simp only [Re,Bq,Fq,Er,aM5,aJj,Nat.reduceBEq] <;> rfl):eK rr dfr P c Q (St.mk' n l loc obj):=aLg K hl h
theorem zg {op:Op} {ty:TypeId} {j:Nat} {b want:Bool} (hg:aT all j=some t)(h1:∀K':St->Prop,(∀s,qI P c all r s K->K' s)->Vj d st/\jL P c d op st K')
  (hs:st.env t= .d (.v (.bool b)):=by simp <;> rfl) (hb:b=want:=by exact rfl):qI P c all (⟨d,op,ty,pos,after,some (j,want)⟩::r) st K:=aUk hg hs hb h1
theorem zdg {op:Op} {ty:TypeId} {j:Nat} {b want:Bool} {k:DK} (hg:aT all j=some t)(h1:∀K':St->Prop,(∀s,jS P c all r ks s K->K' s)->Vj d st/\At P c d op k st K')
  (hs:st.env t= .d (.v (.bool b)):=by simp <;> rfl) (hb:b=want:=by exact rfl):jS P c all (⟨d,op,ty,pos,after,some (j,want)⟩::r) (k::ks) st K:=aQ2 hg hs hb h1
theorem zi {a b:Code} {s:Slot} (h:Br s.toD (eK rr dfr P a Q (St.mk' n ((t,.d (.bool true))::l) loc obj)) (eK rr dfr P b Q (St.mk' n ((t,.d (.bool false))::l) loc obj)))(hs:eB l t=s:=by simp <;> rfl):eK rr dfr P (.cond (.tmp t) a b) Q (St.mk' n l loc obj):=aDk hs h
theorem cB {f:FuncId} {y:List (List D)} {x:D} {Q:D->List (List D)->Prop} (h:Ct P f args σ (fun r τ=>r=x/\τ=y))(k:Q x y)(hl:mV args' args:=by first | exact fS rfl | (refine fS ?_;simp;done) | (refine fS ?_;simp;rfl) | (simp [mV,Cb];done)):Ct P f args' σ Q:=
 (h.of_le hl rfl).mono fun r τ ⟨h1,h2⟩=>by rw [h1,h2];exact k
theorem zcm {f:FuncId} {Q Q':D->List (List D)->Prop} (h:Ct P f args σ Q)(k:∀r τ,Q r τ->Q' r τ)(hl:mV args' args:=by first | exact fS rfl | (refine fS ?_;simp;done) | (refine fS ?_;simp;rfl) | (simp [mV,Cb];done)):Ct P f args' σ Q':=
 (h.of_le hl rfl).mono k
theorem Ia {f:FuncId} {r:D} {k:D->Prop} (h:∀σ,Ct P f args σ (fun r' τ=>r'=r/\τ=σ))(hk:k r)(hl:mV args' args:=by first | exact fS rfl | (refine fS ?_;simp;done) | (refine fS ?_;simp;rfl) | (simp [mV,Cb];done)):∃r,(∀σ,Ct P f args' σ fun r' σ'=>r'=r/\σ'=σ)/\k r:=
 ⟨r,fun σ=>(h σ).of_le hl rfl,hk⟩
theorem zdr {f:FuncId} {r:D} {k:D->Prop} (h:Ct P f args σ (fun r' τ=>r'=r/\τ=σ))(hk:k r)(hl:mV args' args:=by first | exact fS rfl | (refine fS ?_;simp;done) | (refine fS ?_;simp;rfl) | (simp [mV,Cb];done)):∃r,(Ct P f args' σ fun r' σ'=>r'=r/\σ'=σ)/\k r:=
 ⟨r,h.of_le hl rfl,hk⟩
theorem zdd {f:FuncId} {σ0:List (List D)} {r:D} {k:D->List (List D)->Prop} (h:Ct P f args σ (fun r' τ=>r'=r/\τ=σ0))(hk:k r σ0)(hl:mV args' args:=by first | exact fS rfl | (refine fS ?_;simp;done) | (refine fS ?_;simp;rfl) | (simp [mV,Cb];done)):∃r σ0,(Ct P f args' σ fun r' σ'=>r'=r/\σ'=σ0)/\k r σ0:=
 ⟨r,σ0,h.of_le hl rfl,hk⟩
theorem zdn {f:FuncId} {Q:D->List (List D)->Prop} {k:D->List (List D)->Prop} (h:Ct P f args σ Q)(hx:∃r τ,Q r τ)(hk:∀r τ,Q r τ->k r τ)(hl:mV args' args:=by first | exact fS rfl | (refine fS ?_;simp;done) | (refine fS ?_;simp;rfl) | (simp [mV,Cb];done)):∃Q,(Ct P f args' σ Q/\∃r τ,Q r τ)/\∀r τ,Q r τ->k r τ:=
 ⟨Q,⟨h.of_le hl rfl,hx⟩,hk⟩
theorem zI {a b:Code} {s:Slot} (h1:x=true->eK rr dfr P a Q (St.mk' n ((t,.d (.bool true))::l) loc obj))(h2:x=false->eK rr dfr P b Q (St.mk' n ((t,.d (.bool false))::l) loc obj))
  (hs:eB l t=s:=by simp <;> rfl) (hb:s= .d (.v (.bool x)):=by exact rfl):eK rr dfr P (.cond (.tmp t) a b) Q (St.mk' n l loc obj):=aDk hs (by rw [hb];exact⟨h1,h2⟩)
theorem zb {s:Slot} (t:Nat)(h1:x=true->qI P c all r (St.mk' n ((t,.d (.bool true))::l) loc obj) K)(h2:x=false->qI P c all r (St.mk' n ((t,.d (.bool false))::l) loc obj) K)
  (hs:eB l t=s:=by simp <;> rfl) (hb:s= .d (.v (.bool x)):=by exact rfl):qI P c all r (St.mk' n l loc obj) K:=aLy t hs (by rw [hb];exact⟨h1,h2⟩)
theorem Yg {s:Slot} (t:Nat)(h1:x=true->jS P c all r ks (St.mk' n ((t,.d (.bool true))::l) loc obj) K)(h2:x=false->jS P c all r ks (St.mk' n ((t,.d (.bool false))::l) loc obj) K)
  (hs:eB l t=s:=by simp <;> rfl) (hb:s= .d (.v (.bool x)):=by exact rfl):jS P c all r ks (St.mk' n l loc obj) K:=aG1 t hs (by rw [hb];exact⟨h1,h2⟩)
theorem zA (h:eK rr dfr P y Q s):eK rr dfr P .skip (wZ rr dfr P y Q) s:=uY h
theorem zB (h:eK rr dfr P y Q s):tJ i (wZ rr dfr P y Q) .normal s:=h
theorem mM (h:eK rr dfr P y Q s):eK rr dfr P .skip (tJ i (wZ rr dfr P y Q)) s:=uY h
theorem Ea {x:Code} (h:eK rr dfr P x (tJ i (wZ rr dfr P y Q)) s):eK rr dfr P (.seq (.block i x) y) Q s:=aF (aS h)
theorem kR {x:Code} (h:eK rr dfr P x (tJ i (wZ rr dfr P y Q)) s):eK rr dfr P .skip (wZ rr dfr P (.seq (.block i x) y) Q) s:=uY (Ea h)
theorem zE {S:α->St} {p:α->Prop} {m:α->Nat} {x:α} {y1:Code} (h:eK rr dfr P y Q s):eK rr dfr P (.exit i) (wZ rr dfr P y1 (Av S p m x (tJ i (wZ rr dfr P y Q)))) s:=uV (vH (yB (sL h)))
@[simp] theorem aX8 :wZ rr dfr P y Q .ret s=Q .ret s:=rfl
@[simp] theorem aWh :tJ i Q .ret s=Q .ret s:=rfl
@[simp] theorem aX9 {S:α->St} {p:α->Prop} {m:α->Nat} {x:α} :Av S p m x Q .ret s=Q .ret s:=rfl
@[simp] theorem aX7 {S:α->St} {p:α->Prop} :aXi S p Q .ret s=Q .ret s:=rfl
end
end Go.Vm
