import Derived.Test.YtbdjepeabjangaaGreatVm21
set_option linter.all false
namespace Go.Vm
open Go
variable {A B:Prop}{K:St->Prop}{P:Program}{Q:Exit->St->Prop}{R:mP}{a:List D}{after:Array Edge}{all ops ops' r:List Oper}{args:Array Operand}{b want:Bool}{body:Code}{c:Cfg}{d dst:Option Tmp}{f:FuncId}{i j n t:Nat}{k:DK}{ks:List DK}{l l2:List (Nat×Slot)}{loc obj:List (List D)}{op:Op}{pos:String}{s st:St}{ts:Array TypeId}{ty:TypeId}{α:Type}
variable {rr:Option Nat} {dfr:List Deferred}
section
theorem iE {y:Code} (h:dQ rr dfr P y Q s):sC rr dfr P y Q .normal s:=h
theorem uK {y:Code} (h:Q (.exit i) s):sC rr dfr P y Q (.exit i) s:=h
theorem iV (h:Q .normal s):qP i Q .normal s:=h
theorem rF (h:Q .normal s):qP i Q (.exit i) s:=by simpa [qP] using h
theorem Ef {S:α->St} {p:α->Prop} {m:α->Nat} {x:α} (h:Q (.exit i) s):yU S p m x Q (.exit i) s:=h
def xL(d:D)(A B:Prop):Prop:=match d with
 | .v (.bool t)=>(t=true->A)/\(t=false->B)
 | _=>False
theorem aG (h:∀K':St->Prop,(∀s,nE P c all r s K->K' s)->Ot d st/\gV P c d op st K'):nE P c all (⟨d,op,ty,pos,after,none⟩::r) st K:=
 h _ fun _ h=>h
theorem aBn (n:Nat) (h:∀K':St->Prop,(∀s,nE P c all (r.drop n) s K->K' s)->nE P c all (r.take n) st K'):nE P c all r st K:=by
 have go:∀(n:Nat) (r:List Oper) (st:St),nE P c all (r.take n) st (fun s=>nE P c all (r.drop n) s K)->nE P c all r st K:=by
  intro n;induction n with
  | zero=>intro r st h;exact h
  | succ n ih =>
   intro r st h;cases r with
   | nil=>exact h
   | cons o r =>
    simp only [uR,Aj] at h;unfold nE at h |-;split at h
    .rename_i hg;have hd:=h.1;refine⟨hd,?_⟩;exact xB (fun s hs=>ih r s hs) h.2
    rename_i j want hg;split at h
    .split at h
     .exact⟨fun hb=>⟨(h.1 hb).1,xB (fun s hs=>ih r s hs) (h.1 hb).2⟩,fun hb=>⟨(h.2 hb).1,ih r _ (h.2 hb).2⟩⟩
     exact h.elim
    exact h.elim
 exact go n r st (h _ fun _ h=>h)
theorem aQ1 (hg:aQ all j=some t)(hs:st.env t= .d (.v (.bool b)))
  (h1:b=want->∀K':St->Prop,(∀s,nE P c all r s K->K' s)->Ot d st/\gV P c d op st K') (h2:b= !want->Ot d st/\nE P c all r (st.put d .und) K):nE P c all (⟨d,op,ty,pos,after,some (j,want)⟩::r) st K:=by
 rw [Jm];simp only [hg,hs];exact⟨fun hb=>h1 hb _ fun _ h=>h,h2⟩
theorem aO1 (hg:aQ all j=some t)(hs:st.env t= .d (.v (.bool b)))(hb:b=want)
  (h1:∀K':St->Prop,(∀s,nE P c all r s K->K' s)->Ot d st/\gV P c d op st K'):nE P c all (⟨d,op,ty,pos,after,some (j,want)⟩::r) st K:=
 aQ1 hg hs (fun _=>h1) fun h=>(by rw [hb] at h;cases want <;> cases h)
theorem Dv (hs:dR l t= .d (.v (.bool b))):St.mk' n l loc obj=St.mk' n ((t,.d (.bool b))::l) loc obj:=by
 unfold St.mk';congr 1;funext u;simp only [dR];split
 .rename_i e;rw [e,hs]
 rfl
theorem aF7 (t:Nat) {s:Slot} (hs:dR l t=s)
  (h:xL s.toD (nE P c all r (St.mk' n ((t,.d (.bool true))::l) loc obj) K) (nE P c all r (St.mk' n ((t,.d (.bool false))::l) loc obj) K)):nE P c all r (St.mk' n l loc obj) K:=by
 unfold xL at h;split at h
 .rename_i b hb;have hs':dR l t= .d (.v (.bool b)):=by
   rw [hs];cases s with
   | d d=>simp only [Slot.toD] at hb;rw [hb]
   | lref n o=>simp [Slot.toD] at hb
  rw [Dv hs'];cases b
  .exact h.2 rfl
  exact h.1 rfl
 exact h.elim
def aOk(P:Program)(c:Cfg)(all r:List Oper)(K:St->Prop):St->Prop:=fun st=>nE P c all r st K
theorem aEj :aOk P c all r K st=nE P c all r st K:=rfl
theorem aJf :nE P c all (⟨d,op,ty,pos,after,none⟩::r) st K=(Ot d st/\gV P c d op st (aOk P c all r K)):=rfl
def aE9(P:Program)(c:Cfg)(all r:List Oper)(ks:List DK)(K:St->Prop):St->Prop:=fun st=>iJ P c all r ks st K
theorem aA4 :aE9 P c all r ks K st=iJ P c all r ks st K:=rfl
theorem aG9 :iJ P c all (⟨d,op,ty,pos,after,none⟩::r) (k::ks) st K=(Ot d st/\wI P c d op k st (aE9 P c all r ks K)):=rfl
@[congr] theorem aQp {op:BinOp} {t:TypeId} {x y x' y':Slot} {K:D->Prop} (hx:x=x')(hy:y=y'):sZ P op t x y K=sZ P op t x' y' K:=by rw [hx,hy]
@[congr] theorem aQy {op:BinOp} {k:IntKind} {a b a' b':Int} {K:D->Prop} (hx:a=a')(hy:b=b'):Cd op k a b K=Cd op k a' b' K:=by rw [hx,hy]
@[congr] theorem aQt {op:BinOp} {a b a' b':ByteArray} {K:D->Prop} (hx:a=a')(hy:b=b'):Cj op a b K=Cj op a' b' K:=by rw [hx,hy]
@[congr] theorem aRa {t:TypeId} {b a' b':List D} {K:Bool->Prop} (hx:a=a')(hy:b=b'):qK P t a b K=qK P t a' b' K:=by rw [hx,hy]
@[congr] theorem aR5 {op:UnOp} {x x':D} {K:D->Prop} (hx:x=x'):Cy op x K=Cy op x' K:=by rw [hx]
def sel(b:Bool)(s r:Slot):Slot:=if b=true then s else r
@[congr] theorem aS9 {b':Bool} {s r:Slot} (h:b=b'):sel b s r=sel b' s r:=by rw [h]
theorem aLt {s r:Slot} :sel true s r=s:=rfl
theorem aLx {s r:Slot} :sel false s r=r:=rfl
theorem It(a:Nat)(s:Slot)(r:List (Nat×Slot))(t:Nat):dR ((a,s)::r) t=sel (t==a) s (dR r t):=by
 simp only [dR,sel,vG]
def gv3(s:Slot)(want:Bool):Option Bool:=Ca s want
def gv2(o:Option Tmp)(st:St)(want:Bool):Option Bool:=match o with
 | some t=>gv3 (st.env t) want
 | none=>none
@[congr] theorem aSk {o o':Option Tmp} (h:o=o'):gv2 o st want=gv2 o' st want:=by rw [h]
theorem aGx(t:Tmp)(st:St)(want:Bool):gv2 (some t) st want=gv3 (st.env t) want:=rfl
theorem aEf(b want:Bool):gv3 (.d (.v (.bool b))) want=some b:=rfl
theorem aI6(want:Bool):gv3 (.d (.tup [])) want=some (!want):=rfl
def aGk(all:List Oper)(j:Nat)(st:St)(want:Bool):Option Bool:=match aQ all j with
 | some t=>Ca (st.env t) want
 | none=>none
theorem aJj(all:List Oper)(j:Nat)(st:St)(want:Bool):aGk all j st want=gv2 (aQ all j) st want:=rfl
def Vl(g:Option Bool)(want:Bool)(A B:Prop):Prop:=match g with
 | some b=>(b=want->A)/\(b= !want->B)
 | none=>False
@[congr] theorem aPo {g g':Option Bool} (h:g=g'):Vl g want A B=Vl g' want A B:=by rw [h]
theorem aPe :Vl (some true) true A B=A:=by simp [Vl]
theorem aOa :Vl (some true) false A B=B:=by simp [Vl]
theorem aO3 :Vl (some false) true A B=B:=by simp [Vl]
theorem aNj :Vl (some false) false A B=A:=by simp [Vl]
theorem aNi :nE P c all (⟨d,op,ty,pos,after,some (j,want)⟩::r) st K=
  Vl (aGk all j st want) want (Ot d st/\gV P c d op st (aOk P c all r K)) (Ot d st/\nE P c all r (st.put d .und) K):=by
 rw [Jm];unfold aGk Vl;split
 .rename_i t ht;simp only [ht];split
  .rename_i h;simp [h];exact fun _=>Iff.rfl
  rename_i h;simp [h]
 rename_i h;simp [h]
def Tl(d:D)(A B:Prop):Prop:=match d with
 | .v (.bool t)=>(t=true->A)/\(t=false->B)
 | _=>False
@[congr] theorem aOv {d d':D} (h:d=d'):Tl d A B=Tl d' A B:=by rw [h]
theorem aOj :Tl (.v (.bool true)) A B=A:=by simp [Tl]
theorem aOl :Tl (.v (.bool false)) A B=B:=by simp [Tl]
theorem aBs {c a b:Operand} :wX dst c a b st K=Tl (st.rd c) ((st.rd a).plain=true/\K (st.put dst (.d (st.rd a).strip))) ((st.rd b).plain=true/\K (st.put dst (.d (st.rd b).strip))):=rfl
theorem Pl {K':St->Prop} (hk:∀s,K s->K' s)(h:wI P c dst op k st K):wI P c dst op k st K':=by
 unfold wI at *;cases k with
 | op f=>exact⟨h.1,h.2.1,xB hk h.2.2⟩
 | pure=>
  simp only at *;split at h
  .obtain⟨h1,r,h2,h3⟩:=h;exact⟨h1,r,h2,hk _ h3⟩
  exact h
 | pureC =>
  simp only at *;split at h
  .split at h
   .rename_i hf;obtain⟨h0,h1,r,h2,h3⟩:=h;exact⟨h0,h1,r,h2,hk _ h3⟩
   exact h.elim
  exact h
 | read=>
  simp only at *;split at h
  .obtain⟨h1,r,h2,h3⟩:=h;exact⟨h1,r,h2,hk _ h3⟩
  exact h
 | det=>
  simp only at *;split at h
  .obtain⟨h1,r,σ0,h2,h3⟩:=h;exact⟨h1,r,σ0,h2,hk _ h3⟩
  exact h
 | readT=>
  simp only at *;split at h
  .obtain⟨h1,r,h2,h3⟩:=h;exact⟨h1,r,h2,hk _ h3⟩
  exact h
 | nd=>
  obtain⟨Q,h1,h2⟩:=h;exact⟨Q,h1,fun r σ0 hq=>hk _ (h2 r σ0 hq)⟩
 | detA=>
  simp only at *;split at h
  .obtain⟨h1,r,J,h2,h3⟩:=h;exact⟨h1,r,J,h2,hk _ h3⟩
  exact h
 | pureT=>
  simp only at *;split at h
  .obtain⟨h0,h1,r,h2,h3⟩:=h;exact⟨h0,h1,r,h2,hk _ h3⟩
  exact h
 | detT=>
  simp only at *;split at h
  .obtain⟨h0,h1,r,σ0,h2,h3⟩:=h;exact⟨h0,h1,r,σ0,h2,hk _ h3⟩
  exact h
theorem Ej :iJ P c all [] ks st K=K st:=by unfold iJ;rfl
theorem aI3 :iJ P c all (⟨d,op,ty,pos,after,some (j,want)⟩::r) (k::ks) st K=
  (Ot d st/\Vl (aGk all j st want) want (wI P c d op k st (aE9 P c all r ks K)) (iJ P c all r ks (st.put d .und) K)):=by
 conv=>lhs;unfold iJ
 show(_/\_)=_
 congr 1;simp only;unfold aGk Vl;split
 .rename_i t ht;simp only [ht];split
  .rename_i h;simp [h];exact fun _=>Iff.rfl
  rename_i h;simp [h]
 rename_i h;simp [h]
theorem bJ (h:∀K':St->Prop,(∀s,iJ P c all r ks s K->K' s)->Ot d st/\wI P c d op k st K'):iJ P c all (⟨d,op,ty,pos,after,none⟩::r) (k::ks) st K:=
 h _ fun _ h=>h
theorem Sj (n:Nat) (hks:n<=ks.length)(h:∀K':St->Prop,(∀s,iJ P c all (r.drop n) (ks.drop n) s K->K' s)->iJ P c all (r.take n) (ks.take n) st K'):iJ P c all r ks st K:=by
 have go : ∀ (n : Nat) (r : List Oper) (ks : List DK) (st : St), n <= ks.length -> iJ P c all (r.take n) (ks.take n) st (fun s => iJ P c all (r.drop n) (ks.drop n) s K) -> iJ P c all r ks st K := by
  intro n;induction n with
  | zero=>intro r ks st _ h;simp only [List.take_zero,rS,Ej] at h;exact h
  | succ n ih =>
   intro r ks st hks h;cases ks with
   | nil=>simp at hks
   | cons k ks =>
    cases r with
    | nil=>simp only [List.take_nil,List.drop_nil,Ej] at h |-;exact h
    | cons o r =>
     simp only [uR,Aj] at h;simp only [cI] at hks;unfold iJ at h |-;refine⟨h.1,?_⟩;have h2:=h.2;split at h2
     .exact Pl (fun s hs=>ih r ks s (by omega) hs) h2
     split at h2
     .split at h2
      .exact⟨fun hb=>Pl (fun s hs=>ih r ks s (by omega) hs) (h2.1 hb),fun hb=>ih r ks _ (by omega) (h2.2 hb)⟩
      exact h2.elim
     exact h2.elim
 exact go n r ks st hks (h _ fun _ h=>h)
theorem aKy (hg:aQ all j=some t)(hs:st.env t= .d (.v (.bool b)))(hb:b=want)
  (h1:∀K':St->Prop,(∀s,iJ P c all r ks s K->K' s)->Ot d st/\wI P c d op k st K'):iJ P c all (⟨d,op,ty,pos,after,some (j,want)⟩::r) (k::ks) st K:=by
 unfold iJ;refine⟨(h1 _ fun _ h=>h).1,?_⟩;simp only [hg,hs];exact⟨fun _=>(h1 _ fun _ h=>h).2,fun h=>(by rw [hb] at h;cases want <;> cases h)⟩
theorem Xd (t:Nat) {s:Slot} (hs:dR l t=s)
  (h:xL s.toD (iJ P c all r ks (St.mk' n ((t,.d (.bool true))::l) loc obj) K) (iJ P c all r ks (St.mk' n ((t,.d (.bool false))::l) loc obj) K)):iJ P c all r ks (St.mk' n l loc obj) K:=by
 unfold xL at h;split at h
 .rename_i b hb;have hs':dR l t= .d (.v (.bool b)):=by
   rw [hs];cases s with
   | d d=>simp only [Slot.toD] at hb;rw [hb]
   | lref n o=>simp [Slot.toD] at hb
  rw [Dv hs'];cases b
  .exact h.2 rfl
  exact h.1 rfl
 exact h.elim
def Ro:List Nat->List (Nat×Slot)->List (Nat×Slot)
 | _, []=> []
 | W,(t,s)::r=>if W.contains t then Ro W r else(t,s)::Ro (t::W) r
theorem aKb(n:Nat)(s:Slot):jG n s (.d .any)=True:=by
 unfold jG;split <;> simp_all
theorem aRe(n:Nat)(x:D):jG n (.d x) (.d x)=True:=by
 cases x with
 | sl o es=>cases o <;> simp [jG]
 | _=>simp [jG]
theorem aIx(n:Nat)(es:List D):jG n (.d (.sl true es)) (.d (.sl false es))=True:=by
 unfold jG;simp
theorem aEr(n m o:Nat):jG n (.lref m o) (.lref m o)=(m<n):=by
 unfold jG;simp
def wQ(n:Nat)(env:Nat->Slot):List (Nat×Slot)->Prop
 | []=>True
 | (a,s)::r=>jG n (env a) s/\wQ n env r
theorem Zc(n:Nat)(env:Nat->Slot):wQ n env []=True:=rfl
theorem Tn(n:Nat)(env:Nat->Slot)(a:Nat)(s:Slot)(r:List (Nat×Slot)):wQ n env ((a,s)::r)=(jG n (env a) s/\wQ n env r):=rfl
theorem sS {env:Nat->Slot} :∀ {l:List (Nat×Slot)},wQ n env l->∀p∈l,jG n (env p.1) p.2
 | [],_,p,hp=>by simp at hp
 | (a,s)::r,h,p,hp=>by
  rcases gA.1 hp with rfl | hp
  .exact h.1
  exact sS h.2 p hp
theorem aU (hn:st.n=n)(hl:wQ loc.length st.env l)(hloc:loc<+:st.loc)(hobj:st.obj=obj):Weak st (St.mk' n l loc obj):=
 Ke hn (sS hl) hloc hobj
theorem bA (F:α->List (Nat×Slot))(W:List Nat)(p:α->Prop)(m:α->Nat)(x0:α) 
  (hl:Ro W l=l2) (hF:wQ loc.length (dR l) (F x0++l2)) (hp:p x0)
  (h:∀x,p x->dQ rr dfr P body (yU (fun x=>St.mk' n (F x++l2) loc obj) p m x Q) (St.mk' n (F x++l2) loc obj)):dQ rr dfr P (.loop body) Q (St.mk' n l loc obj):=
 Pa (fun x=>St.mk' n (F x++l2) loc obj) p m x0 (Ke rfl (sS hF) (List.prefix_refl _) rfl) hp h
theorem oY (F:α->List (Nat×Slot))(G H:α->List (List D))(W:List Nat)(p:α->Prop)(m:α->Nat)(x0:α) 
  (hl:Ro W l=l2) (hF:wQ (G x0).length (dR l) (F x0++l2)) (hG:G x0=loc) (hH:H x0=obj) (hp:p x0)
  (h:∀x,p x->dQ rr dfr P body (yU (fun x=>St.mk' n (F x++l2) (G x) (H x)) p m x Q) (St.mk' n (F x++l2) (G x) (H x))):dQ rr dfr P (.loop body) Q (St.mk' n l loc obj):=
 Pa (fun x=>St.mk' n (F x++l2) (G x) (H x)) p m x0 (Ke rfl (sS hF) (by rw [hG];exact List.prefix_refl _) hH.symm) hp h
theorem cQ {S:α->St} {p:α->Prop} {m:α->Nat} {x:α} (y:α)(hp:p y)(hm:m y<m x)(hw:Weak s (S y)):yU S p m x Q .normal s:=⟨y,hp,hm,hw⟩
def aG0 {α:Type} (S:α->St)(p:α->Prop)(Q:Exit->St->Prop):Exit->St->Prop
 | .normal,s=>∃y,p y/\Weak s (S y)
 | e,s=>Q e s
theorem eQ {S:α->St} {p:α->Prop} (y:α)(hp:p y)(hw:Weak s (S y)):aG0 S p Q .normal s:=⟨y,hp,hw⟩
theorem Sg(n:Nat):D.strip (.mref n)= .mref n:=rfl
theorem aI9(n:Nat):D.s1 (.mref n)= .mref n:=rfl
theorem aIs(n:Nat):D.s2 (.mref n)= .mref n:=rfl
theorem Rg(n:Nat):D.plain (.mref n)=true:=rfl
theorem So(n:Nat):D.solid (.mref n)=true:=rfl
theorem Nb(n:Nat):D.ncells (.mref n)=1:=rfl
theorem Tz(n:Nat):D.cells (.mref n)= [.mref n]:=rfl
theorem aEd(kd:TypeDesc)(c:Nat)(kvs:List (Value×Nat×D)):D.strip (.mo kd c kvs)= .mz:=rfl
theorem aQu(kd:TypeDesc)(c:Nat)(kvs:List (Value×Nat×D)):D.s1 (.mo kd c kvs)= .mz:=rfl
theorem aQv(kd:TypeDesc)(c:Nat)(kvs:List (Value×Nat×D)):D.s2 (.mo kd c kvs)= .mz:=rfl
theorem aC0(kd:TypeDesc)(c:Nat)(kvs:List (Value×Nat×D)):D.plain (.mo kd c kvs)=true:=rfl
theorem aHl(kd:TypeDesc)(c:Nat)(kvs:List (Value×Nat×D)):D.solid (.mo kd c kvs)=true:=rfl
theorem Xt(kd:TypeDesc)(c:Nat)(kvs:List (Value×Nat×D)):D.ncells (.mo kd c kvs)=1:=rfl
theorem aHm(kd:TypeDesc)(c:Nat)(kvs:List (Value×Nat×D)):D.cells (.mo kd c kvs)= [.mo kd c kvs]:=rfl
theorem aBc(n a b:Nat)(l:List Nat):D.strip (.mit n a l b)= .any:=rfl
theorem aM8(n a b:Nat)(l:List Nat):D.s1 (.mit n a l b)= .any:=rfl
theorem aM1(n a b:Nat)(l:List Nat):D.s2 (.mit n a l b)= .any:=rfl
theorem aAw(n a b:Nat)(l:List Nat):D.plain (.mit n a l b)=true:=rfl
theorem Zk(n a b:Nat)(l:List Nat):D.solid (.mit n a l b)=false:=rfl
theorem aGr(n c:Nat)(kd:TypeDesc)(kvs:List (Value×Nat×D)):D.strip (.mp n kd c kvs)= .mref n:=rfl
theorem aQd(n c:Nat)(kd:TypeDesc)(kvs:List (Value×Nat×D)):D.s1 (.mp n kd c kvs)= .mref n:=rfl
theorem aQi(n c:Nat)(kd:TypeDesc)(kvs:List (Value×Nat×D)):D.s2 (.mp n kd c kvs)= .mref n:=rfl
theorem aDf(n c:Nat)(kd:TypeDesc)(kvs:List (Value×Nat×D)):D.plain (.mp n kd c kvs)=true:=rfl
theorem aGo(n c:Nat)(kd:TypeDesc)(kvs:List (Value×Nat×D)):D.solid (.mp n kd c kvs)=true:=rfl
theorem aB2(n c:Nat)(kd:TypeDesc)(kvs:List (Value×Nat×D)):D.ncells (.mp n kd c kvs)=1:=rfl
theorem aDz(n c:Nat)(kd:TypeDesc)(kvs:List (Value×Nat×D)):D.cells (.mp n kd c kvs)= [.mp n kd c kvs]:=rfl
theorem aBb(t:TypeId)(d:D):D.strip (.ifc t d)= .ifc t d:=rfl
theorem aOt(t:TypeId)(d:D):D.s1 (.ifc t d)= .ifc t d:=rfl
theorem aNb(t:TypeId)(d:D):D.s2 (.ifc t d)= .ifc t d:=rfl
theorem Yz(t:TypeId)(d:D):D.plain (.ifc t d)=true:=rfl
theorem Ys(t:TypeId)(d:D):D.solid (.ifc t d)=true:=rfl
theorem Sp(t:TypeId)(d:D):D.ncells (.ifc t d)=1:=rfl
theorem Zi(t:TypeId)(d:D):D.cells (.ifc t d)= [.ifc t d]:=rfl
theorem aC1(n:Nat):D.arr (.mref n)=true:=rfl
attribute [simp] aEd aQu aQv aC0 aHl Xt aHm aBc aM8 aM1 aAw Zk sV xR sP aMl Sg aI9 aIs Rg So Nb Tz aGr aQd aQi aDf aGo aB2 aDz aBb aOt aNb Yz Ys Sp Zi aC1
theorem aBa(n a b c:Nat):D.strip (.slo n a b c)= .slo n a b c:=rfl
theorem aGa(n:Nat):D.strip (.xl n)= .xl n:=rfl
theorem aFx(k:Nat)(es:List D):D.strip (.xs k es)= .xl es.length:=rfl
theorem aNc(n a b c:Nat):D.s2 (.slo n a b c)= .slo n a b c:=rfl
theorem aRp(n:Nat):D.s2 (.xl n)= .xl n:=rfl
theorem aQ4(k:Nat)(es:List D):D.s2 (.xs k es)= .xl es.length:=rfl
theorem aPm(f:Go.Fn)(a b:List D):D.s2 (.clo f a b)= .clo f a b:=rfl
theorem aNu(n a b c:Nat):D.s1 (.slo n a b c)= .slo n a b c:=rfl
theorem aRb(n:Nat):D.s1 (.xl n)= .xl n:=rfl
theorem aQ7(k:Nat)(es:List D):D.s1 (.xs k es)= .xl es.length:=rfl
theorem aOm(f:Go.Fn)(a b:List D):D.s1 (.clo f a b)= .clo f a b:=rfl
theorem Xr(n a b c:Nat):D.plain (.slo n a b c)=true:=rfl
theorem aDn(n:Nat):D.plain (.xl n)=true:=rfl
theorem aE6(k:Nat)(es:List D):D.plain (.xs k es)=true:=rfl
theorem aBu(n a b c:Nat):D.solid (.slo n a b c)=true:=rfl
theorem aG6(n:Nat):D.solid (.xl n)=true:=rfl
theorem aG1(k:Nat)(es:List D):D.solid (.xs k es)=true:=rfl
theorem Tv(n a b c:Nat):D.ncells (.slo n a b c)=1:=rfl
theorem Ya(n:Nat):D.ncells (.xl n)=1:=rfl
theorem Xy(k:Nat)(es:List D):D.ncells (.xs k es)=1:=rfl
theorem Xx(n a b c:Nat):D.cells (.slo n a b c)= [.slo n a b c]:=rfl
theorem aE1(n:Nat):D.cells (.xl n)= [.xl n]:=rfl
theorem aFa(k:Nat)(es:List D):D.cells (.xs k es)= [.xs k es]:=rfl
theorem aQ2(x:Value):D.arr (.v x)=true:=rfl
theorem aPa(es:List D):D.arr (.sl false es)=true:=rfl
theorem aIm(cs:List D):D.arr (.agg cs)=cs.all D.flat:=rfl
theorem aO6(x:Value):D.flat (.v x)=true:=rfl
theorem aI8(es:List D):D.flat (.sl false es)=true:=rfl
theorem aH0(n o:Nat):D.flat (.ref n o)=true:=rfl
def uF:List (Nat×List D)->List (List D)->List (List D)
 | [],l=>l
 | (n,c)::r,l=>(uF r l).set n c
theorem dD(l:List (List D)):uF [] l=l:=rfl
theorem cJ(n:Nat)(c:List D)(r:List (Nat×List D))(l:List (List D)):uF ((n,c)::r) l=(uF r l).set n c:=rfl
theorem eO (F:α->List (Nat×Slot))(M N:α->List (Nat×List D))(W:List Nat)(p:α->Prop)(m:α->Nat)(x0:α) 
  (hl:Ro W l=l2) (hF:wQ (uF (M x0) loc).length (dR l) (F x0++l2)) (hG:uF (M x0) loc=loc) (hH:uF (N x0) obj=obj) (hp:p x0)
  (h:∀x,p x->dQ rr dfr P body (yU (fun x=>St.mk' n (F x++l2) (uF (M x) loc) (uF (N x) obj)) p m x Q) (St.mk' n (F x++l2) (uF (M x) loc) (uF (N x) obj))):dQ rr dfr P (.loop body) Q (St.mk' n l loc obj):=
 oY F (fun x=>uF (M x) loc) (fun x=>uF (N x) obj) W p m x0 hl hF hG hH hp h
theorem aAs (l:List α)(a:α):(l++ [a])[l.length]?=some a:=by simp
theorem qH (l:List α)(a b:α):(l++ [a]).set l.length b=l++ [b]:=by simp
theorem iA (F:α->List (Nat×Slot))(M N:α->List (Nat×List D))(W:List Nat)(p:α->Prop) {a b:Code} 
  (hl:Ro W l=l2) (h1:dQ rr dfr P a (aG0 (fun x=>St.mk' n (F x++l2) (uF (M x) loc) (uF (N x) obj)) p Q) (St.mk' n l loc obj))
  (h2:∀x,p x->dQ rr dfr P b Q (St.mk' n (F x++l2) (uF (M x) loc) (uF (N x) obj))):dQ rr dfr P a (sC rr dfr P b Q) (St.mk' n l loc obj):=by
 subst hl;refine aCs h1 fun e s h=>?_;cases e with
 | normal=>obtain⟨y,hy,hw⟩:=h;exact aH2 hw (h2 y hy)
 | _=>exact h
def xZ:List Nat->List (Nat×Slot)->List (Nat×Slot)
 | [],_=> []
 | t::r,l=>(t,dR l t)::xZ r l
theorem Zh(l:List (Nat×Slot)):xZ [] l= []:=rfl
theorem Es(t:Nat)(r:List Nat)(l:List (Nat×Slot)):xZ (t::r) l=(t,dR l t)::xZ r l:=rfl
theorem Jd(l:List (Nat×Slot))(u:Nat):∀K:List Nat,dR (xZ K l) u=dR l u\/dR (xZ K l) u= .any
 | []=> .inr rfl
 | t::r=>by
  rw [Es,qN];split
  .rename_i h;subst h;exact .inl rfl
  exact Jd l u r
theorem aDh (K:List Nat) {c:Code} (hl:xZ K l=l2)(h:dQ rr dfr P c Q (St.mk' n l2 loc obj)):dQ rr dfr P c Q (St.mk' n l loc obj):=by
 subst hl;intro w0 g0 w g tmps hf hok hn;refine h w0 g0 w g tmps hf ⟨hok.mem,hok.xlt,fun t=>?_,hok.ll,hok.loc,hok.ol,hok.obj⟩ hn;have hs:=hok.slot t;show SlotOk w g t (dR (xZ K l) t) _
 rcases Jd l t K with e | e
 .rw [e];exact hs
 rw [e];exact⟨.any _,.flat _ _ _ rfl⟩
theorem rE (ts k:Nat) {es:List D} {c:Code} (hs:dR l ts= .d (.xs k es))(hk0:0<k)
  (h:∀(cap:Nat) (rest:List D),es.length<=cap->cap<=maxLen->rest.length=(cap - es.length) * k->0<k->(∀d∈es,d.ncells=k/\d.arr=true)->dQ rr dfr P c Q (St.mk' n ((ts,.d (.slo obj.length 0 es.length cap))::l) loc (obj++ [es.flatMap D.cells++rest]))):dQ rr dfr P c Q (St.mk' n l loc obj):=by
 intro w0 g0 w g tmps hf hok hn;obtain⟨cap,rest,g',a1,a2,a3,a4,a5,_,hfr,hok'⟩:=hok.openX ts k es hs hk0;exact h cap rest a1 a2 a3 a4 a5 w0 g0 w g' tmps (hf.trans hfr) hok' hn
theorem kV (ts k:Nat) {es:List D} {c:Code} (hs:dR l ts= .d (.xs k es))(hk0:0<k)
  (h:∀(cap:Nat) (rest:List D),es.length<=cap->cap<=maxLen->rest=List.replicate ((cap - es.length) * k) .any->0<k->(∀d∈es,d.ncells=k/\d.arr=true)->dQ rr dfr P c Q (St.mk' n ((ts,.d (.slo obj.length 0 es.length cap))::l) loc (obj++ [es.flatMap D.cells++rest]))):dQ rr dfr P c Q (St.mk' n l loc obj):=by
 intro w0 g0 w g tmps hf hok hn;obtain⟨cap,rest,g',a1,a2,a3,a4,a5,_,hfr,hok'⟩:=hok.openX2 ts k es hs hk0;exact h cap rest a1 a2 a3 a4 a5 w0 g0 w g' tmps (hf.trans hfr) hok' hn
theorem eY (ts k m len cap:Nat)(es cs:List D) {c:Code} (hs:dR l ts= .d (.slo m 0 len cap))(hm:obj[m]?=some cs)(hk:0<k)(hcs:cs.length=cap * k)(hl:es.length=len)
  (hes:∀d∈es,d.ncells=k/\d.arr=true) (he:es.flatMap D.cells<+:cs) (h:dQ rr dfr P c Q (St.mk' n ((ts,.d (.xs k es))::l) loc (obj.set m []))):dQ rr dfr P c Q (St.mk' n l loc obj):=by
 intro w0 g0 w g tmps hf hok hn;obtain⟨g',_,hfr,hok'⟩:=hok.closeX ts k m len cap es cs hs hm hk hcs hl hes he;exact h w0 g0 w g' tmps (hf.trans hfr) hok' hn
theorem aH4 (f:α->D)(l:List α)(k:Nat)(h:k<l.length):(l.map f).getD k .any=f l[k]:=by
 simp [List.getD,h]
theorem Gm (f:α->D)(l:List α)(k:Nat)(h:k<l.length):(l.map f)[k]?=some (f l[k]):=by
 simp [h]
theorem aIw(n:Int):inR .i64 n=(-9223372036854775808<=n/\n<=9223372036854775807):=by
 unfold inR;rfl
theorem aMv(n:Int):inR .u8 n=(0<=n/\n<=255):=by
 unfold inR;rfl
end
theorem aG4:Mn []=true:=rfl
theorem Xq(r:List (Option Holder)):Mn (none::r)=Mn r:=by simp [Mn]
theorem aB1(h:Holder)(r:List (Option Holder)):Mn (some h::r)=(!r.contains (some h) && Mn r):=by
 simp only [Mn,rN,id,oU,Bool.decide_and,List.contains_eq_mem];congr 1;rw [<- decide_not];congr 1;simp [lT]
theorem aAm:maxLen=9223372036854775807:=rfl
theorem aLn(n:Nat)(l:List (Nat×Slot))(loc obj:List (List D)):({ n:=n,env:=dR l,loc:=loc,obj:=obj } :St)=St.mk' n l loc obj:=rfl
def zU:Slot->Slot
 | .d x=> .d x.strip
 | s=>s
def mI:List Nat->List (Nat×Slot)->List (Nat×Slot)
 | [],l=>l
 | t::r,l=>(t,zU (dR l t))::mI r l
theorem Cm(l:List (Nat×Slot))(u:Nat):∀ts:List Nat,dR (mI ts l) u=if u∈ts then zU (dR l u)else dR l u
 | []=>by simp [mI]
 | t::r=>by
  rw [mI,qN,Cm l u r];by_cases h:u=t
  .subst h;simp
  simp [h]
theorem oH(l:List (Nat×Slot))(ts:List (Option Nat)):fT ts (dR l)=dR (mI (ts.filterMap id) l):=by
 funext u;rw [Cm];by_cases h:some u∈ts
 .have h1:ts.contains (some u)=true:=by simpa using h
  have h2:u∈ts.filterMap id:=by simpa using h
  simp only [fT,h1,aO,aR h2,zU];split <;> simp_all
 have h1:ts.contains (some u)=false:=by simpa using h
 have h2:¬u∈ts.filterMap id:=by simpa using h
 simp only [fT,h1,aH h2];rfl
theorem Qx {d:Nat} {args:List Operand} :mN P (some d) f args (St.mk' n l loc obj) K=
  ((args.filterMap cD).Nodup/\(∀x∈args,wK ((St.mk' n l loc obj).rdS x)=true/\((St.mk' n l loc obj).rd x).plain=true)/\
   Ct P f (args.map (tE (St.mk' n l loc obj))) obj (fun r σ'=>K (St.mk' n ((d,.d r)::mI (args.filterMap cD) l) loc σ'))):=by
 unfold mN;have e:(args.map cD).filterMap id=args.filterMap cD:=by rw [Av];rfl
 simp only [Df,Dj,Dq,Us,oH,e];rfl
theorem Of(l:List (Nat×Slot)):mI [] l=l:=rfl
theorem Kw(t:Nat)(r:List Nat)(l:List (Nat×Slot)):mI (t::r) l=(t,zU (dR l t))::mI r l:=rfl
theorem aCf(x:D):zU (.d x)= .d x.strip:=rfl
theorem Px(a b:Nat):zU (.lref a b)= .lref a b:=rfl
theorem Zd:List.filterMap cD []= []:=rfl
theorem Yb(t:Tmp)(r:List Operand):List.filterMap cD (.tmp t::r)=t::List.filterMap cD r:=rfl
theorem Nn(v:Value)(r:List Operand):List.filterMap cD (.const v::r)=List.filterMap cD r:=rfl
theorem Tu(v:FuncId)(r:List Operand):List.filterMap cD (.func v::r)=List.filterMap cD r:=rfl
theorem Mb {d:Nat} :
  wI P c (some d) (.call ⟨.value (.func f),args,ts⟩) .pureT (St.mk' n l loc obj) K=
  ((args.toList.filterMap cD).Nodup/\(∀x∈args.toList,wK ((St.mk' n l loc obj).rdS x)=true/\((St.mk' n l loc obj).rd x).plain=true)/\
   ∃r,(∀σ,Ct P f (args.toList.map (tE (St.mk' n l loc obj))) σ fun r' σ'=>r'=r/\σ'=σ)/\K (St.mk' n ((d,.d r)::mI (args.toList.filterMap cD) l) loc obj)):=by
 have e:(args.toList.map cD).filterMap id=args.toList.filterMap cD:=by rw [Av];rfl
 simp only [wI,Df,Dj,Dq,Us,oH,e];rfl
theorem Oq {d:Nat} :
  wI P c (some d) (.call ⟨.value (.func f),args,ts⟩) .detT (St.mk' n l loc obj) K=
  ((args.toList.filterMap cD).Nodup/\(∀x∈args.toList,wK ((St.mk' n l loc obj).rdS x)=true/\((St.mk' n l loc obj).rd x).plain=true)/\
   ∃r σ0,(Ct P f (args.toList.map (tE (St.mk' n l loc obj))) obj fun r' σ'=>r'=r/\σ'=σ0)/\K (St.mk' n ((d,.d r)::mI (args.toList.filterMap cD) l) loc σ0)):=by
 have e:(args.toList.map cD).filterMap id=args.toList.filterMap cD:=by rw [Av];rfl
 simp only [wI,Df,Dj,Dq,Us,oH,e];rfl
theorem aO7 {f:Fl} :wI P c d op (.op f) st K=(jY op=false/\mR c d st op=f/\gV P c d op st K):=rfl
theorem aEy :wI P c d (.call ⟨.value (.func f),args,ts⟩) .pure st K=
  (kP args.toList st/\∃r,(∀σ,Ct P f (gK args.toList st) σ fun r' σ'=>r'=r/\σ'=σ)/\K (st.put d (.d r))):=rfl
def aQg(P:Program)(dst:Option Tmp)(d:D)(args:List Operand)(st:St)(K:St->Prop):Prop:=match d with
 | .clo (.func fid) first caps=>(∀d∈first++caps,d.plain=true)/\kP args st/\∃r,(∀σ,Ct P fid (first.map D.strip++gK args st++caps.map D.strip) σ fun r' σ'=>r'=r/\σ'=σ)/\K (st.put dst (.d r))
 | _=>False
theorem Xz {f:Operand} :wI P c d (.call ⟨.value f,args,ts⟩) .pureC st K=aQg P d (st.rd f) args.toList st K:=rfl
theorem aKe {fid:FuncId} {first caps:List D} {args:List Operand} :aQg P dst (.clo (.func fid) first caps) args st K=((∀d∈first++caps,d.plain=true)/\kP args st/\∃r,(∀σ,Ct P fid (first.map D.strip++gK args st++caps.map D.strip) σ fun r' σ'=>r'=r/\σ'=σ)/\K (st.put dst (.d r))):=rfl
theorem aCt :wI P c d (.call ⟨.value (.func f),args,ts⟩) .read st K=
  (kP args.toList st/\∃r,(Ct P f (gK args.toList st) st.obj fun r' σ'=>r'=r/\σ'=st.obj)/\K (st.put d (.d r))):=rfl
theorem aOx :wI P c d (.call ⟨.value (.func f),args,ts⟩) .nd st K=
  ∃Q,(kP args.toList st/\Ct P f (gK args.toList st) st.obj Q/\∃r σ0,Q r σ0)/\∀r σ0,Q r σ0->K (({ st with obj:=σ0 } :St).put d (.d r)):=rfl
theorem Yx :wI P c d (.call ⟨.value (.func f),args,ts⟩) .readT st K=
  (kP args.toList st/\∃r,(∀J,Ct P f (gK args.toList st) (st.obj++J) fun r' σ'=>r'=r/\σ'=st.obj++J)/\K (st.put d (.d r))):=rfl
theorem aH3 :wI P c d (.call ⟨.value (.func f),args,ts⟩) .detA st K=
  (kP args.toList st/\∃r J,(Ct P f (gK args.toList st) st.obj fun r' σ'=>r'=r/\σ'=st.obj++J)/\K (({ st with obj:=st.obj++J } :St).put d (.d r))):=rfl
theorem aLi :wI P c d (.call ⟨.value (.func f),args,ts⟩) .det st K=
  (kP args.toList st/\∃r σ0,(Ct P f (gK args.toList st) st.obj fun r' σ'=>r'=r/\σ'=σ0)/\K (({ st with obj:=σ0 } :St).put d (.d r))):=rfl
theorem Vi {a b:Code} {s:Slot} (hs:dR l t=s)
  (h:xL s.toD (dQ rr dfr P a Q (St.mk' n ((t,.d (.bool true))::l) loc obj)) (dQ rr dfr P b Q (St.mk' n ((t,.d (.bool false))::l) loc obj))):dQ rr dfr P (.cond (.tmp t) a b) Q (St.mk' n l loc obj):=by
 unfold xL at h;split at h
 .rename_i v hv;have hs':dR l t= .d (.v (.bool v)):=by
   rw [hs];cases s with
   | d d=>simp only [Slot.toD] at hv;rw [hv]
   | lref n o=>simp [Slot.toD] at hv
  rw [Dv hs'];cases v with
  | true=>exact aY (t:=true) (by simp [St.rd,St.rdS,qN,St.mk']) (fun _=>h.1 rfl) (fun h=>by cases h)
  | false=>exact aY (t:=false) (by simp [St.rd,St.rdS,qN,St.mk']) (fun h=>by cases h) (fun _=>h.2 rfl)
 exact h.elim
def qJ (o : Oper) : Oper := ⟨o.dst, o.op, 0, "", #[], o.guard⟩
theorem nW:List.map qJ []= []:=rfl
theorem mA (d : Option Tmp) (op : Op) (ty : TypeId) (pos : String) (after : Array Edge) (g : Option (Nat × Bool)) (r : List Oper) : List.map qJ (⟨d, op, ty, pos, after, g⟩ :: r) = ⟨d, op, 0, "", #[], g⟩ :: List.map qJ r := rfl
theorem Fx :∀(r:List Oper) (st:St),nE P c all (r.map qJ) st K=nE P c all r st K
 | [],_=>rfl
 | o :: r, st => by
  have ih:(fun st'=>nE P c all (r.map qJ) st' K)=fun st'=>nE P c all r st' K:=funext fun st'=>Fx r st';show nE P c all (qJ o::r.map qJ) st K=_
  unfold nE;simp only [qJ,ih];split
  .rfl
  split
  .split
   .rw [Fx r];rfl
   rfl
  rfl
theorem Ae :∀(r:List Oper) (ks:List DK) (st:St),iJ P c all (r.map qJ) ks st K=iJ P c all r ks st K
 | [],_,_=>rfl
 | _::_, [],_=>rfl
 | o :: r, k :: ks, st => by
  have ih:(fun st'=>iJ P c all (r.map qJ) ks st' K)=fun st'=>iJ P c all r ks st' K:=funext fun st'=>Ae r ks st';show iJ P c all (qJ o::r.map qJ) (k::ks) st K=_
  unfold iJ;simp only [qJ,ih];congr 1;split
  .rfl
  split
  .split
   .rw [Ae r]
   rfl
  rfl
theorem qR {id:Nat} (he:ops.map qJ=ops')(h:∀all:List Oper,(∀j,aQ all j=aQ ops j)->∀K:St->Prop,(∀s,Q .normal s->K s)->nE P c all ops' st K):dQ rr dfr P (.region id ops.toArray false) Q st:=
 Qt fun K hK=>by
  have:=h ops (fun _=>rfl) K hK
  rwa [<- he,Fx] at this
theorem Iq {id:Nat} (ks:List DK) (hm:P.follows .mixedOrders=true)(hok:Ev c ops ks=true)(he:ops.map qJ=ops')
  (h:∀all:List Oper,(∀j,aQ all j=aQ ops j)->∀K:St->Prop,(∀s,Q .normal s->K s)->iJ P c all ops' ks st K):dQ rr dfr P (.region id ops.toArray true) Q st:=
 aCz ks hm hok fun K hK=>by
  have:=h ops (fun _=>rfl) K hK
  rwa [<- he,Ae] at this
def Rj:D->Prop
 | .v (.slice none 0 0)=>True
 | _=>False
def Co(x y:D):Prop:=y=x\/(x.plain=true/\y=x.strip)\/(Rj x/\(y= .sl false []\/y= .sl true []))
theorem Rr:Rj (.v (.slice none 0 0))=True:=rfl
def lJ:List D->List D->Prop
 | [], []=>True
 | a::r,b::q=>Co a b/\lJ r q
 | _,_=>False
theorem fE {b:List D} (h:a=b):lJ a b:=by
 subst h;induction a with
 | nil=>trivial
 | cons x r ih=>exact⟨.inl rfl,ih⟩
theorem Dw:∀ {a b:List D},lJ a b->a.length=b.length
 | [], [],_=>rfl
 | _::_,_::_,h=>by simp [Dw h.2]
 | [],_::_,h=>h.elim
 | _::_, [],h=>h.elim
theorem Fv:∀ {a b:List D},lJ a b->∀(i:Nat) (y:D),b[i]?=some y->∃x,a[i]?=some x/\Co x y
 | x::_,_::_,h,0,y,hy=>by simp at hy;subst hy;exact⟨x,rfl,h.1⟩
 | _::_,_::_,h,i+1,y,hy=>by simpa using Fv h.2 i y (by simpa using hy)
 | [], [],_,_,_,hy=>by simp at hy
 | [],_::_,h,_,_,_=>h.elim
 | _::_, [],h,_,_,_=>h.elim
theorem Ct.of_le {a':List D} {σ σ':List (List D)} {Q:D->List (List D)->Prop} (h:Ct P f a σ Q)(e:lJ a' a)(e2:σ'=σ):Ct P f a' σ' Q:=by
 subst e2;refine⟨h.1,fun w g vs hs hb ho=>h.2 w g vs (by rw [hs,Dw e]) hb ⟨ho.mem,ho.xlt,fun t=>?_,ho.ll,ho.loc,ho.ol,ho.obj⟩⟩;have hsl:=ho.slot t;simp only [St.ofArgs] at hsl |-;unfold fB at hsl |-;cases hy:a[t]? with
 | none=>exact⟨.any _,.flat _ _ _ rfl⟩
 | some y =>
  obtain⟨x,hx,hle⟩:=Fv e t y hy;rw [hx] at hsl;rcases hle with rfl | ⟨hp,rfl⟩ | ⟨hn,hy⟩
  .exact hsl
  .exact oN hsl.1 hp t
  have hxn:x= .v (.slice none 0 0):=by
   unfold Rj at hn;split at hn
   .rfl
   exact hn.elim
  subst hxn;obtain⟨hr,_⟩:=hsl;have hv:=hr.vEq;rcases hy with rfl | rfl
  .exact⟨by rw [hv];exact .nil _,.flat _ _ _ rfl⟩
  exact⟨by rw [hv];exact .nil _,.sl _ _ _ (.inl ⟨_,_,hv⟩)⟩
theorem yN:∀(sets:List (Nat×Slot)) (l:List (Nat×Slot)),fC sets (dR l)=dR (sets.reverseAux l)
 | [],l=>rfl
 | (a,s)::r,l=>by
  show fC r (fun u=>if u=a then s else dR l u)=_
  have:(fun u=>if u=a then s else dR l u)=dR ((a,s)::l):=by funext u;rw [qN]
  rw [this,yN r];rfl
theorem aNd(n:Nat)(l:List (Nat×Slot))(loc obj:List (List D))(sets:List (Nat×Slot))(ob:Option (List (List D))):(St.mk' n l loc obj).upd ⟨sets,none,ob⟩=St.mk' n (sets.reverseAux l) loc (ob.getD obj):=by
 show({ n:=n,env:=fC sets (dR l),loc:=loc,obj:=ob.getD obj } :St)=_
 rw [yN];rfl
theorem Sd(l:List (Nat×Slot)):List.reverseAux [] l=l:=rfl
theorem Ql(a:Nat×Slot)(r l:List (Nat×Slot)):List.reverseAux (a::r) l=List.reverseAux r (a::l):=rfl
def exS(R:mP)(K:List (Nat×Slot)->Option (List (List D))->Prop):Prop:=∃sets ob,R sets ob/\K sets ob
@[congr] theorem aSo {R':mP} {K:List (Nat×Slot)->Option (List (List D))->Prop} (h:R=R'):exS R K=exS R' K:=by rw [h]
theorem aMx {alt:Bool} :vcY P alt dst op st K=exS (fun sets ob=>yR P alt dst op st.rdS (if(flY alt op).rO=true then st.obj else []) sets ob) (fun sets ob=>K (st.upd ⟨sets,none,ob⟩)):=rfl
theorem aNz {S:List (Nat×Slot)} {O:Option (List (List D))} {K:List (Nat×Slot)->Option (List (List D))->Prop} :exS (fun sets ob=>sets=S/\ob=O) K=K S O:=by
 apply propext;constructor
 .rintro⟨_,_,⟨rfl,rfl⟩,h⟩;exact h
 intro h;exact⟨_,_,⟨rfl,rfl⟩,h⟩
theorem aIl {C:Prop} {K:List (Nat×Slot)->Option (List (List D))->Prop} :exS (fun sets ob=>C/\R sets ob) K=(C/\exS (fun sets ob=>R sets ob) K):=by
 apply propext;constructor
 .rintro⟨_,_,⟨h1,h2⟩,h⟩;exact⟨h1,_,_,h2,h⟩
 rintro⟨h1,_,_,h2,h⟩;exact⟨_,_,⟨h1,h2⟩,h⟩
theorem aO4 {R:α->mP} {K:List (Nat×Slot)->Option (List (List D))->Prop} :exS (fun sets ob=>∃x,R x sets ob) K=∃x,exS (fun sets ob=>R x sets ob) K:=by
 apply propext;constructor
 .rintro⟨_,_,⟨x,h2⟩,h⟩;exact⟨x,_,_,h2,h⟩
 rintro⟨x,_,_,h2,h⟩;exact⟨_,_,⟨x,h2⟩,h⟩
theorem aO2 {S:mP} {K:List (Nat×Slot)->Option (List (List D))->Prop} :exS (fun sets ob=>R sets ob\/S sets ob) K=(exS (fun sets ob=>R sets ob) K\/exS (fun sets ob=>S sets ob) K):=by
 apply propext;constructor
 .rintro⟨_,_,h1 | h1,h⟩
  .exact .inl ⟨_,_,h1,h⟩
  exact .inr ⟨_,_,h1,h⟩
 rintro(⟨_,_,h1,h⟩ | ⟨_,_,h1,h⟩)
 .exact⟨_,_,.inl h1,h⟩
 exact⟨_,_,.inr h1,h⟩
theorem aRj {K:List (Nat×Slot)->Option (List (List D))->Prop} :exS (fun _ _=>False) K=False:=by
 apply propext;exact⟨fun⟨_,_,h,_⟩=>h,False.elim⟩
attribute [simp] aMx aNz aIl aO4 aO2 aRj
attribute [simp] aNd Sd Ql isY zV Kr yR yA1 yA2 zQ Jr Yc Xj vX Ja Xw flY Qk zK aHw Rr sH sK vA Ft qG Hl Yn bnE Bool.true_or Bool.false_or
theorem Yr(cs:List D):D.strip (.tup cs)= .tup (cs.map D.s2):=rfl
attribute [simp] Yr D.plain
theorem aNk(n:Nat)(cs:List D):uH true n cs=if n<=cs.length then some (.agg (cs.take n))else none:=rfl
theorem aOq(n:Nat)(cs:List D):uH false n cs=cs.head?:=rfl
theorem bM(cs:List D)(off:Nat)(ds:List D):dK cs off ds=cs.take off++ds++cs.drop (off+ds.length):=rfl
attribute [simp low] aNk aOq bM
attribute [simp] Mb Oq aO7 aEy Xz aKe aCt aLi Yx aH3 aOx
attribute [simp] aBa aGa aFx aNc aRp aQ4 aPm aNu aRb aQ7 aOm Xr aDn aE6 aBu aG6 aG1 Tv Ya Xy Xx aE1 aFa aQ2 aPa aIm aO6 aI8 aH0 aAs qH dD cJ Qx Of Kw aCf Px Zd Yb Nn Tu
attribute [simp] aLn List.getElem?_cons_zero Option.bind_some Us Df Dj Dq It Hz aIr aE0 aDq aEu aFh Uq aBl aGu aPi aG7 vZ aQj aHc
 aJ2 aGf Sf aIb aI7 aLp aC3 aB0 aAi Zp aA6 Zv aS4 aPv aOd aO8 aOc aOi aSv aQ3 aPj aNn aNa
 aIz aDc aA8 aBz Zy Yo Yy aJk aHr Zl aAc aAl aAr aFd Yw Tg Uh aJp aDu Yu aA5
 fS aJf aEj aG9 aA4 aNi aJj aGx aEf aI6 aLt aLx aPe aOa aO3 aNj aBs aOj aOl aI3 aEv aE7 qE gV Lp aJ8 dF vcX Bi jT qL rV mY gP flX uT Ei Nx iZ sZ Cd aJ7 Cj Cy jX iI kS sJ kW sN sL fK mU Ku sT nO
 qT Cn uY sI jW nQ oV Ez qM uI kJ kP gK tE wK Jj St.cellsAt St.park Slot.plus Slot.isAddr Wz D.ofList
 Zc Tn aKb aRe aIx aEr Ro aH4 Gm aIw aMv aDl jY mR iL Ej Ee Ap aG4 Xq aB1 aAm
end Go.Vm
