import Derived.Test.YtbgfljpnhhdkoaaGreatVm21
set_option linter.all false
namespace Go.Vm
open Go
variable {A B:Prop}{K:St->Prop}{P:Program}{Q:Exit->St->Prop}{R:pW}{a:List D}{after:Array Edge}{all ops ops' r:List Oper}{args:Array Operand}{b want:Bool}{body y:Code}{c:Cfg}{d dst:Option Tmp}{f:FuncId}{i j n t:Nat}{k:DK}{ks:List DK}{l l2:List (Nat×Slot)}{loc obj:List (List D)}{op:Op}{pos:String}{s st:St}{ts:Array TypeId}{ty:TypeId}{α:Type}
variable {rr:Option Nat} {dfr:List Deferred}
section
theorem fW (h:fD rr dfr P y Q s):uF rr dfr P y Q .normal s:=h
theorem Ce (h:Q (.exit i) s):uF rr dfr P y Q (.exit i) s:=h
theorem aMn (h:Q .ret s):uF rr dfr P y Q .ret s:=h
theorem lL (h:Q .normal s):rI i Q .normal s:=h
theorem yI (h:Q .normal s):rI i Q (.exit i) s:=by simpa [rI] using h
theorem aEj (h:Q .ret s):rI i Q .ret s:=h
theorem Dn {S:α->St} {p:α->Prop} {m:α->Nat} {x:α} (h:Q (.exit i) s):Dl S p m x Q (.exit i) s:=h
def Bu(d:D)(A B:Prop):Prop:=match d with
 | .v (.bool t)=>(t=true->A)/\(t=false->B)
 | _=>False
theorem aF (h:∀K':St->Prop,(∀s,qK P c all r s K->K' s)->Ws d st/\jE P c d op st K'):qK P c all (⟨d,op,ty,pos,after,none⟩::r) st K:=
 h _ fun _ h=>h
theorem aG9 (n:Nat) (h:∀K':St->Prop,(∀s,qK P c all (r.drop n) s K->K' s)->qK P c all (r.take n) st K'):qK P c all r st K:=by
 have go:∀(n:Nat) (r:List Oper) (st:St),qK P c all (r.take n) st (fun s=>qK P c all (r.drop n) s K)->qK P c all r st K:=by
  intro n;induction n with
  | zero=>intro r st h;exact h
  | succ n ih =>
   intro r st h;cases r with
   | nil=>exact h
   | cons o r =>
    simp only [Es,List.drop_succ_cons] at h;unfold qK at h |-;split at h
    .rename_i hg;have hd:=h.1;refine⟨hd,?_⟩;exact Ax (fun s hs=>ih r s hs) h.2
    rename_i j want hg;split at h
    .split at h
     .exact⟨fun hb=>⟨(h.1 hb).1,Ax (fun s hs=>ih r s hs) (h.1 hb).2⟩,fun hb=>⟨(h.2 hb).1,ih r _ (h.2 hb).2⟩⟩
     exact h.elim
    exact h.elim
 exact go n r st (h _ fun _ h=>h)
theorem aWy (hg:aN all j=some t)(hs:st.env t= .d (.v (.bool b)))
  (h1:b=want->∀K':St->Prop,(∀s,qK P c all r s K->K' s)->Ws d st/\jE P c d op st K') (h2:b= !want->Ws d st/\qK P c all r (st.put d .und) K):qK P c all (⟨d,op,ty,pos,after,some (j,want)⟩::r) st K:=by
 rw [Ph];simp only [hg,hs];exact⟨fun hb=>h1 hb _ fun _ h=>h,h2⟩
theorem aUu (hg:aN all j=some t)(hs:st.env t= .d (.v (.bool b)))(hb:b=want)
  (h1:∀K':St->Prop,(∀s,qK P c all r s K->K' s)->Ws d st/\jE P c d op st K'):qK P c all (⟨d,op,ty,pos,after,some (j,want)⟩::r) st K:=
 aWy hg hs (fun _=>h1) fun h=>(by rw [hb] at h;cases want <;> cases h)
theorem Lo (hs:eK l t= .d (.v (.bool b))):St.mk' n l loc obj=St.mk' n ((t,.d (.bool b))::l) loc obj:=by
 unfold St.mk';congr 1;funext u;simp only [eK];split
 .rename_i e;rw [e,hs]
 rfl
theorem aKy (t:Nat) {s:Slot} (hs:eK l t=s)
  (h:Bu s.toD (qK P c all r (St.mk' n ((t,.d (.bool true))::l) loc obj) K) (qK P c all r (St.mk' n ((t,.d (.bool false))::l) loc obj) K)):qK P c all r (St.mk' n l loc obj) K:=by
 unfold Bu at h;split at h
 .rename_i b hb;have hs':eK l t= .d (.v (.bool b)):=by
   rw [hs];cases s with
   | d d=>simp only [Slot.toD] at hb;rw [hb]
   | lref n o=>simp [Slot.toD] at hb
  rw [Lo hs'];cases b
  .exact h.2 rfl
  exact h.1 rfl
 exact h.elim
def aU4(P:Program)(c:Cfg)(all r:List Oper)(K:St->Prop):St->Prop:=fun st=>qK P c all r st K
theorem aMe :aU4 P c all r K st=qK P c all r st K:=rfl
theorem aO0 :qK P c all (⟨d,op,ty,pos,after,none⟩::r) st K=(Ws d st/\jE P c d op st (aU4 P c all r K)):=rfl
def aLg(P:Program)(c:Cfg)(all r:List Oper)(ks:List DK)(K:St->Prop):St->Prop:=fun st=>kA P c all r ks st K
theorem aDh :aLg P c all r ks K st=kA P c all r ks st K:=rfl
theorem aIi :kA P c all (⟨d,op,ty,pos,after,none⟩::r) (k::ks) st K=(Ws d st/\Ah P c d op k st (aLg P c all r ks K)):=rfl
@[congr] theorem aW4 {op:BinOp} {t:TypeId} {x y x' y':Slot} {K:D->Prop} (hx:x=x')(hy:y=y'):wQ P op t x y K=wQ P op t x' y' K:=by rw [hx,hy]
@[congr] theorem aXs {op:BinOp} {k:IntKind} {a b a' b':Int} {K:D->Prop} (hx:a=a')(hy:b=b'):Ic op k a b K=Ic op k a' b' K:=by rw [hx,hy]
@[congr] theorem aXb {op:BinOp} {a b a' b':ByteArray} {K:D->Prop} (hx:a=a')(hy:b=b'):Ih op a b K=Ih op a' b' K:=by rw [hx,hy]
@[congr] theorem aWl {t:TypeId} {b a' b':List D} {K:Bool->Prop} (hx:a=a')(hy:b=b'):uI P t a b K=uI P t a' b' K:=by rw [hx,hy]
@[congr] theorem aYn {op:UnOp} {x x':D} {K:D->Prop} (hx:x=x'):Ii op x K=Ii op x' K:=by rw [hx]
def sel(b:Bool)(s r:Slot):Slot:=if b=true then s else r
@[congr] theorem aY2 {b':Bool} {s r:Slot} (h:b=b'):sel b s r=sel b' s r:=by rw [h]
theorem aSb {s r:Slot} :sel true s r=s:=rfl
theorem aSx {s r:Slot} :sel false s r=r:=rfl
theorem Nu(a:Nat)(s:Slot)(r:List (Nat×Slot))(t:Nat):eK ((a,s)::r) t=sel (t==a) s (eK r t):=by
 simp only [eK,sel,xY]
def gv3(s:Slot)(want:Bool):Option Bool:=Hy s want
def gv2(o:Option Tmp)(st:St)(want:Bool):Option Bool:=match o with
 | some t=>gv3 (st.env t) want
 | none=>none
@[congr] theorem aY9 {o o':Option Tmp} (h:o=o'):gv2 o st want=gv2 o' st want:=by rw [h]
theorem aNo(t:Tmp)(st:St)(want:Bool):gv2 (some t) st want=gv3 (st.env t) want:=rfl
theorem aH6(b want:Bool):gv3 (.d (.v (.bool b))) want=some b:=rfl
theorem aQl(want:Bool):gv3 (.d (.tup [])) want=some (!want):=rfl
def aKe(all:List Oper)(j:Nat)(st:St)(want:Bool):Option Bool:=match aN all j with
 | some t=>Hy (st.env t) want
 | none=>none
theorem aR1(all:List Oper)(j:Nat)(st:St)(want:Bool):aKe all j st want=gv2 (aN all j) st want:=rfl
def vcG(g:Option Bool)(want:Bool)(A B:Prop):Prop:=match g with
 | some b=>(b=want->A)/\(b= !want->B)
 | none=>False
@[congr] theorem aVv {g g':Option Bool} (h:g=g'):vcG g want A B=vcG g' want A B:=by rw [h]
theorem aTt :vcG (some true) true A B=A:=by simp [vcG]
theorem aS3 :vcG (some true) false A B=B:=by simp [vcG]
theorem aU5 :vcG (some false) true A B=B:=by simp [vcG]
theorem aUt :vcG (some false) false A B=A:=by simp [vcG]
theorem aVa :qK P c all (⟨d,op,ty,pos,after,some (j,want)⟩::r) st K=
  vcG (aKe all j st want) want (Ws d st/\jE P c d op st (aU4 P c all r K)) (Ws d st/\qK P c all r (st.put d .und) K):=by
 rw [Ph];unfold aKe vcG;split
 .rename_i t ht;simp only [ht];split
  .rename_i h;simp [h];exact fun _=>Iff.rfl
  rename_i h;simp [h]
 rename_i h;simp [h]
def Yr(d:D)(A B:Prop):Prop:=match d with
 | .v (.bool t)=>(t=true->A)/\(t=false->B)
 | _=>False
@[congr] theorem aVd {d d':D} (h:d=d'):Yr d A B=Yr d' A B:=by rw [h]
theorem aUy :Yr (.v (.bool true)) A B=A:=by simp [Yr]
theorem aTk :Yr (.v (.bool false)) A B=B:=by simp [Yr]
theorem aHj {c a b:Operand} :Bs dst c a b st K=Yr (st.rd c) ((st.rd a).plain=true/\K (st.put dst (.d (st.rd a).strip))) ((st.rd b).plain=true/\K (st.put dst (.d (st.rd b).strip))):=rfl
theorem Ty {K':St->Prop} (hk:∀s,K s->K' s)(h:Ah P c dst op k st K):Ah P c dst op k st K':=by
 unfold Ah at *;cases k with
 | op f=>exact⟨h.1,h.2.1,Ax hk h.2.2⟩
 | pure=>
  simp only at *;split at h
  .obtain⟨h1,r,h2,h3⟩:=h;exact⟨h1,r,h2,hk _ h3⟩
  exact h
 | pureC =>
  simp only at *;split at h
  .split at h
   .rename_i hf;obtain⟨h0,h1,r,h2,h3⟩:=h;exact⟨h0,h1,r,h2,hk _ h3⟩
   exact h.elim
  exact h
 | read=>
  simp only at *;split at h
  .obtain⟨h1,r,h2,h3⟩:=h;exact⟨h1,r,h2,hk _ h3⟩
  exact h
 | det=>
  simp only at *;split at h
  .obtain⟨h1,r,σ0,h2,h3⟩:=h;exact⟨h1,r,σ0,h2,hk _ h3⟩
  exact h
 | readT=>
  simp only at *;split at h
  .obtain⟨h1,r,h2,h3⟩:=h;exact⟨h1,r,h2,hk _ h3⟩
  exact h
 | nd=>
  obtain⟨Q,h1,h2⟩:=h;exact⟨Q,h1,fun r σ0 hq=>hk _ (h2 r σ0 hq)⟩
 | detA=>
  simp only at *;split at h
  .obtain⟨h1,r,J,h2,h3⟩:=h;exact⟨h1,r,J,h2,hk _ h3⟩
  exact h
 | pureT=>
  simp only at *;split at h
  .obtain⟨h0,h1,r,h2,h3⟩:=h;exact⟨h0,h1,r,h2,hk _ h3⟩
  exact h
 | detT=>
  simp only at *;split at h
  .obtain⟨h0,h1,r,σ0,h2,h3⟩:=h;exact⟨h0,h1,r,σ0,h2,hk _ h3⟩
  exact h
theorem uN :kA P c all [] ks st K=K st:=by unfold kA;rfl
theorem aO2 :kA P c all (⟨d,op,ty,pos,after,some (j,want)⟩::r) (k::ks) st K=
  (Ws d st/\vcG (aKe all j st want) want (Ah P c d op k st (aLg P c all r ks K)) (kA P c all r ks (st.put d .und) K)):=by
 conv=>lhs;unfold kA
 show(_/\_)=_
 congr 1;simp only;unfold aKe vcG;split
 .rename_i t ht;simp only [ht];split
  .rename_i h;simp [h];exact fun _=>Iff.rfl
  rename_i h;simp [h]
 rename_i h;simp [h]
theorem bY (h:∀K':St->Prop,(∀s,kA P c all r ks s K->K' s)->Ws d st/\Ah P c d op k st K'):kA P c all (⟨d,op,ty,pos,after,none⟩::r) (k::ks) st K:=
 h _ fun _ h=>h
theorem Zo (n:Nat) (hks:n<=ks.length)(h:∀K':St->Prop,(∀s,kA P c all (r.drop n) (ks.drop n) s K->K' s)->kA P c all (r.take n) (ks.take n) st K'):kA P c all r ks st K:=by
 have go : ∀ (n : Nat) (r : List Oper) (ks : List DK) (st : St), n <= ks.length -> kA P c all (r.take n) (ks.take n) st (fun s => kA P c all (r.drop n) (ks.drop n) s K) -> kA P c all r ks st K := by
  intro n;induction n with
  | zero=>intro r ks st _ h;simp only [List.take_zero,zZ,uN] at h;exact h
  | succ n ih =>
   intro r ks st hks h;cases ks with
   | nil=>simp at hks
   | cons k ks =>
    cases r with
    | nil=>simp only [List.take_nil,List.drop_nil,uN] at h |-;exact h
    | cons o r =>
     simp only [Es,List.drop_succ_cons] at h;simp only [bJ] at hks;unfold kA at h |-;refine⟨h.1,?_⟩;have h2:=h.2;split at h2
     .exact Ty (fun s hs=>ih r ks s (by omega) hs) h2
     split at h2
     .split at h2
      .exact⟨fun hb=>Ty (fun s hs=>ih r ks s (by omega) hs) (h2.1 hb),fun hb=>ih r ks _ (by omega) (h2.2 hb)⟩
      exact h2.elim
     exact h2.elim
 exact go n r ks st hks (h _ fun _ h=>h)
theorem aRx (hg:aN all j=some t)(hs:st.env t= .d (.v (.bool b)))(hb:b=want)
  (h1:∀K':St->Prop,(∀s,kA P c all r ks s K->K' s)->Ws d st/\Ah P c d op k st K'):kA P c all (⟨d,op,ty,pos,after,some (j,want)⟩::r) (k::ks) st K:=by
 unfold kA;refine⟨(h1 _ fun _ h=>h).1,?_⟩;simp only [hg,hs];exact⟨fun _=>(h1 _ fun _ h=>h).2,fun h=>(by rw [hb] at h;cases want <;> cases h)⟩
theorem aHe (t:Nat) {s:Slot} (hs:eK l t=s)
  (h:Bu s.toD (kA P c all r ks (St.mk' n ((t,.d (.bool true))::l) loc obj) K) (kA P c all r ks (St.mk' n ((t,.d (.bool false))::l) loc obj) K)):kA P c all r ks (St.mk' n l loc obj) K:=by
 unfold Bu at h;split at h
 .rename_i b hb;have hs':eK l t= .d (.v (.bool b)):=by
   rw [hs];cases s with
   | d d=>simp only [Slot.toD] at hb;rw [hb]
   | lref n o=>simp [Slot.toD] at hb
  rw [Lo hs'];cases b
  .exact h.2 rfl
  exact h.1 rfl
 exact h.elim
def mW:List Nat->List (Nat×Slot)->List (Nat×Slot)
 | _, []=> []
 | W,(t,s)::r=>if W.contains t then mW W r else(t,s)::mW (t::W) r
theorem aQz(n:Nat)(s:Slot):Tp n s (.d .any)=True:=by
 unfold Tp;split <;> simp_all
theorem aWk(n:Nat)(x:D):Tp n (.d x) (.d x)=True:=by
 cases x with
 | sl o es=>cases o <;> simp [Tp]
 | _=>simp [Tp]
theorem aO1(n:Nat)(es:List D):Tp n (.d (.sl true es)) (.d (.sl false es))=True:=by
 unfold Tp;simp
theorem aKv(n m o:Nat):Tp n (.lref m o) (.lref m o)=(m<n):=by
 unfold Tp;simp
def Ao(n:Nat)(env:Nat->Slot):List (Nat×Slot)->Prop
 | []=>True
 | (a,s)::r=>Tp n (env a) s/\Ao n env r
theorem aGs(n:Nat)(env:Nat->Slot):Ao n env []=True:=rfl
theorem aAm(n:Nat)(env:Nat->Slot)(a:Nat)(s:Slot)(r:List (Nat×Slot)):Ao n env ((a,s)::r)=(Tp n (env a) s/\Ao n env r):=rfl
theorem vU {env:Nat->Slot} :∀ {l:List (Nat×Slot)},Ao n env l->∀p∈l,Tp n (env p.1) p.2
 | [],_,p,hp=>by simp at hp
 | (a,s)::r,h,p,hp=>by
  rcases bM.1 hp with rfl | hp
  .exact h.1
  exact vU h.2 p hp
theorem dW (hn:st.n=n)(hl:Ao loc.length st.env l)(hloc:loc<+:st.loc)(hobj:st.obj=obj):Weak st (St.mk' n l loc obj):=
 Qx hn (vU hl) hloc hobj
theorem aY (F:α->List (Nat×Slot))(W:List Nat)(p:α->Prop)(m:α->Nat)(x0:α) 
  (hl:mW W l=l2) (hF:Ao loc.length (eK l) (F x0++l2)) (hp:p x0)
  (h:∀x,p x->fD rr dfr P body (Dl (fun x=>St.mk' n (F x++l2) loc obj) p m x Q) (St.mk' n (F x++l2) loc obj)):fD rr dfr P (.loop body) Q (St.mk' n l loc obj):=
 Wd (fun x=>St.mk' n (F x++l2) loc obj) p m x0 (Qx rfl (vU hF) (Er _) rfl) hp h
theorem nW (F:α->List (Nat×Slot))(G H:α->List (List D))(W:List Nat)(p:α->Prop)(m:α->Nat)(x0:α) 
  (hl:mW W l=l2) (hF:Ao (G x0).length (eK l) (F x0++l2)) (hG:G x0=loc) (hH:H x0=obj) (hp:p x0)
  (h:∀x,p x->fD rr dfr P body (Dl (fun x=>St.mk' n (F x++l2) (G x) (H x)) p m x Q) (St.mk' n (F x++l2) (G x) (H x))):fD rr dfr P (.loop body) Q (St.mk' n l loc obj):=
 Wd (fun x=>St.mk' n (F x++l2) (G x) (H x)) p m x0 (Qx rfl (vU hF) (by rw [hG];exact Er _) hH.symm) hp h
theorem fB {S:α->St} {p:α->Prop} {m:α->Nat} {x:α} (y:α)(hp:p y)(hm:m y<m x)(hw:Weak s (S y)):Dl S p m x Q .normal s:=⟨y,hp,hm,hw⟩
def aX8 {α:Type} (S:α->St)(p:α->Prop)(Q:Exit->St->Prop):Exit->St->Prop
 | .normal,s=>∃y,p y/\Weak s (S y)
 | e,s=>Q e s
theorem Zh(n:Nat):D.strip (.mref n)= .mref n:=rfl
theorem aQ9(n:Nat):D.s1 (.mref n)= .mref n:=rfl
theorem aP4(n:Nat):D.s2 (.mref n)= .mref n:=rfl
theorem Yl(n:Nat):D.plain (.mref n)=true:=rfl
theorem aBb(n:Nat):D.solid (.mref n)=true:=rfl
theorem Vu(n:Nat):D.ncells (.mref n)=1:=rfl
theorem aAj(n:Nat):D.cells (.mref n)= [.mref n]:=rfl
theorem aJo(kd:TypeDesc)(c:Nat)(kvs:List (Value×Nat×D)):D.strip (.mo kd c kvs)= .mz:=rfl
theorem aYg(kd:TypeDesc)(c:Nat)(kvs:List (Value×Nat×D)):D.s1 (.mo kd c kvs)= .mz:=rfl
theorem aXg(kd:TypeDesc)(c:Nat)(kvs:List (Value×Nat×D)):D.s2 (.mo kd c kvs)= .mz:=rfl
theorem aI8(kd:TypeDesc)(c:Nat)(kvs:List (Value×Nat×D)):D.plain (.mo kd c kvs)=true:=rfl
theorem aMa(kd:TypeDesc)(c:Nat)(kvs:List (Value×Nat×D)):D.solid (.mo kd c kvs)=true:=rfl
theorem aDo(kd:TypeDesc)(c:Nat)(kvs:List (Value×Nat×D)):D.ncells (.mo kd c kvs)=1:=rfl
theorem aJ8(kd:TypeDesc)(c:Nat)(kvs:List (Value×Nat×D)):D.cells (.mo kd c kvs)= [.mo kd c kvs]:=rfl
theorem aFe(n a b:Nat)(l:List Nat):D.strip (.mit n a l b)= .any:=rfl
theorem aT2(n a b:Nat)(l:List Nat):D.s1 (.mit n a l b)= .any:=rfl
theorem aVl(n a b:Nat)(l:List Nat):D.s2 (.mit n a l b)= .any:=rfl
theorem aEz(n a b:Nat)(l:List Nat):D.plain (.mit n a l b)=true:=rfl
theorem aG2(n a b:Nat)(l:List Nat):D.solid (.mit n a l b)=false:=rfl
theorem aJ6(n c:Nat)(kd:TypeDesc)(kvs:List (Value×Nat×D)):D.strip (.mp n kd c kvs)= .mref n:=rfl
theorem aYa(n c:Nat)(kd:TypeDesc)(kvs:List (Value×Nat×D)):D.s1 (.mp n kd c kvs)= .mref n:=rfl
theorem aV0(n c:Nat)(kd:TypeDesc)(kvs:List (Value×Nat×D)):D.s2 (.mp n kd c kvs)= .mref n:=rfl
theorem aNw(n c:Nat)(kd:TypeDesc)(kvs:List (Value×Nat×D)):D.plain (.mp n kd c kvs)=true:=rfl
theorem aK8(n c:Nat)(kd:TypeDesc)(kvs:List (Value×Nat×D)):D.solid (.mp n kd c kvs)=true:=rfl
theorem aGi(n c:Nat)(kd:TypeDesc)(kvs:List (Value×Nat×D)):D.ncells (.mp n kd c kvs)=1:=rfl
theorem aNg(n c:Nat)(kd:TypeDesc)(kvs:List (Value×Nat×D)):D.cells (.mp n kd c kvs)= [.mp n kd c kvs]:=rfl
theorem aDl(t:TypeId)(d:D):D.strip (.ifc t d)= .ifc t d:=rfl
theorem aS7(t:TypeId)(d:D):D.s1 (.ifc t d)= .ifc t d:=rfl
theorem aS2(t:TypeId)(d:D):D.s2 (.ifc t d)= .ifc t d:=rfl
theorem aHb(t:TypeId)(d:D):D.plain (.ifc t d)=true:=rfl
theorem aFi(t:TypeId)(d:D):D.solid (.ifc t d)=true:=rfl
theorem Zi(t:TypeId)(d:D):D.ncells (.ifc t d)=1:=rfl
theorem aEl(t:TypeId)(d:D):D.cells (.ifc t d)= [.ifc t d]:=rfl
theorem aKw(n:Nat):D.arr (.mref n)=true:=rfl
attribute [simp] aJo aYg aXg aI8 aMa aDo aJ8 aFe aT2 aVl aEz aG2 Zh aQ9 aP4 Yl aBb Vu aAj aJ6 aYa aV0 aNw aK8 aGi aNg aDl aS7 aS2 aHb aFi Zi aEl aKw
theorem aEc(n a b c:Nat):D.strip (.slo n a b c)= .slo n a b c:=rfl
theorem aL1(n:Nat):D.strip (.xl n)= .xl n:=rfl
theorem aJs(k:Nat)(es:List D):D.strip (.xs k es)= .xl es.length:=rfl
theorem aUe(n a b c:Nat):D.s2 (.slo n a b c)= .slo n a b c:=rfl
theorem aWq(n:Nat):D.s2 (.xl n)= .xl n:=rfl
theorem aYh(k:Nat)(es:List D):D.s2 (.xs k es)= .xl es.length:=rfl
theorem aU8(f:Go.Fn)(a b:List D):D.s2 (.clo f a b)= .clo f a b:=rfl
theorem aTp(n a b c:Nat):D.s1 (.slo n a b c)= .slo n a b c:=rfl
theorem aWz(n:Nat):D.s1 (.xl n)= .xl n:=rfl
theorem aWi(k:Nat)(es:List D):D.s1 (.xs k es)= .xl es.length:=rfl
theorem aT6(f:Go.Fn)(a b:List D):D.s1 (.clo f a b)= .clo f a b:=rfl
theorem aE8(n a b c:Nat):D.plain (.slo n a b c)=true:=rfl
theorem aNb(n:Nat):D.plain (.xl n)=true:=rfl
theorem aKu(k:Nat)(es:List D):D.plain (.xs k es)=true:=rfl
theorem aE0(n a b c:Nat):D.solid (.slo n a b c)=true:=rfl
theorem aLm(n:Nat):D.solid (.xl n)=true:=rfl
theorem aJg(k:Nat)(es:List D):D.solid (.xs k es)=true:=rfl
theorem Yu(n a b c:Nat):D.ncells (.slo n a b c)=1:=rfl
theorem aD9(n:Nat):D.ncells (.xl n)=1:=rfl
theorem aD1(k:Nat)(es:List D):D.ncells (.xs k es)=1:=rfl
theorem aEm(n a b c:Nat):D.cells (.slo n a b c)= [.slo n a b c]:=rfl
theorem aIk(n:Nat):D.cells (.xl n)= [.xl n]:=rfl
theorem aHs(k:Nat)(es:List D):D.cells (.xs k es)= [.xs k es]:=rfl
theorem aYe(x:Value):D.arr (.v x)=true:=rfl
theorem aUb(es:List D):D.arr (.sl false es)=true:=rfl
theorem aRw(cs:List D):D.arr (.agg cs)=cs.all D.flat:=rfl
theorem aUd(x:Value):D.flat (.v x)=true:=rfl
theorem aPe(es:List D):D.flat (.sl false es)=true:=rfl
theorem aHv(n o:Nat):D.flat (.ref n o)=true:=rfl
def Hi:List (Nat×List D)->List (List D)->List (List D)
 | [],l=>l
 | (n,c)::r,l=>(Hi r l).set n c
theorem lE(l:List (List D)):Hi [] l=l:=rfl
theorem jP(n:Nat)(c:List D)(r:List (Nat×List D))(l:List (List D)):Hi ((n,c)::r) l=(Hi r l).set n c:=rfl
theorem kI (F:α->List (Nat×Slot))(M N:α->List (Nat×List D))(W:List Nat)(p:α->Prop)(m:α->Nat)(x0:α) 
  (hl:mW W l=l2) (hF:Ao (Hi (M x0) loc).length (eK l) (F x0++l2)) (hG:Hi (M x0) loc=loc) (hH:Hi (N x0) obj=obj) (hp:p x0)
  (h:∀x,p x->fD rr dfr P body (Dl (fun x=>St.mk' n (F x++l2) (Hi (M x) loc) (Hi (N x) obj)) p m x Q) (St.mk' n (F x++l2) (Hi (M x) loc) (Hi (N x) obj))):fD rr dfr P (.loop body) Q (St.mk' n l loc obj):=
 nW F (fun x=>Hi (M x) loc) (fun x=>Hi (N x) obj) W p m x0 hl hF hG hH hp h
theorem aFm (l:List α)(a:α):(l++ [a])[l.length]?=some a:=by simp
theorem tD (l:List α)(a b:α):(l++ [a]).set l.length b=l++ [b]:=by simp
def Cr:List Nat->List (Nat×Slot)->List (Nat×Slot)
 | [],_=> []
 | t::r,l=>(t,eK l t)::Cr r l
theorem aGf(l:List (Nat×Slot)):Cr [] l= []:=rfl
theorem Lg(t:Nat)(r:List Nat)(l:List (Nat×Slot)):Cr (t::r) l=(t,eK l t)::Cr r l:=rfl
theorem Pg(l:List (Nat×Slot))(u:Nat):∀K:List Nat,eK (Cr K l) u=eK l u\/eK (Cr K l) u= .any
 | []=> .inr rfl
 | t::r=>by
  rw [Lg,sT];split
  .rename_i h;subst h;exact .inl rfl
  exact Pg l u r
theorem aJv (K:List Nat) {c:Code} (hl:Cr K l=l2)(h:fD rr dfr P c Q (St.mk' n l2 loc obj)):fD rr dfr P c Q (St.mk' n l loc obj):=by
 subst hl;intro w0 g0 w g tmps hf hok hn;refine h w0 g0 w g tmps hf ⟨hok.mem,hok.xlt,fun t=>?_,hok.ll,hok.loc,hok.ol,hok.obj⟩ hn;have hs:=hok.slot t;show SlotOk w g t (eK (Cr K l) t) _
 rcases Pg l t K with e | e
 .rw [e];exact hs
 rw [e];exact⟨.any _,.flat _ _ _ rfl⟩
theorem sO (ts k:Nat) {es:List D} {c:Code} (hs:eK l ts= .d (.xs k es))(hk0:0<k)
  (h:∀(cap:Nat) (rest:List D),es.length<=cap->cap<=maxLen->rest.length=(cap - es.length) * k->0<k->(∀d∈es,d.ncells=k/\d.arr=true)->fD rr dfr P c Q (St.mk' n ((ts,.d (.slo obj.length 0 es.length cap))::l) loc (obj++ [es.flatMap D.cells++rest]))):fD rr dfr P c Q (St.mk' n l loc obj):=by
 intro w0 g0 w g tmps hf hok hn;obtain⟨cap,rest,g',a1,a2,a3,a4,a5,_,hfr,hok'⟩:=hok.openX ts k es hs hk0;exact h cap rest a1 a2 a3 a4 a5 w0 g0 w g' tmps (hf.trans hfr) hok' hn
theorem iL (ts k:Nat) {es:List D} {c:Code} (hs:eK l ts= .d (.xs k es))(hk0:0<k)
  (h:∀(cap:Nat) (rest:List D),es.length<=cap->cap<=maxLen->rest=List.replicate ((cap - es.length) * k) .any->0<k->(∀d∈es,d.ncells=k/\d.arr=true)->fD rr dfr P c Q (St.mk' n ((ts,.d (.slo obj.length 0 es.length cap))::l) loc (obj++ [es.flatMap D.cells++rest]))):fD rr dfr P c Q (St.mk' n l loc obj):=by
 intro w0 g0 w g tmps hf hok hn;obtain⟨cap,rest,g',a1,a2,a3,a4,a5,_,hfr,hok'⟩:=hok.openX2 ts k es hs hk0;exact h cap rest a1 a2 a3 a4 a5 w0 g0 w g' tmps (hf.trans hfr) hok' hn
theorem fI (ts k m len cap:Nat)(es cs:List D) {c:Code} (hs:eK l ts= .d (.slo m 0 len cap))(hm:obj[m]?=some cs)(hk:0<k)(hcs:cs.length=cap * k)(hl:es.length=len)
  (hes:∀d∈es,d.ncells=k/\d.arr=true) (he:es.flatMap D.cells<+:cs) (h:fD rr dfr P c Q (St.mk' n ((ts,.d (.xs k es))::l) loc (obj.set m []))):fD rr dfr P c Q (St.mk' n l loc obj):=by
 intro w0 g0 w g tmps hf hok hn;obtain⟨g',_,hfr,hok'⟩:=hok.closeX ts k m len cap es cs hs hm hk hcs hl hes he;exact h w0 g0 w g' tmps (hf.trans hfr) hok' hn
theorem aNl (f:α->D)(l:List α)(k:Nat)(h:k<l.length):(l.map f).getD k .any=f l[k]:=by
 simp [List.getD,h]
theorem Nc (f:α->D)(l:List α)(k:Nat)(h:k<l.length):(l.map f)[k]?=some (f l[k]):=by
 simp [h]
theorem aQb(n:Int):inR .i64 n=(-9223372036854775808<=n/\n<=9223372036854775807):=by
 unfold inR;rfl
theorem aT4(n:Int):inR .u8 n=(0<=n/\n<=255):=by
 unfold inR;rfl
end
theorem aKg:Sy []=true:=rfl
theorem aFf(r:List (Option Holder)):Sy (none::r)=Sy r:=by simp [Sy]
theorem aDk(h:Holder)(r:List (Option Holder)):Sy (some h::r)=(!r.contains (some h) && Sy r):=by
 simp only [Sy,uS,id,gY,Bool.decide_and,List.contains_eq_mem];congr 1;rw [<- decide_not];congr 1;simp [oU]
theorem aF5:maxLen=9223372036854775807:=rfl
theorem aR3(n:Nat)(l:List (Nat×Slot))(loc obj:List (List D)):({ n:=n,env:=eK l,loc:=loc,obj:=obj } :St)=St.mk' n l loc obj:=rfl
def Hh:Slot->Slot
 | .d x=> .d x.strip
 | s=>s
def pM:List Nat->List (Nat×Slot)->List (Nat×Slot)
 | [],l=>l
 | t::r,l=>(t,Hh (eK l t))::pM r l
theorem Ig(l:List (Nat×Slot))(u:Nat):∀ts:List Nat,eK (pM ts l) u=if u∈ts then Hh (eK l u)else eK l u
 | []=>by simp [pM]
 | t::r=>by
  rw [pM,sT,Ig l u r];by_cases h:u=t
  .subst h;simp
  simp [h]
theorem rM(l:List (Nat×Slot))(ts:List (Option Nat)):gS ts (eK l)=eK (pM (ts.filterMap id) l):=by
 funext u;rw [Ig];by_cases h:some u∈ts
 .have h1:ts.contains (some u)=true:=by simpa using h
  have h2:u∈ts.filterMap id:=by simpa using h
  simp only [gS,h1,aU,aK h2,Hh];split <;> simp_all
 have h1:ts.contains (some u)=false:=by simpa using h
 have h2:¬u∈ts.filterMap id:=by simpa using h
 simp only [gS,h1,aD h2];rfl
theorem Xx {d:Nat} {args:List Operand} :pU P (some d) f args (St.mk' n l loc obj) K=
  ((args.filterMap cO).Nodup/\(∀x∈args,Ap ((St.mk' n l loc obj).rdS x)=true/\((St.mk' n l loc obj).rd x).plain=true)/\
   Ct P f (args.map (wS (St.mk' n l loc obj))) obj (fun r σ'=>K (St.mk' n ((d,.d r)::pM (args.filterMap cO) l) loc σ'))):=by
 unfold pU;have e:(args.map cO).filterMap id=args.filterMap cO:=by rw [Fh];rfl
 simp only [Ix,Jc,Je,aBw,rM,e];rfl
theorem Vp(l:List (Nat×Slot)):pM [] l=l:=rfl
theorem Qw(t:Nat)(r:List Nat)(l:List (Nat×Slot)):pM (t::r) l=(t,Hh (eK l t))::pM r l:=rfl
theorem aIv(x:D):Hh (.d x)= .d x.strip:=rfl
theorem Xj(a b:Nat):Hh (.lref a b)= .lref a b:=rfl
theorem aGg:List.filterMap cO []= []:=rfl
theorem aGz(t:Tmp)(r:List Operand):List.filterMap cO (.tmp t::r)=t::List.filterMap cO r:=rfl
theorem Vy(v:Value)(r:List Operand):List.filterMap cO (.const v::r)=List.filterMap cO r:=rfl
theorem aAu(v:FuncId)(r:List Operand):List.filterMap cO (.func v::r)=List.filterMap cO r:=rfl
theorem Rl {d:Nat} :
  Ah P c (some d) (.call ⟨.value (.func f),args,ts⟩) .pureT (St.mk' n l loc obj) K=
  ((args.toList.filterMap cO).Nodup/\(∀x∈args.toList,Ap ((St.mk' n l loc obj).rdS x)=true/\((St.mk' n l loc obj).rd x).plain=true)/\
   ∃r,(∀σ,Ct P f (args.toList.map (wS (St.mk' n l loc obj))) σ fun r' σ'=>r'=r/\σ'=σ)/\K (St.mk' n ((d,.d r)::pM (args.toList.filterMap cO) l) loc obj)):=by
 have e:(args.toList.map cO).filterMap id=args.toList.filterMap cO:=by rw [Fh];rfl
 simp only [Ah,Ix,Jc,Je,aBw,rM,e];rfl
theorem Xi {d:Nat} :
  Ah P c (some d) (.call ⟨.value (.func f),args,ts⟩) .detT (St.mk' n l loc obj) K=
  ((args.toList.filterMap cO).Nodup/\(∀x∈args.toList,Ap ((St.mk' n l loc obj).rdS x)=true/\((St.mk' n l loc obj).rd x).plain=true)/\
   ∃r σ0,(Ct P f (args.toList.map (wS (St.mk' n l loc obj))) obj fun r' σ'=>r'=r/\σ'=σ0)/\K (St.mk' n ((d,.d r)::pM (args.toList.filterMap cO) l) loc σ0)):=by
 have e:(args.toList.map cO).filterMap id=args.toList.filterMap cO:=by rw [Fh];rfl
 simp only [Ah,Ix,Jc,Je,aBw,rM,e];rfl
theorem aUn {f:Fl} :Ah P c d op (.op f) st K=(lX op=false/\pX c d st op=f/\jE P c d op st K):=rfl
theorem aM9 :Ah P c d (.call ⟨.value (.func f),args,ts⟩) .pure st K=
  (nJ args.toList st/\∃r,(∀σ,Ct P f (iK args.toList st) σ fun r' σ'=>r'=r/\σ'=σ)/\K (st.put d (.d r))):=rfl
def aV1(P:Program)(dst:Option Tmp)(d:D)(args:List Operand)(st:St)(K:St->Prop):Prop:=match d with
 | .clo (.func fid) first caps=>(∀d∈first++caps,d.plain=true)/\nJ args st/\∃r,(∀σ,Ct P fid (first.map D.strip++iK args st++caps.map D.strip) σ fun r' σ'=>r'=r/\σ'=σ)/\K (st.put dst (.d r))
 | _=>False
theorem aGc {f:Operand} :Ah P c d (.call ⟨.value f,args,ts⟩) .pureC st K=aV1 P d (st.rd f) args.toList st K:=rfl
theorem aRo {fid:FuncId} {first caps:List D} {args:List Operand} :aV1 P dst (.clo (.func fid) first caps) args st K=((∀d∈first++caps,d.plain=true)/\nJ args st/\∃r,(∀σ,Ct P fid (first.map D.strip++iK args st++caps.map D.strip) σ fun r' σ'=>r'=r/\σ'=σ)/\K (st.put dst (.d r))):=rfl
theorem aMx :Ah P c d (.call ⟨.value (.func f),args,ts⟩) .read st K=
  (nJ args.toList st/\∃r,(Ct P f (iK args.toList st) st.obj fun r' σ'=>r'=r/\σ'=st.obj)/\K (st.put d (.d r))):=rfl
theorem aUc :Ah P c d (.call ⟨.value (.func f),args,ts⟩) .nd st K=
  ∃Q,(nJ args.toList st/\Ct P f (iK args.toList st) st.obj Q/\∃r σ0,Q r σ0)/\∀r σ0,Q r σ0->K (({ st with obj:=σ0 } :St).put d (.d r)):=rfl
theorem aE3 :Ah P c d (.call ⟨.value (.func f),args,ts⟩) .readT st K=
  (nJ args.toList st/\∃r,(∀J,Ct P f (iK args.toList st) (st.obj++J) fun r' σ'=>r'=r/\σ'=st.obj++J)/\K (st.put d (.d r))):=rfl
theorem aI2 :Ah P c d (.call ⟨.value (.func f),args,ts⟩) .detA st K=
  (nJ args.toList st/\∃r J,(Ct P f (iK args.toList st) st.obj fun r' σ'=>r'=r/\σ'=st.obj++J)/\K (({ st with obj:=st.obj++J } :St).put d (.d r))):=rfl
theorem aOz :Ah P c d (.call ⟨.value (.func f),args,ts⟩) .det st K=
  (nJ args.toList st/\∃r σ0,(Ct P f (iK args.toList st) st.obj fun r' σ'=>r'=r/\σ'=σ0)/\K (({ st with obj:=σ0 } :St).put d (.d r))):=rfl
theorem aCz {a b:Code} {s:Slot} (hs:eK l t=s)
  (h:Bu s.toD (fD rr dfr P a Q (St.mk' n ((t,.d (.bool true))::l) loc obj)) (fD rr dfr P b Q (St.mk' n ((t,.d (.bool false))::l) loc obj))):fD rr dfr P (.cond (.tmp t) a b) Q (St.mk' n l loc obj):=by
 unfold Bu at h;split at h
 .rename_i v hv;have hs':eK l t= .d (.v (.bool v)):=by
   rw [hs];cases s with
   | d d=>simp only [Slot.toD] at hv;rw [hv]
   | lref n o=>simp [Slot.toD] at hv
  rw [Lo hs'];cases v with
  | true=>exact bA (t:=true) (by simp [St.rd,St.rdS,sT,St.mk']) (fun _=>h.1 rfl) (fun h=>by cases h)
  | false=>exact bA (t:=false) (by simp [St.rd,St.rdS,sT,St.mk']) (fun h=>by cases h) (fun _=>h.2 rfl)
 exact h.elim
def sU (o : Oper) : Oper := ⟨o.dst, o.op, 0, "", #[], o.guard⟩
theorem rB:List.map sU []= []:=rfl
theorem oY (d : Option Tmp) (op : Op) (ty : TypeId) (pos : String) (after : Array Edge) (g : Option (Nat × Bool)) (r : List Oper) : List.map sU (⟨d, op, ty, pos, after, g⟩ :: r) = ⟨d, op, 0, "", #[], g⟩ :: List.map sU r := rfl
theorem Jw :∀(r:List Oper) (st:St),qK P c all (r.map sU) st K=qK P c all r st K
 | [],_=>rfl
 | o :: r, st => by
  have ih:(fun st'=>qK P c all (r.map sU) st' K)=fun st'=>qK P c all r st' K:=funext fun st'=>Jw r st';show qK P c all (sU o::r.map sU) st K=_
  unfold qK;simp only [sU,ih];split
  .rfl
  split
  .split
   .rw [Jw r];rfl
   rfl
  rfl
theorem Hg :∀(r:List Oper) (ks:List DK) (st:St),kA P c all (r.map sU) ks st K=kA P c all r ks st K
 | [],_,_=>rfl
 | _::_, [],_=>rfl
 | o :: r, k :: ks, st => by
  have ih:(fun st'=>kA P c all (r.map sU) ks st' K)=fun st'=>kA P c all r ks st' K:=funext fun st'=>Hg r ks st';show kA P c all (sU o::r.map sU) (k::ks) st K=_
  unfold kA;simp only [sU,ih];congr 1;split
  .rfl
  split
  .split
   .rw [Hg r]
   rfl
  rfl
theorem tW {id:Nat} (he:ops.map sU=ops')(h:∀all:List Oper,(∀j,aN all j=aN ops j)->∀K:St->Prop,(∀s,Q .normal s->K s)->qK P c all ops' st K):fD rr dfr P (.region id ops.toArray false) Q st:=
 aA7 fun K hK=>by
  have:=h ops (fun _=>rfl) K hK
  rwa [<- he,Jw] at this
theorem Oy {id:Nat} (ks:List DK) (hm:P.follows .mixedOrders=true)(hok:Kf c ops ks=true)(he:ops.map sU=ops')
  (h:∀all:List Oper,(∀j,aN all j=aN ops j)->∀K:St->Prop,(∀s,Q .normal s->K s)->kA P c all ops' ks st K):fD rr dfr P (.region id ops.toArray true) Q st:=
 aNa ks hm hok fun K hK=>by
  have:=h ops (fun _=>rfl) K hK
  rwa [<- he,Hg] at this
def aBa:D->Prop
 | .v (.slice none 0 0)=>True
 | _=>False
def Ks(x y:D):Prop:=y=x\/(x.plain=true/\y=x.strip)\/(aBa x/\(y= .sl false []\/y= .sl true []))
theorem Yk:aBa (.v (.slice none 0 0))=True:=rfl
def oM:List D->List D->Prop
 | [], []=>True
 | a::r,b::q=>Ks a b/\oM r q
 | _,_=>False
theorem iP {b:List D} (h:a=b):oM a b:=by
 subst h;induction a with
 | nil=>trivial
 | cons x r ih=>exact⟨.inl rfl,ih⟩
theorem Kj:∀ {a b:List D},oM a b->a.length=b.length
 | [], [],_=>rfl
 | _::_,_::_,h=>by simp [Kj h.2]
 | [],_::_,h=>h.elim
 | _::_, [],h=>h.elim
theorem Lq:∀ {a b:List D},oM a b->∀(i:Nat) (y:D),b[i]?=some y->∃x,a[i]?=some x/\Ks x y
 | x::_,_::_,h,0,y,hy=>by simp at hy;subst hy;exact⟨x,rfl,h.1⟩
 | _::_,_::_,h,i+1,y,hy=>by simpa using Lq h.2 i y (by simpa using hy)
 | [], [],_,_,_,hy=>by simp at hy
 | [],_::_,h,_,_,_=>h.elim
 | _::_, [],h,_,_,_=>h.elim
theorem Ct.of_le {a':List D} {σ σ':List (List D)} {Q:D->List (List D)->Prop} (h:Ct P f a σ Q)(e:oM a' a)(e2:σ'=σ):Ct P f a' σ' Q:=by
 subst e2;refine⟨h.1,fun w g vs hs hb ho=>h.2 w g vs (by rw [hs,Kj e]) hb ⟨ho.mem,ho.xlt,fun t=>?_,ho.ll,ho.loc,ho.ol,ho.obj⟩⟩;have hsl:=ho.slot t;simp only [St.ofArgs] at hsl |-;unfold fT at hsl |-;cases hy:a[t]? with
 | none=>exact⟨.any _,.flat _ _ _ rfl⟩
 | some y =>
  obtain⟨x,hx,hle⟩:=Lq e t y hy;rw [hx] at hsl;rcases hle with rfl | ⟨hp,rfl⟩ | ⟨hn,hy⟩
  .exact hsl
  .exact rW hsl.1 hp t
  have hxn:x= .v (.slice none 0 0):=by
   unfold aBa at hn;split at hn
   .rfl
   exact hn.elim
  subst hxn;obtain⟨hr,_⟩:=hsl;have hv:=hr.vEq;rcases hy with rfl | rfl
  .exact⟨by rw [hv];exact .nil _,.flat _ _ _ rfl⟩
  exact⟨by rw [hv];exact .nil _,.sl _ _ _ (.inl ⟨_,_,hv⟩)⟩
theorem Ea:∀(sets:List (Nat×Slot)) (l:List (Nat×Slot)),gA sets (eK l)=eK (sets.reverseAux l)
 | [],l=>rfl
 | (a,s)::r,l=>by
  show gA r (fun u=>if u=a then s else eK l u)=_
  have:(fun u=>if u=a then s else eK l u)=eK ((a,s)::l):=by funext u;rw [sT]
  rw [this,Ea r];rfl
theorem aUa(n:Nat)(l:List (Nat×Slot))(loc obj:List (List D))(sets:List (Nat×Slot))(ob:Option (List (List D))):(St.mk' n l loc obj).upd ⟨sets,none,ob⟩=St.mk' n (sets.reverseAux l) loc (ob.getD obj):=by
 show({ n:=n,env:=gA sets (eK l),loc:=loc,obj:=ob.getD obj } :St)=_
 rw [Ea];rfl
theorem Xw(l:List (Nat×Slot)):List.reverseAux [] l=l:=rfl
theorem Tw(a:Nat×Slot)(r l:List (Nat×Slot)):List.reverseAux (a::r) l=List.reverseAux r (a::l):=rfl
def exS(R:pW)(K:List (Nat×Slot)->Option (List (List D))->Prop):Prop:=∃sets ob,R sets ob/\K sets ob
@[congr] theorem aZx {R':pW} {K:List (Nat×Slot)->Option (List (List D))->Prop} (h:R=R'):exS R K=exS R' K:=by rw [h]
theorem aUo {alt:Bool} :vcY P alt dst op st K=exS (fun sets ob=>yR P alt dst op st.rdS (if(flY alt op).rO=true then st.obj else []) sets ob) (fun sets ob=>K (st.upd ⟨sets,none,ob⟩)):=rfl
theorem aS8 {S:List (Nat×Slot)} {O:Option (List (List D))} {K:List (Nat×Slot)->Option (List (List D))->Prop} :exS (fun sets ob=>sets=S/\ob=O) K=K S O:=by
 apply propext;constructor
 .rintro⟨_,_,⟨rfl,rfl⟩,h⟩;exact h
 intro h;exact⟨_,_,⟨rfl,rfl⟩,h⟩
theorem aRl {C:Prop} {K:List (Nat×Slot)->Option (List (List D))->Prop} :exS (fun sets ob=>C/\R sets ob) K=(C/\exS (fun sets ob=>R sets ob) K):=by
 apply propext;constructor
 .rintro⟨_,_,⟨h1,h2⟩,h⟩;exact⟨h1,_,_,h2,h⟩
 rintro⟨h1,_,_,h2,h⟩;exact⟨_,_,⟨h1,h2⟩,h⟩
theorem aS4 {R:α->pW} {K:List (Nat×Slot)->Option (List (List D))->Prop} :exS (fun sets ob=>∃x,R x sets ob) K=∃x,exS (fun sets ob=>R x sets ob) K:=by
 apply propext;constructor
 .rintro⟨_,_,⟨x,h2⟩,h⟩;exact⟨x,_,_,h2,h⟩
 rintro⟨x,_,_,h2,h⟩;exact⟨_,_,⟨x,h2⟩,h⟩
theorem aUz {S:pW} {K:List (Nat×Slot)->Option (List (List D))->Prop} :exS (fun sets ob=>R sets ob\/S sets ob) K=(exS (fun sets ob=>R sets ob) K\/exS (fun sets ob=>S sets ob) K):=by
 apply propext;constructor
 .rintro⟨_,_,h1 | h1,h⟩
  .exact .inl ⟨_,_,h1,h⟩
  exact .inr ⟨_,_,h1,h⟩
 rintro(⟨_,_,h1,h⟩ | ⟨_,_,h1,h⟩)
 .exact⟨_,_,.inl h1,h⟩
 exact⟨_,_,.inr h1,h⟩
theorem aXm {K:List (Nat×Slot)->Option (List (List D))->Prop} :exS (fun _ _=>False) K=False:=by
 apply propext;exact⟨fun⟨_,_,h,_⟩=>h,False.elim⟩
attribute [simp] aUo aS8 aRl aS4 aUz aXm
attribute [simp] aUa Xw Tw isY Hj Ru yR yA1 yA2 Ga Pv aEd aGp yL Og aD4 flY Xh Du aN9 Yk wC vP zT Ki tC Oz aFk bnE Bool.true_or Bool.false_or
theorem aGj(cs:List D):D.strip (.tup cs)= .tup (cs.map D.s2):=rfl
attribute [simp] aGj D.plain
theorem aTb(n:Nat)(cs:List D):Ae true n cs=if n<=cs.length then some (.agg (cs.take n))else none:=rfl
theorem aT0(n:Nat)(cs:List D):Ae false n cs=cs.head?:=rfl
theorem bH(cs:List D)(off:Nat)(ds:List D):dZ cs off ds=cs.take off++ds++cs.drop (off+ds.length):=rfl
attribute [simp low] aTb aT0 bH
attribute [simp] Rl Xi aUn aM9 aGc aRo aMx aOz aE3 aI2 aUc
attribute [simp] aEc aL1 aJs aUe aWq aYh aU8 aTp aWz aWi aT6 aE8 aNb aKu aE0 aLm aJg Yu aD9 aD1 aEm aIk aHs aYe aUb aRw aUd aPe aHv aFm tD lE jP Xx Vp Qw aIv Xj aGg aGz Vy aAu
attribute [simp] aR3 List.getElem?_cons_zero Option.bind_some aBw Ix Jc Je Nu Ov aOv aI0 aLb aMw aJz aBr aFo aJ7 aUv aMz yK aV7 aM1
 aR2 aN7 Zd aPq aO4 aQp aJ2 aFj aG6 aHl aDt aGn aZh aWs aUq aTy aVk aTn aZv aWm aUi aTg aTv
 aQ5 aJu aD0 aEp aHk aDw aE5 aOw aI4 aF8 aFv aFa aGr aKz aDr Yx Ye aQ8 aIe aF4 aDp
 eJ aO0 aMe aIi aDh aVa aR1 aNo aH6 aQl aSb aSx aTt aS3 aU5 aUt aHj aUy aTk aO2 aJc aMo tG jE Qs aP8 dV vcX Gu lV tA vM qG iW flX zS Km Xn kX wQ Ic aOt Ih Ii lW jY nB nD wA vR gN qE Tn wF qN
 tX Hq yX vV lU qQ sS Mm tK xA mQ nJ iK wS Ap Ox St.cellsAt St.park Slot.plus Slot.isAddr aBp D.ofList
 aGs aAm aQz aWk aO1 aKv mW aNl Nc aQb aT4 aJ3 lX pX kG uN Mf Hk aKg aFf aDk aF5
end Go.Vm
