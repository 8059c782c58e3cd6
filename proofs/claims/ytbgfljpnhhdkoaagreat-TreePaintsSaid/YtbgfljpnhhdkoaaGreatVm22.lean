import Derived.Test.YtbgfljpnhhdkoaaGreatVm21
set_option linter.all false
namespace Go.Vm
open Go
variable {A B:Prop}{K:St->Prop}{P:Program}{Q:Exit->St->Prop}{R:pX}{a:List D}{after:Array Edge}{all ops ops' r:List Oper}{args:Array Operand}{b want:Bool}{body y:Code}{c:Cfg}{d dst:Option Tmp}{f:FuncId}{i j n t:Nat}{k:DK}{ks:List DK}{l l2:List (Nat×Slot)}{loc obj:List (List D)}{op:Op}{pos:String}{s st:St}{ts:Array TypeId}{ty:TypeId}{α:Type}
variable {rr:Option Nat} {dfr:List Deferred}
section
theorem bY (h:fA rr dfr P y Q s):uX rr dfr P y Q .normal s:=h
theorem Di (h:Q (.exit i) s):uX rr dfr P y Q (.exit i) s:=h
theorem aMf (h:Q .ret s):uX rr dfr P y Q .ret s:=h
theorem mP (h:Q .normal s):rR i Q .normal s:=h
theorem yK (h:Q .normal s):rR i Q (.exit i) s:=by simpa [rR] using h
theorem aFf (h:Q .ret s):rR i Q .ret s:=h
theorem Eb {S:α->St} {p:α->Prop} {m:α->Nat} {x:α} (h:Q (.exit i) s):Cj S p m x Q (.exit i) s:=h
def Bp(d:D)(A B:Prop):Prop:=match d with
 | .v (.bool t)=>(t=true->A)/\(t=false->B)
 | _=>False
theorem aE (h:∀K':St->Prop,(∀s,qV P c all r s K->K' s)->dOk d st/\jE P c d op st K'):qV P c all (⟨d,op,ty,pos,after,none⟩::r) st K:=
 h _ fun _ h=>h
theorem aF3 (n:Nat) (h:∀K':St->Prop,(∀s,qV P c all (r.drop n) s K->K' s)->qV P c all (r.take n) st K'):qV P c all r st K:=by
 have go:∀(n:Nat) (r:List Oper) (st:St),qV P c all (r.take n) st (fun s=>qV P c all (r.drop n) s K)->qV P c all r st K:=by
  intro n;induction n with
  | zero=>intro r st h;exact h
  | succ n ih =>
   intro r st h;cases r with
   | nil=>exact h
   | cons o r =>
    simp only [Hk,List.drop_succ_cons] at h;unfold qV at h |-;split at h
    .rename_i hg;have hd:=h.1;refine⟨hd,?_⟩;exact Az (fun s hs=>ih r s hs) h.2
    rename_i j want hg;split at h
    .split at h
     .exact⟨fun hb=>⟨(h.1 hb).1,Az (fun s hs=>ih r s hs) (h.1 hb).2⟩,fun hb=>⟨(h.2 hb).1,ih r _ (h.2 hb).2⟩⟩
     exact h.elim
    exact h.elim
 exact go n r st (h _ fun _ h=>h)
theorem aV8 (hg:aK all j=some t)(hs:st.env t= .d (.v (.bool b)))
  (h1:b=want->∀K':St->Prop,(∀s,qV P c all r s K->K' s)->dOk d st/\jE P c d op st K') (h2:b= !want->dOk d st/\qV P c all r (st.put d .und) K):qV P c all (⟨d,op,ty,pos,after,some (j,want)⟩::r) st K:=by
 rw [Po];simp only [hg,hs];exact⟨fun hb=>h1 hb _ fun _ h=>h,h2⟩
theorem aTd (hg:aK all j=some t)(hs:st.env t= .d (.v (.bool b)))(hb:b=want)
  (h1:∀K':St->Prop,(∀s,qV P c all r s K->K' s)->dOk d st/\jE P c d op st K'):qV P c all (⟨d,op,ty,pos,after,some (j,want)⟩::r) st K:=
 aV8 hg hs (fun _=>h1) fun h=>(by rw [hb] at h;cases want <;> cases h)
theorem Lq (hs:eI l t= .d (.v (.bool b))):St.mk' n l loc obj=St.mk' n ((t,.d (.bool b))::l) loc obj:=by
 unfold St.mk';congr 1;funext u;simp only [eI];split
 .rename_i e;rw [e,hs]
 rfl
theorem aN1 (t:Nat) {s:Slot} (hs:eI l t=s)
  (h:Bp s.toD (qV P c all r (St.mk' n ((t,.d (.bool true))::l) loc obj) K) (qV P c all r (St.mk' n ((t,.d (.bool false))::l) loc obj) K)):qV P c all r (St.mk' n l loc obj) K:=by
 unfold Bp at h;split at h
 .rename_i b hb;have hs':eI l t= .d (.v (.bool b)):=by
   rw [hs];cases s with
   | d d=>simp only [Slot.toD] at hb;rw [hb]
   | lref n o=>simp [Slot.toD] at hb
  rw [Lq hs'];cases b
  .exact h.2 rfl
  exact h.1 rfl
 exact h.elim
def aTh(P:Program)(c:Cfg)(all r:List Oper)(K:St->Prop):St->Prop:=fun st=>qV P c all r st K
theorem aK1 :aTh P c all r K st=qV P c all r st K:=rfl
theorem aOm :qV P c all (⟨d,op,ty,pos,after,none⟩::r) st K=(dOk d st/\jE P c d op st (aTh P c all r K)):=rfl
def aJk(P:Program)(c:Cfg)(all r:List Oper)(ks:List DK)(K:St->Prop):St->Prop:=fun st=>lU P c all r ks st K
theorem aEo :aJk P c all r ks K st=lU P c all r ks st K:=rfl
theorem aLz :lU P c all (⟨d,op,ty,pos,after,none⟩::r) (k::ks) st K=(dOk d st/\Ba P c d op k st (aJk P c all r ks K)):=rfl
@[congr] theorem aXb {op:BinOp} {t:TypeId} {x y x' y':Slot} {K:D->Prop} (hx:x=x')(hy:y=y'):wI P op t x y K=wI P op t x' y' K:=by rw [hx,hy]
@[congr] theorem aVz {op:BinOp} {k:IntKind} {a b a' b':Int} {K:D->Prop} (hx:a=a')(hy:b=b'):Hu op k a b K=Hu op k a' b' K:=by rw [hx,hy]
@[congr] theorem aVs {op:BinOp} {a b a' b':ByteArray} {K:D->Prop} (hx:a=a')(hy:b=b'):Ih op a b K=Ih op a' b' K:=by rw [hx,hy]
@[congr] theorem aWg {t:TypeId} {b a' b':List D} {K:Bool->Prop} (hx:a=a')(hy:b=b'):wH P t a b K=wH P t a' b' K:=by rw [hx,hy]
@[congr] theorem aX7 {op:UnOp} {x x':D} {K:D->Prop} (hx:x=x'):Il op x K=Il op x' K:=by rw [hx]
def sel(b:Bool)(s r:Slot):Slot:=if b=true then s else r
@[congr] theorem aYe {b':Bool} {s r:Slot} (h:b=b'):sel b s r=sel b' s r:=by rw [h]
theorem aRu {s r:Slot} :sel true s r=s:=rfl
theorem aR1 {s r:Slot} :sel false s r=r:=rfl
theorem Qh(a:Nat)(s:Slot)(r:List (Nat×Slot))(t:Nat):eI ((a,s)::r) t=sel (t==a) s (eI r t):=by
 simp only [eI,sel,Ag]
def gv3(s:Slot)(want:Bool):Option Bool:=Ii s want
def gv2(o:Option Tmp)(st:St)(want:Bool):Option Bool:=match o with
 | some t=>gv3 (st.env t) want
 | none=>none
@[congr] theorem aYi {o o':Option Tmp} (h:o=o'):gv2 o st want=gv2 o' st want:=by rw [h]
theorem aM1(t:Tmp)(st:St)(want:Bool):gv2 (some t) st want=gv3 (st.env t) want:=rfl
theorem aMo(b want:Bool):gv3 (.d (.v (.bool b))) want=some b:=rfl
theorem aPf(want:Bool):gv3 (.d (.tup [])) want=some (!want):=rfl
def aKd(all:List Oper)(j:Nat)(st:St)(want:Bool):Option Bool:=match aK all j with
 | some t=>Ii (st.env t) want
 | none=>none
theorem aQc(all:List Oper)(j:Nat)(st:St)(want:Bool):aKd all j st want=gv2 (aK all j) st want:=rfl
def vcG(g:Option Bool)(want:Bool)(A B:Prop):Prop:=match g with
 | some b=>(b=want->A)/\(b= !want->B)
 | none=>False
@[congr] theorem aVc {g g':Option Bool} (h:g=g'):vcG g want A B=vcG g' want A B:=by rw [h]
theorem aTn :vcG (some true) true A B=A:=by simp [vcG]
theorem aS2 :vcG (some true) false A B=B:=by simp [vcG]
theorem aSy :vcG (some false) true A B=B:=by simp [vcG]
theorem aSx :vcG (some false) false A B=A:=by simp [vcG]
theorem aUd :qV P c all (⟨d,op,ty,pos,after,some (j,want)⟩::r) st K=
  vcG (aKd all j st want) want (dOk d st/\jE P c d op st (aTh P c all r K)) (dOk d st/\qV P c all r (st.put d .und) K):=by
 rw [Po];unfold aKd vcG;split
 .rename_i t ht;simp only [ht];split
  .rename_i h;simp [h];exact fun _=>Iff.rfl
  rename_i h;simp [h]
 rename_i h;simp [h]
def Zg(d:D)(A B:Prop):Prop:=match d with
 | .v (.bool t)=>(t=true->A)/\(t=false->B)
 | _=>False
@[congr] theorem aSr {d d':D} (h:d=d'):Zg d A B=Zg d' A B:=by rw [h]
theorem aT0 :Zg (.v (.bool true)) A B=A:=by simp [Zg]
theorem aUb :Zg (.v (.bool false)) A B=B:=by simp [Zg]
theorem aE1 {c a b:Operand} :Br dst c a b st K=Zg (st.rd c) ((st.rd a).plain=true/\K (st.put dst (.d (st.rd a).strip))) ((st.rd b).plain=true/\K (st.put dst (.d (st.rd b).strip))):=rfl
theorem Xd {K':St->Prop} (hk:∀s,K s->K' s)(h:Ba P c dst op k st K):Ba P c dst op k st K':=by
 unfold Ba at *;cases k with
 | op f=>exact⟨h.1,h.2.1,Az hk h.2.2⟩
 | pure=>
  simp only at *;split at h
  .obtain⟨h1,r,h2,h3⟩:=h;exact⟨h1,r,h2,hk _ h3⟩
  exact h
 | pureC =>
  simp only at *;split at h
  .split at h
   .rename_i hf;obtain⟨h0,h1,r,h2,h3⟩:=h;exact⟨h0,h1,r,h2,hk _ h3⟩
   exact h.elim
  exact h
 | read=>
  simp only at *;split at h
  .obtain⟨h1,r,h2,h3⟩:=h;exact⟨h1,r,h2,hk _ h3⟩
  exact h
 | det=>
  simp only at *;split at h
  .obtain⟨h1,r,σ0,h2,h3⟩:=h;exact⟨h1,r,σ0,h2,hk _ h3⟩
  exact h
 | readT=>
  simp only at *;split at h
  .obtain⟨h1,r,h2,h3⟩:=h;exact⟨h1,r,h2,hk _ h3⟩
  exact h
 | nd=>
  obtain⟨Q,h1,h2⟩:=h;exact⟨Q,h1,fun r σ0 hq=>hk _ (h2 r σ0 hq)⟩
 | detA=>
  simp only at *;split at h
  .obtain⟨h1,r,J,h2,h3⟩:=h;exact⟨h1,r,J,h2,hk _ h3⟩
  exact h
 | pureT=>
  simp only at *;split at h
  .obtain⟨h0,h1,r,h2,h3⟩:=h;exact⟨h0,h1,r,h2,hk _ h3⟩
  exact h
 | detT=>
  simp only at *;split at h
  .obtain⟨h0,h1,r,σ0,h2,h3⟩:=h;exact⟨h0,h1,r,σ0,h2,hk _ h3⟩
  exact h
theorem uK :lU P c all [] ks st K=K st:=by unfold lU;rfl
theorem aQk :lU P c all (⟨d,op,ty,pos,after,some (j,want)⟩::r) (k::ks) st K=
  (dOk d st/\vcG (aKd all j st want) want (Ba P c d op k st (aJk P c all r ks K)) (lU P c all r ks (st.put d .und) K)):=by
 conv=>lhs;unfold lU
 show(_/\_)=_
 congr 1;simp only;unfold aKd vcG;split
 .rename_i t ht;simp only [ht];split
  .rename_i h;simp [h];exact fun _=>Iff.rfl
  rename_i h;simp [h]
 rename_i h;simp [h]
theorem cF (h:∀K':St->Prop,(∀s,lU P c all r ks s K->K' s)->dOk d st/\Ba P c d op k st K'):lU P c all (⟨d,op,ty,pos,after,none⟩::r) (k::ks) st K:=
 h _ fun _ h=>h
theorem Yl (n:Nat) (hks:n<=ks.length)(h:∀K':St->Prop,(∀s,lU P c all (r.drop n) (ks.drop n) s K->K' s)->lU P c all (r.take n) (ks.take n) st K'):lU P c all r ks st K:=by
 have go : ∀ (n : Nat) (r : List Oper) (ks : List DK) (st : St), n <= ks.length -> lU P c all (r.take n) (ks.take n) st (fun s => lU P c all (r.drop n) (ks.drop n) s K) -> lU P c all r ks st K := by
  intro n;induction n with
  | zero=>intro r ks st _ h;simp only [List.take_zero,zW,uK] at h;exact h
  | succ n ih =>
   intro r ks st hks h;cases ks with
   | nil=>simp at hks
   | cons k ks =>
    cases r with
    | nil=>simp only [List.take_nil,List.drop_nil,uK] at h |-;exact h
    | cons o r =>
     simp only [Hk,List.drop_succ_cons] at h;simp only [bR] at hks;unfold lU at h |-;refine⟨h.1,?_⟩;have h2:=h.2;split at h2
     .exact Xd (fun s hs=>ih r ks s (by omega) hs) h2
     split at h2
     .split at h2
      .exact⟨fun hb=>Xd (fun s hs=>ih r ks s (by omega) hs) (h2.1 hb),fun hb=>ih r ks _ (by omega) (h2.2 hb)⟩
      exact h2.elim
     exact h2.elim
 exact go n r ks st hks (h _ fun _ h=>h)
theorem aFy (t:Nat) {s:Slot} (hs:eI l t=s)
  (h:Bp s.toD (lU P c all r ks (St.mk' n ((t,.d (.bool true))::l) loc obj) K) (lU P c all r ks (St.mk' n ((t,.d (.bool false))::l) loc obj) K)):lU P c all r ks (St.mk' n l loc obj) K:=by
 unfold Bp at h;split at h
 .rename_i b hb;have hs':eI l t= .d (.v (.bool b)):=by
   rw [hs];cases s with
   | d d=>simp only [Slot.toD] at hb;rw [hb]
   | lref n o=>simp [Slot.toD] at hb
  rw [Lq hs'];cases b
  .exact h.2 rfl
  exact h.1 rfl
 exact h.elim
def mZ:List Nat->List (Nat×Slot)->List (Nat×Slot)
 | _, []=> []
 | W,(t,s)::r=>if W.contains t then mZ W r else(t,s)::mZ (t::W) r
theorem aPm(n:Nat)(s:Slot):Tu n s (.d .any)=True:=by
 unfold Tu;split <;> simp_all
theorem aWw(n:Nat)(x:D):Tu n (.d x) (.d x)=True:=by
 cases x with
 | sl o es=>cases o <;> simp [Tu]
 | _=>simp [Tu]
theorem aQ6(n:Nat)(es:List D):Tu n (.d (.sl true es)) (.d (.sl false es))=True:=by
 unfold Tu;simp
theorem aJe(n m o:Nat):Tu n (.lref m o) (.lref m o)=(m<n):=by
 unfold Tu;simp
def Ax(n:Nat)(env:Nat->Slot):List (Nat×Slot)->Prop
 | []=>True
 | (a,s)::r=>Tu n (env a) s/\Ax n env r
theorem aE5(n:Nat)(env:Nat->Slot):Ax n env []=True:=rfl
theorem Yf(n:Nat)(env:Nat->Slot)(a:Nat)(s:Slot)(r:List (Nat×Slot)):Ax n env ((a,s)::r)=(Tu n (env a) s/\Ax n env r):=rfl
theorem wE {env:Nat->Slot} :∀ {l:List (Nat×Slot)},Ax n env l->∀p∈l,Tu n (env p.1) p.2
 | [],_,p,hp=>by simp at hp
 | (a,s)::r,h,p,hp=>by
  rcases bQ.1 hp with rfl | hp
  .exact h.1
  exact wE h.2 p hp
theorem dT (hn:st.n=n)(hl:Ax loc.length st.env l)(hloc:loc<+:st.loc)(hobj:st.obj=obj):Weak st (St.mk' n l loc obj):=
 Tc hn (wE hl) hloc hobj
theorem bA (F:α->List (Nat×Slot))(W:List Nat)(p:α->Prop)(m:α->Nat)(x0:α) 
  (hl:mZ W l=l2) (hF:Ax loc.length (eI l) (F x0++l2)) (hp:p x0)
  (h:∀x,p x->fA rr dfr P body (Cj (fun x=>St.mk' n (F x++l2) loc obj) p m x Q) (St.mk' n (F x++l2) loc obj)):fA rr dfr P (.loop body) Q (St.mk' n l loc obj):=
 Tx (fun x=>St.mk' n (F x++l2) loc obj) p m x0 (Tc rfl (wE hF) (Fm _) rfl) hp h
theorem oW (F:α->List (Nat×Slot))(G H:α->List (List D))(W:List Nat)(p:α->Prop)(m:α->Nat)(x0:α) 
  (hl:mZ W l=l2) (hF:Ax (G x0).length (eI l) (F x0++l2)) (hG:G x0=loc) (hH:H x0=obj) (hp:p x0)
  (h:∀x,p x->fA rr dfr P body (Cj (fun x=>St.mk' n (F x++l2) (G x) (H x)) p m x Q) (St.mk' n (F x++l2) (G x) (H x))):fA rr dfr P (.loop body) Q (St.mk' n l loc obj):=
 Tx (fun x=>St.mk' n (F x++l2) (G x) (H x)) p m x0 (Tc rfl (wE hF) (by rw [hG];exact Fm _) hH.symm) hp h
theorem eG {S:α->St} {p:α->Prop} {m:α->Nat} {x:α} (y:α)(hp:p y)(hm:m y<m x)(hw:Weak s (S y)):Cj S p m x Q .normal s:=⟨y,hp,hm,hw⟩
def aVn {α:Type} (S:α->St)(p:α->Prop)(Q:Exit->St->Prop):Exit->St->Prop
 | .normal,s=>∃y,p y/\Weak s (S y)
 | e,s=>Q e s
theorem Zq(n:Nat):D.strip (.mref n)= .mref n:=rfl
theorem aOf(n:Nat):D.s1 (.mref n)= .mref n:=rfl
theorem aRm(n:Nat):D.s2 (.mref n)= .mref n:=rfl
theorem aAi(n:Nat):D.plain (.mref n)=true:=rfl
theorem aAn(n:Nat):D.solid (.mref n)=true:=rfl
theorem Wx(n:Nat):D.ncells (.mref n)=1:=rfl
theorem Yz(n:Nat):D.cells (.mref n)= [.mref n]:=rfl
theorem aL7(kd:TypeDesc)(c:Nat)(kvs:List (Value×Nat×D)):D.strip (.mo kd c kvs)= .mz:=rfl
theorem aV4(kd:TypeDesc)(c:Nat)(kvs:List (Value×Nat×D)):D.s1 (.mo kd c kvs)= .mz:=rfl
theorem aVw(kd:TypeDesc)(c:Nat)(kvs:List (Value×Nat×D)):D.s2 (.mo kd c kvs)= .mz:=rfl
theorem aH0(kd:TypeDesc)(c:Nat)(kvs:List (Value×Nat×D)):D.plain (.mo kd c kvs)=true:=rfl
theorem aKk(kd:TypeDesc)(c:Nat)(kvs:List (Value×Nat×D)):D.solid (.mo kd c kvs)=true:=rfl
theorem aFu(kd:TypeDesc)(c:Nat)(kvs:List (Value×Nat×D)):D.ncells (.mo kd c kvs)=1:=rfl
theorem aLk(kd:TypeDesc)(c:Nat)(kvs:List (Value×Nat×D)):D.cells (.mo kd c kvs)= [.mo kd c kvs]:=rfl
theorem aE2(n a b:Nat)(l:List Nat):D.strip (.mit n a l b)= .any:=rfl
theorem aUo(n a b:Nat)(l:List Nat):D.s1 (.mit n a l b)= .any:=rfl
theorem aUf(n a b:Nat)(l:List Nat):D.s2 (.mit n a l b)= .any:=rfl
theorem aF6(n a b:Nat)(l:List Nat):D.plain (.mit n a l b)=true:=rfl
theorem aGg(n a b:Nat)(l:List Nat):D.solid (.mit n a l b)=false:=rfl
theorem aKs(n c:Nat)(kd:TypeDesc)(kvs:List (Value×Nat×D)):D.strip (.mp n kd c kvs)= .mref n:=rfl
theorem aWa(n c:Nat)(kd:TypeDesc)(kvs:List (Value×Nat×D)):D.s1 (.mp n kd c kvs)= .mref n:=rfl
theorem aXh(n c:Nat)(kd:TypeDesc)(kvs:List (Value×Nat×D)):D.s2 (.mp n kd c kvs)= .mref n:=rfl
theorem aK8(n c:Nat)(kd:TypeDesc)(kvs:List (Value×Nat×D)):D.plain (.mp n kd c kvs)=true:=rfl
theorem aM2(n c:Nat)(kd:TypeDesc)(kvs:List (Value×Nat×D)):D.solid (.mp n kd c kvs)=true:=rfl
theorem aD3(n c:Nat)(kd:TypeDesc)(kvs:List (Value×Nat×D)):D.ncells (.mp n kd c kvs)=1:=rfl
theorem aLx(n c:Nat)(kd:TypeDesc)(kvs:List (Value×Nat×D)):D.cells (.mp n kd c kvs)= [.mp n kd c kvs]:=rfl
theorem aFg(t:TypeId)(d:D):D.strip (.ifc t d)= .ifc t d:=rfl
theorem aUh(t:TypeId)(d:D):D.s1 (.ifc t d)= .ifc t d:=rfl
theorem aSu(t:TypeId)(d:D):D.s2 (.ifc t d)= .ifc t d:=rfl
theorem aGi(t:TypeId)(d:D):D.plain (.ifc t d)=true:=rfl
theorem aFp(t:TypeId)(d:D):D.solid (.ifc t d)=true:=rfl
theorem Yi(t:TypeId)(d:D):D.ncells (.ifc t d)=1:=rfl
theorem aEe(t:TypeId)(d:D):D.cells (.ifc t d)= [.ifc t d]:=rfl
theorem aIj(n:Nat):D.arr (.mref n)=true:=rfl
attribute [simp] aL7 aV4 aVw aH0 aKk aFu aLk aE2 aUo aUf aF6 aGg Zq aOf aRm aAi aAn Wx Yz aKs aWa aXh aK8 aM2 aD3 aLx aFg aUh aSu aGi aFp Yi aEe aIj
theorem aFr(n a b c:Nat):D.strip (.slo n a b c)= .slo n a b c:=rfl
theorem aHp(n:Nat):D.strip (.xl n)= .xl n:=rfl
theorem aLl(k:Nat)(es:List D):D.strip (.xs k es)= .xl es.length:=rfl
theorem aUl(n a b c:Nat):D.s2 (.slo n a b c)= .slo n a b c:=rfl
theorem aXy(n:Nat):D.s2 (.xl n)= .xl n:=rfl
theorem aW3(k:Nat)(es:List D):D.s2 (.xs k es)= .xl es.length:=rfl
theorem aUr(f:Go.Fn)(a b:List D):D.s2 (.clo f a b)= .clo f a b:=rfl
theorem aVb(n a b c:Nat):D.s1 (.slo n a b c)= .slo n a b c:=rfl
theorem aW5(n:Nat):D.s1 (.xl n)= .xl n:=rfl
theorem aVx(k:Nat)(es:List D):D.s1 (.xs k es)= .xl es.length:=rfl
theorem aTe(f:Go.Fn)(a b:List D):D.s1 (.clo f a b)= .clo f a b:=rfl
theorem aDv(n a b c:Nat):D.plain (.slo n a b c)=true:=rfl
theorem aKu(n:Nat):D.plain (.xl n)=true:=rfl
theorem aK6(k:Nat)(es:List D):D.plain (.xs k es)=true:=rfl
theorem aDi(n a b c:Nat):D.solid (.slo n a b c)=true:=rfl
theorem aLw(n:Nat):D.solid (.xl n)=true:=rfl
theorem aHt(k:Nat)(es:List D):D.solid (.xs k es)=true:=rfl
theorem aA4(n a b c:Nat):D.ncells (.slo n a b c)=1:=rfl
theorem aHd(n:Nat):D.ncells (.xl n)=1:=rfl
theorem aG1(k:Nat)(es:List D):D.ncells (.xs k es)=1:=rfl
theorem aDf(n a b c:Nat):D.cells (.slo n a b c)= [.slo n a b c]:=rfl
theorem aHy(n:Nat):D.cells (.xl n)= [.xl n]:=rfl
theorem aNf(k:Nat)(es:List D):D.cells (.xs k es)= [.xs k es]:=rfl
theorem aWe(x:Value):D.arr (.v x)=true:=rfl
theorem aS3(es:List D):D.arr (.sl false es)=true:=rfl
theorem aQe(cs:List D):D.arr (.agg cs)=cs.all D.flat:=rfl
theorem aTs(x:Value):D.flat (.v x)=true:=rfl
theorem aPz(es:List D):D.flat (.sl false es)=true:=rfl
theorem aM3(n o:Nat):D.flat (.ref n o)=true:=rfl
def Gg:List (Nat×List D)->List (List D)->List (List D)
 | [],l=>l
 | (n,c)::r,l=>(Gg r l).set n c
theorem lL(l:List (List D)):Gg [] l=l:=rfl
theorem jP(n:Nat)(c:List D)(r:List (Nat×List D))(l:List (List D)):Gg ((n,c)::r) l=(Gg r l).set n c:=rfl
theorem kS (F:α->List (Nat×Slot))(M N:α->List (Nat×List D))(W:List Nat)(p:α->Prop)(m:α->Nat)(x0:α) 
  (hl:mZ W l=l2) (hF:Ax (Gg (M x0) loc).length (eI l) (F x0++l2)) (hG:Gg (M x0) loc=loc) (hH:Gg (N x0) obj=obj) (hp:p x0)
  (h:∀x,p x->fA rr dfr P body (Cj (fun x=>St.mk' n (F x++l2) (Gg (M x) loc) (Gg (N x) obj)) p m x Q) (St.mk' n (F x++l2) (Gg (M x) loc) (Gg (N x) obj))):fA rr dfr P (.loop body) Q (St.mk' n l loc obj):=
 oW F (fun x=>Gg (M x) loc) (fun x=>Gg (N x) obj) W p m x0 hl hF hG hH hp h
theorem aFm (l:List α)(a:α):(l++ [a])[l.length]?=some a:=by simp
theorem tA (l:List α)(a b:α):(l++ [a]).set l.length b=l++ [b]:=by simp
def Cv:List Nat->List (Nat×Slot)->List (Nat×Slot)
 | [],_=> []
 | t::r,l=>(t,eI l t)::Cv r l
theorem aG5(l:List (Nat×Slot)):Cv [] l= []:=rfl
theorem Jp(t:Nat)(r:List Nat)(l:List (Nat×Slot)):Cv (t::r) l=(t,eI l t)::Cv r l:=rfl
theorem Od(l:List (Nat×Slot))(u:Nat):∀K:List Nat,eI (Cv K l) u=eI l u\/eI (Cv K l) u= .any
 | []=> .inr rfl
 | t::r=>by
  rw [Jp,tC];split
  .rename_i h;subst h;exact .inl rfl
  exact Od l u r
theorem aIs (K:List Nat) {c:Code} (hl:Cv K l=l2)(h:fA rr dfr P c Q (St.mk' n l2 loc obj)):fA rr dfr P c Q (St.mk' n l loc obj):=by
 subst hl;intro w0 g0 w g tmps hf hok hn;refine h w0 g0 w g tmps hf ⟨hok.mem,hok.xlt,fun t=>?_,hok.ll,hok.loc,hok.ol,hok.obj⟩ hn;have hs:=hok.slot t;show SlotOk w g t (eI (Cv K l) t) _
 rcases Od l t K with e | e
 .rw [e];exact hs
 rw [e];exact⟨.any _,.flat _ _ _ rfl⟩
theorem sE (ts k:Nat) {es:List D} {c:Code} (hs:eI l ts= .d (.xs k es))(hk0:0<k)
  (h:∀(cap:Nat) (rest:List D),es.length<=cap->cap<=maxLen->rest.length=(cap - es.length) * k->0<k->(∀d∈es,d.ncells=k/\d.arr=true)->fA rr dfr P c Q (St.mk' n ((ts,.d (.slo obj.length 0 es.length cap))::l) loc (obj++ [es.flatMap D.cells++rest]))):fA rr dfr P c Q (St.mk' n l loc obj):=by
 intro w0 g0 w g tmps hf hok hn;obtain⟨cap,rest,g',a1,a2,a3,a4,a5,_,hfr,hok'⟩:=hok.openX ts k es hs hk0;exact h cap rest a1 a2 a3 a4 a5 w0 g0 w g' tmps (hf.trans hfr) hok' hn
theorem iQ (ts k:Nat) {es:List D} {c:Code} (hs:eI l ts= .d (.xs k es))(hk0:0<k)
  (h:∀(cap:Nat) (rest:List D),es.length<=cap->cap<=maxLen->rest=List.replicate ((cap - es.length) * k) .any->0<k->(∀d∈es,d.ncells=k/\d.arr=true)->fA rr dfr P c Q (St.mk' n ((ts,.d (.slo obj.length 0 es.length cap))::l) loc (obj++ [es.flatMap D.cells++rest]))):fA rr dfr P c Q (St.mk' n l loc obj):=by
 intro w0 g0 w g tmps hf hok hn;obtain⟨cap,rest,g',a1,a2,a3,a4,a5,_,hfr,hok'⟩:=hok.openX2 ts k es hs hk0;exact h cap rest a1 a2 a3 a4 a5 w0 g0 w g' tmps (hf.trans hfr) hok' hn
theorem fK (ts k m len cap:Nat)(es cs:List D) {c:Code} (hs:eI l ts= .d (.slo m 0 len cap))(hm:obj[m]?=some cs)(hk:0<k)(hcs:cs.length=cap * k)(hl:es.length=len)
  (hes:∀d∈es,d.ncells=k/\d.arr=true) (he:es.flatMap D.cells<+:cs) (h:fA rr dfr P c Q (St.mk' n ((ts,.d (.xs k es))::l) loc (obj.set m []))):fA rr dfr P c Q (St.mk' n l loc obj):=by
 intro w0 g0 w g tmps hf hok hn;obtain⟨g',_,hfr,hok'⟩:=hok.closeX ts k m len cap es cs hs hm hk hcs hl hes he;exact h w0 g0 w g' tmps (hf.trans hfr) hok' hn
theorem aN4 (f:α->D)(l:List α)(k:Nat)(h:k<l.length):(l.map f).getD k .any=f l[k]:=by
 simp [List.getD,h]
theorem Mo (f:α->D)(l:List α)(k:Nat)(h:k<l.length):(l.map f)[k]?=some (f l[k]):=by
 simp [h]
theorem aQx(n:Int):inR .i64 n=(-9223372036854775808<=n/\n<=9223372036854775807):=by
 unfold inR;rfl
theorem aU8(n:Int):inR .u8 n=(0<=n/\n<=255):=by
 unfold inR;rfl
end
theorem aNo:Tk []=true:=rfl
theorem aGk(r:List (Option Holder)):Tk (none::r)=Tk r:=by simp [Tk]
theorem aGt(h:Holder)(r:List (Option Holder)):Tk (some h::r)=(!r.contains (some h) && Tk r):=by
 simp only [Tk,uT,id,jB,Bool.decide_and,List.contains_eq_mem];congr 1;rw [<- decide_not];congr 1;simp [oY]
theorem aEh:maxLen=9223372036854775807:=rfl
theorem aQs(n:Nat)(l:List (Nat×Slot))(loc obj:List (List D)):({ n:=n,env:=eI l,loc:=loc,obj:=obj } :St)=St.mk' n l loc obj:=rfl
def Fg:Slot->Slot
 | .d x=> .d x.strip
 | s=>s
def pG:List Nat->List (Nat×Slot)->List (Nat×Slot)
 | [],l=>l
 | t::r,l=>(t,Fg (eI l t))::pG r l
theorem Hx(l:List (Nat×Slot))(u:Nat):∀ts:List Nat,eI (pG ts l) u=if u∈ts then Fg (eI l u)else eI l u
 | []=>by simp [pG]
 | t::r=>by
  rw [pG,tC,Hx l u r];by_cases h:u=t
  .subst h;simp
  simp [h]
theorem rS(l:List (Nat×Slot))(ts:List (Option Nat)):gX ts (eI l)=eI (pG (ts.filterMap id) l):=by
 funext u;rw [Hx];by_cases h:some u∈ts
 .have h1:ts.contains (some u)=true:=by simpa using h
  have h2:u∈ts.filterMap id:=by simpa using h
  simp only [gX,h1,aT,aI h2,Fg];split <;> simp_all
 have h1:ts.contains (some u)=false:=by simpa using h
 have h2:¬u∈ts.filterMap id:=by simpa using h
 simp only [gX,h1,aA h2];rfl
theorem Zk {d:Nat} {args:List Operand} :pO P (some d) f args (St.mk' n l loc obj) K=
  ((args.filterMap cQ).Nodup/\(∀x∈args,Au ((St.mk' n l loc obj).rdS x)=true/\((St.mk' n l loc obj).rd x).plain=true)/\
   Ct P f (args.map (wQ (St.mk' n l loc obj))) obj (fun r σ'=>K (St.mk' n ((d,.d r)::pG (args.filterMap cQ) l) loc σ'))):=by
 unfold pO;have e:(args.map cQ).filterMap id=args.filterMap cQ:=by rw [Fb];rfl
 simp only [Iz,Jc,Ix,aCg,rS,e];rfl
theorem Ww(l:List (Nat×Slot)):pG [] l=l:=rfl
theorem Se(t:Nat)(r:List Nat)(l:List (Nat×Slot)):pG (t::r) l=(t,Fg (eI l t))::pG r l:=rfl
theorem aNv(x:D):Fg (.d x)= .d x.strip:=rfl
theorem Wj(a b:Nat):Fg (.lref a b)= .lref a b:=rfl
theorem aDr:List.filterMap cQ []= []:=rfl
theorem aEk(t:Tmp)(r:List Operand):List.filterMap cQ (.tmp t::r)=t::List.filterMap cQ r:=rfl
theorem Vu(v:Value)(r:List Operand):List.filterMap cQ (.const v::r)=List.filterMap cQ r:=rfl
theorem aAv(v:FuncId)(r:List Operand):List.filterMap cQ (.func v::r)=List.filterMap cQ r:=rfl
theorem Sz {d:Nat} :
  Ba P c (some d) (.call ⟨.value (.func f),args,ts⟩) .pureT (St.mk' n l loc obj) K=
  ((args.toList.filterMap cQ).Nodup/\(∀x∈args.toList,Au ((St.mk' n l loc obj).rdS x)=true/\((St.mk' n l loc obj).rd x).plain=true)/\
   ∃r,(∀σ,Ct P f (args.toList.map (wQ (St.mk' n l loc obj))) σ fun r' σ'=>r'=r/\σ'=σ)/\K (St.mk' n ((d,.d r)::pG (args.toList.filterMap cQ) l) loc obj)):=by
 have e:(args.toList.map cQ).filterMap id=args.toList.filterMap cQ:=by rw [Fb];rfl
 simp only [Ba,Iz,Jc,Ix,aCg,rS,e];rfl
theorem Xg {d:Nat} :
  Ba P c (some d) (.call ⟨.value (.func f),args,ts⟩) .detT (St.mk' n l loc obj) K=
  ((args.toList.filterMap cQ).Nodup/\(∀x∈args.toList,Au ((St.mk' n l loc obj).rdS x)=true/\((St.mk' n l loc obj).rd x).plain=true)/\
   ∃r σ0,(Ct P f (args.toList.map (wQ (St.mk' n l loc obj))) obj fun r' σ'=>r'=r/\σ'=σ0)/\K (St.mk' n ((d,.d r)::pG (args.toList.filterMap cQ) l) loc σ0)):=by
 have e:(args.toList.map cQ).filterMap id=args.toList.filterMap cQ:=by rw [Fb];rfl
 simp only [Ba,Iz,Jc,Ix,aCg,rS,e];rfl
theorem aS1 {f:Fl} :Ba P c d op (.op f) st K=(mH op=false/\pY c d st op=f/\jE P c d op st K):=rfl
theorem aIc :Ba P c d (.call ⟨.value (.func f),args,ts⟩) .pure st K=
  (nB args.toList st/\∃r,(∀σ,Ct P f (iM args.toList st) σ fun r' σ'=>r'=r/\σ'=σ)/\K (st.put d (.d r))):=rfl
def aXv(P:Program)(dst:Option Tmp)(d:D)(args:List Operand)(st:St)(K:St->Prop):Prop:=match d with
 | .clo (.func fid) first caps=>(∀d∈first++caps,d.plain=true)/\nB args st/\∃r,(∀σ,Ct P fid (first.map D.strip++iM args st++caps.map D.strip) σ fun r' σ'=>r'=r/\σ'=σ)/\K (st.put dst (.d r))
 | _=>False
theorem aD9 {f:Operand} :Ba P c d (.call ⟨.value f,args,ts⟩) .pureC st K=aXv P d (st.rd f) args.toList st K:=rfl
theorem aOj {fid:FuncId} {first caps:List D} {args:List Operand} :aXv P dst (.clo (.func fid) first caps) args st K=((∀d∈first++caps,d.plain=true)/\nB args st/\∃r,(∀σ,Ct P fid (first.map D.strip++iM args st++caps.map D.strip) σ fun r' σ'=>r'=r/\σ'=σ)/\K (st.put dst (.d r))):=rfl
theorem aMs :Ba P c d (.call ⟨.value (.func f),args,ts⟩) .read st K=
  (nB args.toList st/\∃r,(Ct P f (iM args.toList st) st.obj fun r' σ'=>r'=r/\σ'=st.obj)/\K (st.put d (.d r))):=rfl
theorem aTf :Ba P c d (.call ⟨.value (.func f),args,ts⟩) .nd st K=
  ∃Q,(nB args.toList st/\Ct P f (iM args.toList st) st.obj Q/\∃r σ0,Q r σ0)/\∀r σ0,Q r σ0->K (({ st with obj:=σ0 } :St).put d (.d r)):=rfl
theorem aEa :Ba P c d (.call ⟨.value (.func f),args,ts⟩) .readT st K=
  (nB args.toList st/\∃r,(∀J,Ct P f (iM args.toList st) (st.obj++J) fun r' σ'=>r'=r/\σ'=st.obj++J)/\K (st.put d (.d r))):=rfl
theorem aKf :Ba P c d (.call ⟨.value (.func f),args,ts⟩) .detA st K=
  (nB args.toList st/\∃r J,(Ct P f (iM args.toList st) st.obj fun r' σ'=>r'=r/\σ'=st.obj++J)/\K (({ st with obj:=st.obj++J } :St).put d (.d r))):=rfl
theorem aOo :Ba P c d (.call ⟨.value (.func f),args,ts⟩) .det st K=
  (nB args.toList st/\∃r σ0,(Ct P f (iM args.toList st) st.obj fun r' σ'=>r'=r/\σ'=σ0)/\K (({ st with obj:=σ0 } :St).put d (.d r))):=rfl
theorem aBz {a b:Code} {s:Slot} (hs:eI l t=s)
  (h:Bp s.toD (fA rr dfr P a Q (St.mk' n ((t,.d (.bool true))::l) loc obj)) (fA rr dfr P b Q (St.mk' n ((t,.d (.bool false))::l) loc obj))):fA rr dfr P (.cond (.tmp t) a b) Q (St.mk' n l loc obj):=by
 unfold Bp at h;split at h
 .rename_i v hv;have hs':eI l t= .d (.v (.bool v)):=by
   rw [hs];cases s with
   | d d=>simp only [Slot.toD] at hv;rw [hv]
   | lref n o=>simp [Slot.toD] at hv
  rw [Lq hs'];cases v with
  | true=>exact aV (t:=true) (by simp [St.rd,St.rdS,tC,St.mk']) (fun _=>h.1 rfl) (fun h=>by cases h)
  | false=>exact aV (t:=false) (by simp [St.rd,St.rdS,tC,St.mk']) (fun h=>by cases h) (fun _=>h.2 rfl)
 exact h.elim
def tI (o : Oper) : Oper := ⟨o.dst, o.op, 0, "", #[], o.guard⟩
theorem rE:List.map tI []= []:=rfl
theorem oZ (d : Option Tmp) (op : Op) (ty : TypeId) (pos : String) (after : Array Edge) (g : Option (Nat × Bool)) (r : List Oper) : List.map tI (⟨d, op, ty, pos, after, g⟩ :: r) = ⟨d, op, 0, "", #[], g⟩ :: List.map tI r := rfl
theorem Kt :∀(r:List Oper) (st:St),qV P c all (r.map tI) st K=qV P c all r st K
 | [],_=>rfl
 | o :: r, st => by
  have ih:(fun st'=>qV P c all (r.map tI) st' K)=fun st'=>qV P c all r st' K:=funext fun st'=>Kt r st';show qV P c all (tI o::r.map tI) st K=_
  unfold qV;simp only [tI,ih];split
  .rfl
  split
  .split
   .rw [Kt r];rfl
   rfl
  rfl
theorem Gu :∀(r:List Oper) (ks:List DK) (st:St),lU P c all (r.map tI) ks st K=lU P c all r ks st K
 | [],_,_=>rfl
 | _::_, [],_=>rfl
 | o :: r, k :: ks, st => by
  have ih:(fun st'=>lU P c all (r.map tI) ks st' K)=fun st'=>lU P c all r ks st' K:=funext fun st'=>Gu r ks st';show lU P c all (tI o::r.map tI) (k::ks) st K=_
  unfold lU;simp only [tI,ih];congr 1;split
  .rfl
  split
  .split
   .rw [Gu r]
   rfl
  rfl
theorem tX {id:Nat} (he:ops.map tI=ops')(h:∀all:List Oper,(∀j,aK all j=aK ops j)->∀K:St->Prop,(∀s,Q .normal s->K s)->qV P c all ops' st K):fA rr dfr P (.region id ops.toArray false) Q st:=
 aAd fun K hK=>by
  have:=h ops (fun _=>rfl) K hK
  rwa [<- he,Kt] at this
theorem Nk {id:Nat} (ks:List DK) (hm:P.follows .mixedOrders=true)(hok:Ld c ops ks=true)(he:ops.map tI=ops')
  (h:∀all:List Oper,(∀j,aK all j=aK ops j)->∀K:St->Prop,(∀s,Q .normal s->K s)->lU P c all ops' ks st K):fA rr dfr P (.region id ops.toArray true) Q st:=
 aIw ks hm hok fun K hK=>by
  have:=h ops (fun _=>rfl) K hK
  rwa [<- he,Gu] at this
def Zn:D->Prop
 | .v (.slice none 0 0)=>True
 | _=>False
def Ly(x y:D):Prop:=y=x\/(x.plain=true/\y=x.strip)\/(Zn x/\(y= .sl false []\/y= .sl true []))
theorem aA5:Zn (.v (.slice none 0 0))=True:=rfl
def oS:List D->List D->Prop
 | [], []=>True
 | a::r,b::q=>Ly a b/\oS r q
 | _,_=>False
theorem iR {b:List D} (h:a=b):oS a b:=by
 subst h;induction a with
 | nil=>trivial
 | cons x r ih=>exact⟨.inl rfl,ih⟩
theorem Kw:∀ {a b:List D},oS a b->a.length=b.length
 | [], [],_=>rfl
 | _::_,_::_,h=>by simp [Kw h.2]
 | [],_::_,h=>h.elim
 | _::_, [],h=>h.elim
theorem Mf:∀ {a b:List D},oS a b->∀(i:Nat) (y:D),b[i]?=some y->∃x,a[i]?=some x/\Ly x y
 | x::_,_::_,h,0,y,hy=>by simp at hy;subst hy;exact⟨x,rfl,h.1⟩
 | _::_,_::_,h,i+1,y,hy=>by simpa using Mf h.2 i y (by simpa using hy)
 | [], [],_,_,_,hy=>by simp at hy
 | [],_::_,h,_,_,_=>h.elim
 | _::_, [],h,_,_,_=>h.elim
theorem Ct.of_le {a':List D} {σ σ':List (List D)} {Q:D->List (List D)->Prop} (h:Ct P f a σ Q)(e:oS a' a)(e2:σ'=σ):Ct P f a' σ' Q:=by
 subst e2;refine⟨h.1,fun w g vs hs hb ho=>h.2 w g vs (by rw [hs,Kw e]) hb ⟨ho.mem,ho.xlt,fun t=>?_,ho.ll,ho.loc,ho.ol,ho.obj⟩⟩;have hsl:=ho.slot t;simp only [St.ofArgs] at hsl |-;unfold fW at hsl |-;cases hy:a[t]? with
 | none=>exact⟨.any _,.flat _ _ _ rfl⟩
 | some y =>
  obtain⟨x,hx,hle⟩:=Mf e t y hy;rw [hx] at hsl;rcases hle with rfl | ⟨hp,rfl⟩ | ⟨hn,hy⟩
  .exact hsl
  .exact sB hsl.1 hp t
  have hxn:x= .v (.slice none 0 0):=by
   unfold Zn at hn;split at hn
   .rfl
   exact hn.elim
  subst hxn;obtain⟨hr,_⟩:=hsl;have hv:=hr.vEq;rcases hy with rfl | rfl
  .exact⟨by rw [hv];exact .nil _,.flat _ _ _ rfl⟩
  exact⟨by rw [hv];exact .nil _,.sl _ _ _ (.inl ⟨_,_,hv⟩)⟩
theorem De:∀(sets:List (Nat×Slot)) (l:List (Nat×Slot)),gE sets (eI l)=eI (sets.reverseAux l)
 | [],l=>rfl
 | (a,s)::r,l=>by
  show gE r (fun u=>if u=a then s else eI l u)=_
  have:(fun u=>if u=a then s else eI l u)=eI ((a,s)::l):=by funext u;rw [tC]
  rw [this,De r];rfl
theorem aTj(n:Nat)(l:List (Nat×Slot))(loc obj:List (List D))(sets:List (Nat×Slot))(ob:Option (List (List D))):(St.mk' n l loc obj).upd ⟨sets,none,ob⟩=St.mk' n (sets.reverseAux l) loc (ob.getD obj):=by
 show({ n:=n,env:=gE sets (eI l),loc:=loc,obj:=ob.getD obj } :St)=_
 rw [De];rfl
theorem Yp(l:List (Nat×Slot)):List.reverseAux [] l=l:=rfl
theorem Ws(a:Nat×Slot)(r l:List (Nat×Slot)):List.reverseAux (a::r) l=List.reverseAux r (a::l):=rfl
def exS(R:pX)(K:List (Nat×Slot)->Option (List (List D))->Prop):Prop:=∃sets ob,R sets ob/\K sets ob
@[congr] theorem aY7 {R':pX} {K:List (Nat×Slot)->Option (List (List D))->Prop} (h:R=R'):exS R K=exS R' K:=by rw [h]
theorem aT7 {alt:Bool} :vcY P alt dst op st K=exS (fun sets ob=>yR P alt dst op st.rdS (if(flY alt op).rO=true then st.obj else []) sets ob) (fun sets ob=>K (st.upd ⟨sets,none,ob⟩)):=rfl
theorem aT6 {S:List (Nat×Slot)} {O:Option (List (List D))} {K:List (Nat×Slot)->Option (List (List D))->Prop} :exS (fun sets ob=>sets=S/\ob=O) K=K S O:=by
 apply propext;constructor
 .rintro⟨_,_,⟨rfl,rfl⟩,h⟩;exact h
 intro h;exact⟨_,_,⟨rfl,rfl⟩,h⟩
theorem aP8 {C:Prop} {K:List (Nat×Slot)->Option (List (List D))->Prop} :exS (fun sets ob=>C/\R sets ob) K=(C/\exS (fun sets ob=>R sets ob) K):=by
 apply propext;constructor
 .rintro⟨_,_,⟨h1,h2⟩,h⟩;exact⟨h1,_,_,h2,h⟩
 rintro⟨h1,_,_,h2,h⟩;exact⟨_,_,⟨h1,h2⟩,h⟩
theorem aUu {R:α->pX} {K:List (Nat×Slot)->Option (List (List D))->Prop} :exS (fun sets ob=>∃x,R x sets ob) K=∃x,exS (fun sets ob=>R x sets ob) K:=by
 apply propext;constructor
 .rintro⟨_,_,⟨x,h2⟩,h⟩;exact⟨x,_,_,h2,h⟩
 rintro⟨x,_,_,h2,h⟩;exact⟨_,_,⟨x,h2⟩,h⟩
theorem aUq {S:pX} {K:List (Nat×Slot)->Option (List (List D))->Prop} :exS (fun sets ob=>R sets ob\/S sets ob) K=(exS (fun sets ob=>R sets ob) K\/exS (fun sets ob=>S sets ob) K):=by
 apply propext;constructor
 .rintro⟨_,_,h1 | h1,h⟩
  .exact .inl ⟨_,_,h1,h⟩
  exact .inr ⟨_,_,h1,h⟩
 rintro(⟨_,_,h1,h⟩ | ⟨_,_,h1,h⟩)
 .exact⟨_,_,.inl h1,h⟩
 exact⟨_,_,.inr h1,h⟩
theorem aVl {K:List (Nat×Slot)->Option (List (List D))->Prop} :exS (fun _ _=>False) K=False:=by
 apply propext;exact⟨fun⟨_,_,h,_⟩=>h,False.elim⟩
attribute [simp] aT7 aT6 aP8 aUu aUq aVl
attribute [simp] aTj Yp Ws isY Ff Te yR yA1 yA2 Gx Nu aE4 aGf yX Qb aGr flY Un Da aKy aA5 wA vO yI La tK Nw aD4 bnE Bool.true_or Bool.false_or
theorem aHe(cs:List D):D.strip (.tup cs)= .tup (cs.map D.s2):=rfl
attribute [simp] aHe D.plain
theorem aSv(n:Nat)(cs:List D):At true n cs=if n<=cs.length then some (.agg (cs.take n))else none:=rfl
theorem aTg(n:Nat)(cs:List D):At false n cs=cs.head?:=rfl
theorem bH(cs:List D)(off:Nat)(ds:List D):dZ cs off ds=cs.take off++ds++cs.drop (off+ds.length):=rfl
attribute [simp low] aSv aTg bH
attribute [simp] Sz Xg aS1 aIc aD9 aOj aMs aOo aEa aKf aTf
attribute [simp] aFr aHp aLl aUl aXy aW3 aUr aVb aW5 aVx aTe aDv aKu aK6 aDi aLw aHt aA4 aHd aG1 aDf aHy aNf aWe aS3 aQe aTs aPz aM3 aFm tA lL jP Zk Ww Se aNv Wj aDr aEk Vu aAv
attribute [simp] aQs List.getElem?_cons_zero Option.bind_some aCg Iz Jc Ix Qh Of aPj aI7 aNk aM7 aKj aB9 aEu aK7 aU5 aJh yM aWi aLq
 aO6 aN3 Zx aP3 aOt aPx aIp aEq aFa aGu aD1 aEg aZe aVo aTk aTc aU4 aU1 aYw aWd aUz aTy aUi
 aPs aHo aDz aEf aDk aGm aFw aQy aKb aDg aEw aEm aGa aHx aE9 Xv Zs aPg aNe aDm aG0
 cX aOm aK1 aLz aEo aUd aQc aM1 aMo aPf aRu aR1 aTn aS2 aSy aSx aE1 aT0 aUb aQk aL6 aJo sV jE Tb aO1 dY vcX Gq mA sX uR qN iY flX Ae Mi Wd lC wI Hu aOh Ih Il lZ jV nJ nG vL vN gQ qY Rc vT qM
 tT Hs Ab wD mB qU sN Li tG xD mU nB iM wQ Au Oo St.cellsAt St.park Slot.plus Slot.isAddr aCb D.ofList
 aE5 Yf aPm aWw aQ6 aJe mZ aN4 Mo aQx aU8 aJ0 mH pY kG uK Kn Ev aNo aGk aGt aEh
end Go.Vm
