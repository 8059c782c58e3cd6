import Derived.Test.YtbgfljpnhhdkoaaGreatVm21
set_option linter.all false
namespace Go.Vm
open Go
variable {A B:Prop}{K:St->Prop}{P:Program}{Q:Exit->St->Prop}{R:pN}{a:List D}{after:Array Edge}{all ops ops' r:List Oper}{args:Array Operand}{b want:Bool}{body y:Code}{c:Cfg}{d dst:Option Tmp}{f:FuncId}{i j n t:Nat}{k:DK}{ks:List DK}{l l2:List (Nat×Slot)}{loc obj:List (List D)}{op:Op}{pos:String}{s st:St}{ts:Array TypeId}{ty:TypeId}{α:Type}
variable {rr:Option Nat} {dfr:List Deferred}
section
theorem fH (h:eO rr dfr P y Q s):uH rr dfr P y Q .normal s:=h
theorem Ce (h:Q (.exit i) s):uH rr dfr P y Q (.exit i) s:=h
theorem aHo (h:Q .ret s):uH rr dfr P y Q .ret s:=h
theorem kY (h:Q .normal s):rE i Q .normal s:=h
theorem yV (h:Q .normal s):rE i Q (.exit i) s:=by simpa [rE] using h
theorem aD2 (h:Q .ret s):rE i Q .ret s:=h
theorem Ck {S:α->St} {p:α->Prop} {m:α->Nat} {x:α} (h:Q (.exit i) s):Bo S p m x Q (.exit i) s:=h
def Aq(d:D)(A B:Prop):Prop:=match d with
 | .v (.bool t)=>(t=true->A)/\(t=false->B)
 | _=>False
theorem aE (h:∀K':St->Prop,(∀s,qC P c all r s K->K' s)->Xt d st/\jC P c d op st K'):qC P c all (⟨d,op,ty,pos,after,none⟩::r) st K:=
 h _ fun _ h=>h
theorem aCy (n:Nat) (h:∀K':St->Prop,(∀s,qC P c all (r.drop n) s K->K' s)->qC P c all (r.take n) st K'):qC P c all r st K:=by
 have go:∀(n:Nat) (r:List Oper) (st:St),qC P c all (r.take n) st (fun s=>qC P c all (r.drop n) s K)->qC P c all r st K:=by
  intro n;induction n with
  | zero=>intro r st h;exact h
  | succ n ih =>
   intro r st h;cases r with
   | nil=>exact h
   | cons o r =>
    simp only [Dg,List.drop_succ_cons] at h;unfold qC at h |-;split at h
    .rename_i hg;have hd:=h.1;refine⟨hd,?_⟩;exact Av (fun s hs=>ih r s hs) h.2
    rename_i j want hg;split at h
    .split at h
     .exact⟨fun hb=>⟨(h.1 hb).1,Av (fun s hs=>ih r s hs) (h.1 hb).2⟩,fun hb=>⟨(h.2 hb).1,ih r _ (h.2 hb).2⟩⟩
     exact h.elim
    exact h.elim
 exact go n r st (h _ fun _ h=>h)
theorem aVx (hg:aN all j=some t)(hs:st.env t= .d (.v (.bool b)))
  (h1:b=want->∀K':St->Prop,(∀s,qC P c all r s K->K' s)->Xt d st/\jC P c d op st K') (h2:b= !want->Xt d st/\qC P c all r (st.put d .und) K):qC P c all (⟨d,op,ty,pos,after,some (j,want)⟩::r) st K:=by
 rw [Oh];simp only [hg,hs];exact⟨fun hb=>h1 hb _ fun _ h=>h,h2⟩
theorem aS6 (hg:aN all j=some t)(hs:st.env t= .d (.v (.bool b)))(hb:b=want)
  (h1:∀K':St->Prop,(∀s,qC P c all r s K->K' s)->Xt d st/\jC P c d op st K'):qC P c all (⟨d,op,ty,pos,after,some (j,want)⟩::r) st K:=
 aVx hg hs (fun _=>h1) fun h=>(by rw [hb] at h;cases want <;> cases h)
theorem Im (hs:eF l t= .d (.v (.bool b))):St.mk' n l loc obj=St.mk' n ((t,.d (.bool b))::l) loc obj:=by
 unfold St.mk';congr 1;funext u;simp only [eF];split
 .rename_i e;rw [e,hs]
 rfl
theorem aJy (t:Nat) {s:Slot} (hs:eF l t=s)
  (h:Aq s.toD (qC P c all r (St.mk' n ((t,.d (.bool true))::l) loc obj) K) (qC P c all r (St.mk' n ((t,.d (.bool false))::l) loc obj) K)):qC P c all r (St.mk' n l loc obj) K:=by
 unfold Aq at h;split at h
 .rename_i b hb;have hs':eF l t= .d (.v (.bool b)):=by
   rw [hs];cases s with
   | d d=>simp only [Slot.toD] at hb;rw [hb]
   | lref n o=>simp [Slot.toD] at hb
  rw [Im hs'];cases b
  .exact h.2 rfl
  exact h.1 rfl
 exact h.elim
def aTp(P:Program)(c:Cfg)(all r:List Oper)(K:St->Prop):St->Prop:=fun st=>qC P c all r st K
theorem aKz :aTp P c all r K st=qC P c all r st K:=rfl
theorem aPw :qC P c all (⟨d,op,ty,pos,after,none⟩::r) st K=(Xt d st/\jC P c d op st (aTp P c all r K)):=rfl
def aM9(P:Program)(c:Cfg)(all r:List Oper)(ks:List DK)(K:St->Prop):St->Prop:=fun st=>lD P c all r ks st K
theorem aEp :aM9 P c all r ks K st=lD P c all r ks st K:=rfl
theorem aL9 :lD P c all (⟨d,op,ty,pos,after,none⟩::r) (k::ks) st K=(Xt d st/\As P c d op k st (aM9 P c all r ks K)):=rfl
@[congr] theorem aVa {op:BinOp} {t:TypeId} {x y x' y':Slot} {K:D->Prop} (hx:x=x')(hy:y=y'):vW P op t x y K=vW P op t x' y' K:=by rw [hx,hy]
@[congr] theorem aWv {op:BinOp} {k:IntKind} {a b a' b':Int} {K:D->Prop} (hx:a=a')(hy:b=b'):Hh op k a b K=Hh op k a' b' K:=by rw [hx,hy]
@[congr] theorem aWh {op:BinOp} {a b a' b':ByteArray} {K:D->Prop} (hx:a=a')(hy:b=b'):Gs op a b K=Gs op a' b' K:=by rw [hx,hy]
@[congr] theorem aVy {t:TypeId} {b a' b':List D} {K:Bool->Prop} (hx:a=a')(hy:b=b'):uK P t a b K=uK P t a' b' K:=by rw [hx,hy]
@[congr] theorem aWx {op:UnOp} {x x':D} {K:D->Prop} (hx:x=x'):Ho op x K=Ho op x' K:=by rw [hx]
def sel(b:Bool)(s r:Slot):Slot:=if b=true then s else r
@[congr] theorem aXn {b':Bool} {s r:Slot} (h:b=b'):sel b s r=sel b' s r:=by rw [h]
theorem aRe {s r:Slot} :sel true s r=s:=rfl
theorem aRh {s r:Slot} :sel false s r=r:=rfl
theorem Pi(a:Nat)(s:Slot)(r:List (Nat×Slot))(t:Nat):eF ((a,s)::r) t=sel (t==a) s (eF r t):=by
 simp only [eF,sel,yF]
def gv3(s:Slot)(want:Bool):Option Bool:=Gv s want
def gv2(o:Option Tmp)(st:St)(want:Bool):Option Bool:=match o with
 | some t=>gv3 (st.env t) want
 | none=>none
@[congr] theorem aW5 {o o':Option Tmp} (h:o=o'):gv2 o st want=gv2 o' st want:=by rw [h]
theorem aKl(t:Tmp)(st:St)(want:Bool):gv2 (some t) st want=gv3 (st.env t) want:=rfl
theorem aJ7(b want:Bool):gv3 (.d (.v (.bool b))) want=some b:=rfl
theorem aNx(want:Bool):gv3 (.d (.tup [])) want=some (!want):=rfl
def aJw(all:List Oper)(j:Nat)(st:St)(want:Bool):Option Bool:=match aN all j with
 | some t=>Gv (st.env t) want
 | none=>none
theorem aO9(all:List Oper)(j:Nat)(st:St)(want:Bool):aJw all j st want=gv2 (aN all j) st want:=rfl
def vcG(g:Option Bool)(want:Bool)(A B:Prop):Prop:=match g with
 | some b=>(b=want->A)/\(b= !want->B)
 | none=>False
@[congr] theorem aUd {g g':Option Bool} (h:g=g'):vcG g want A B=vcG g' want A B:=by rw [h]
theorem aTs :vcG (some true) true A B=A:=by simp [vcG]
theorem aS9 :vcG (some true) false A B=B:=by simp [vcG]
theorem aRp :vcG (some false) true A B=B:=by simp [vcG]
theorem aR3 :vcG (some false) false A B=A:=by simp [vcG]
theorem aTm :qC P c all (⟨d,op,ty,pos,after,some (j,want)⟩::r) st K=
  vcG (aJw all j st want) want (Xt d st/\jC P c d op st (aTp P c all r K)) (Xt d st/\qC P c all r (st.put d .und) K):=by
 rw [Oh];unfold aJw vcG;split
 .rename_i t ht;simp only [ht];split
  .rename_i h;simp [h];exact fun _=>Iff.rfl
  rename_i h;simp [h]
 rename_i h;simp [h]
def Zi(d:D)(A B:Prop):Prop:=match d with
 | .v (.bool t)=>(t=true->A)/\(t=false->B)
 | _=>False
@[congr] theorem aTw {d d':D} (h:d=d'):Zi d A B=Zi d' A B:=by rw [h]
theorem aSp :Zi (.v (.bool true)) A B=A:=by simp [Zi]
theorem aS4 :Zi (.v (.bool false)) A B=B:=by simp [Zi]
theorem aEv {c a b:Operand} :zV dst c a b st K=Zi (st.rd c) ((st.rd a).plain=true/\K (st.put dst (.d (st.rd a).strip))) ((st.rd b).plain=true/\K (st.put dst (.d (st.rd b).strip))):=rfl
theorem Uh {K':St->Prop} (hk:∀s,K s->K' s)(h:As P c dst op k st K):As P c dst op k st K':=by
 unfold As at *;cases k with
 | op f=>exact⟨h.1,h.2.1,Av hk h.2.2⟩
 | pure=>
  simp only at *;split at h
  .obtain⟨h1,r,h2,h3⟩:=h;exact⟨h1,r,h2,hk _ h3⟩
  exact h
 | pureC =>
  simp only at *;split at h
  .split at h
   .rename_i hf;obtain⟨h0,h1,r,h2,h3⟩:=h;exact⟨h0,h1,r,h2,hk _ h3⟩
   exact h.elim
  exact h
 | read=>
  simp only at *;split at h
  .obtain⟨h1,r,h2,h3⟩:=h;exact⟨h1,r,h2,hk _ h3⟩
  exact h
 | det=>
  simp only at *;split at h
  .obtain⟨h1,r,σ0,h2,h3⟩:=h;exact⟨h1,r,σ0,h2,hk _ h3⟩
  exact h
 | readT=>
  simp only at *;split at h
  .obtain⟨h1,r,h2,h3⟩:=h;exact⟨h1,r,h2,hk _ h3⟩
  exact h
 | nd=>
  obtain⟨Q,h1,h2⟩:=h;exact⟨Q,h1,fun r σ0 hq=>hk _ (h2 r σ0 hq)⟩
 | detA=>
  simp only at *;split at h
  .obtain⟨h1,r,J,h2,h3⟩:=h;exact⟨h1,r,J,h2,hk _ h3⟩
  exact h
 | pureT=>
  simp only at *;split at h
  .obtain⟨h0,h1,r,h2,h3⟩:=h;exact⟨h0,h1,r,h2,hk _ h3⟩
  exact h
 | detT=>
  simp only at *;split at h
  .obtain⟨h0,h1,r,σ0,h2,h3⟩:=h;exact⟨h0,h1,r,σ0,h2,hk _ h3⟩
  exact h
theorem qT :lD P c all [] ks st K=K st:=by unfold lD;rfl
theorem aO2 :lD P c all (⟨d,op,ty,pos,after,some (j,want)⟩::r) (k::ks) st K=
  (Xt d st/\vcG (aJw all j st want) want (As P c d op k st (aM9 P c all r ks K)) (lD P c all r ks (st.put d .und) K)):=by
 conv=>lhs;unfold lD
 show(_/\_)=_
 congr 1;simp only;unfold aJw vcG;split
 .rename_i t ht;simp only [ht];split
  .rename_i h;simp [h];exact fun _=>Iff.rfl
  rename_i h;simp [h]
 rename_i h;simp [h]
theorem bV (h:∀K':St->Prop,(∀s,lD P c all r ks s K->K' s)->Xt d st/\As P c d op k st K'):lD P c all (⟨d,op,ty,pos,after,none⟩::r) (k::ks) st K:=
 h _ fun _ h=>h
theorem aAp (n:Nat) (hks:n<=ks.length)(h:∀K':St->Prop,(∀s,lD P c all (r.drop n) (ks.drop n) s K->K' s)->lD P c all (r.take n) (ks.take n) st K'):lD P c all r ks st K:=by
 have go : ∀ (n : Nat) (r : List Oper) (ks : List DK) (st : St), n <= ks.length -> lD P c all (r.take n) (ks.take n) st (fun s => lD P c all (r.drop n) (ks.drop n) s K) -> lD P c all r ks st K := by
  intro n;induction n with
  | zero=>intro r ks st _ h;simp only [List.take_zero,yS,qT] at h;exact h
  | succ n ih =>
   intro r ks st hks h;cases ks with
   | nil=>simp at hks
   | cons k ks =>
    cases r with
    | nil=>simp only [List.take_nil,List.drop_nil,qT] at h |-;exact h
    | cons o r =>
     simp only [Dg,List.drop_succ_cons] at h;simp only [cG] at hks;unfold lD at h |-;refine⟨h.1,?_⟩;have h2:=h.2;split at h2
     .exact Uh (fun s hs=>ih r ks s (by omega) hs) h2
     split at h2
     .split at h2
      .exact⟨fun hb=>Uh (fun s hs=>ih r ks s (by omega) hs) (h2.1 hb),fun hb=>ih r ks _ (by omega) (h2.2 hb)⟩
      exact h2.elim
     exact h2.elim
 exact go n r ks st hks (h _ fun _ h=>h)
theorem aDg (t:Nat) {s:Slot} (hs:eF l t=s)
  (h:Aq s.toD (lD P c all r ks (St.mk' n ((t,.d (.bool true))::l) loc obj) K) (lD P c all r ks (St.mk' n ((t,.d (.bool false))::l) loc obj) K)):lD P c all r ks (St.mk' n l loc obj) K:=by
 unfold Aq at h;split at h
 .rename_i b hb;have hs':eF l t= .d (.v (.bool b)):=by
   rw [hs];cases s with
   | d d=>simp only [Slot.toD] at hb;rw [hb]
   | lref n o=>simp [Slot.toD] at hb
  rw [Im hs'];cases b
  .exact h.2 rfl
  exact h.1 rfl
 exact h.elim
def nH:List Nat->List (Nat×Slot)->List (Nat×Slot)
 | _, []=> []
 | W,(t,s)::r=>if W.contains t then nH W r else(t,s)::nH (t::W) r
theorem aOq(n:Nat)(s:Slot):Sv n s (.d .any)=True:=by
 unfold Sv;split <;> simp_all
theorem aUj(n:Nat)(x:D):Sv n (.d x) (.d x)=True:=by
 cases x with
 | sl o es=>cases o <;> simp [Sv]
 | _=>simp [Sv]
theorem aN3(n:Nat)(es:List D):Sv n (.d (.sl true es)) (.d (.sl false es))=True:=by
 unfold Sv;simp
theorem aKh(n m o:Nat):Sv n (.lref m o) (.lref m o)=(m<n):=by
 unfold Sv;simp
def zR(n:Nat)(env:Nat->Slot):List (Nat×Slot)->Prop
 | []=>True
 | (a,s)::r=>Sv n (env a) s/\zR n env r
theorem aE3(n:Nat)(env:Nat->Slot):zR n env []=True:=rfl
theorem Zc(n:Nat)(env:Nat->Slot)(a:Nat)(s:Slot)(r:List (Nat×Slot)):zR n env ((a,s)::r)=(Sv n (env a) s/\zR n env r):=rfl
theorem vF {env:Nat->Slot} :∀ {l:List (Nat×Slot)},zR n env l->∀p∈l,Sv n (env p.1) p.2
 | [],_,p,hp=>by simp at hp
 | (a,s)::r,h,p,hp=>by
  rcases bP.1 hp with rfl | hp
  .exact h.1
  exact vF h.2 p hp
theorem dU (hn:st.n=n)(hl:zR loc.length st.env l)(hloc:loc<+:st.loc)(hobj:st.obj=obj):Weak st (St.mk' n l loc obj):=
 Qx hn (vF hl) hloc hobj
theorem aY (F:α->List (Nat×Slot))(W:List Nat)(p:α->Prop)(m:α->Nat)(x0:α) 
  (hl:nH W l=l2) (hF:zR loc.length (eF l) (F x0++l2)) (hp:p x0)
  (h:∀x,p x->eO rr dfr P body (Bo (fun x=>St.mk' n (F x++l2) loc obj) p m x Q) (St.mk' n (F x++l2) loc obj)):eO rr dfr P (.loop body) Q (St.mk' n l loc obj):=
 Vb (fun x=>St.mk' n (F x++l2) loc obj) p m x0 (Qx rfl (vF hF) (List.prefix_refl _) rfl) hp h
theorem oS (F:α->List (Nat×Slot))(G H:α->List (List D))(W:List Nat)(p:α->Prop)(m:α->Nat)(x0:α) 
  (hl:nH W l=l2) (hF:zR (G x0).length (eF l) (F x0++l2)) (hG:G x0=loc) (hH:H x0=obj) (hp:p x0)
  (h:∀x,p x->eO rr dfr P body (Bo (fun x=>St.mk' n (F x++l2) (G x) (H x)) p m x Q) (St.mk' n (F x++l2) (G x) (H x))):eO rr dfr P (.loop body) Q (St.mk' n l loc obj):=
 Vb (fun x=>St.mk' n (F x++l2) (G x) (H x)) p m x0 (Qx rfl (vF hF) (by rw [hG];exact List.prefix_refl _) hH.symm) hp h
theorem fC {S:α->St} {p:α->Prop} {m:α->Nat} {x:α} (y:α)(hp:p y)(hm:m y<m x)(hw:Weak s (S y)):Bo S p m x Q .normal s:=⟨y,hp,hm,hw⟩
def aWq {α:Type} (S:α->St)(p:α->Prop)(Q:Exit->St->Prop):Exit->St->Prop
 | .normal,s=>∃y,p y/\Weak s (S y)
 | e,s=>Q e s
theorem Xn(n:Nat):D.strip (.mref n)= .mref n:=rfl
theorem aN9(n:Nat):D.s1 (.mref n)= .mref n:=rfl
theorem aO3(n:Nat):D.s2 (.mref n)= .mref n:=rfl
theorem Yj(n:Nat):D.plain (.mref n)=true:=rfl
theorem Zo(n:Nat):D.solid (.mref n)=true:=rfl
theorem Vo(n:Nat):D.ncells (.mref n)=1:=rfl
theorem Xq(n:Nat):D.cells (.mref n)= [.mref n]:=rfl
theorem aHe(kd:TypeDesc)(c:Nat)(kvs:List (Value×Nat×D)):D.strip (.mo kd c kvs)= .mz:=rfl
theorem aUt(kd:TypeDesc)(c:Nat)(kvs:List (Value×Nat×D)):D.s1 (.mo kd c kvs)= .mz:=rfl
theorem aU4(kd:TypeDesc)(c:Nat)(kvs:List (Value×Nat×D)):D.s2 (.mo kd c kvs)= .mz:=rfl
theorem aMa(kd:TypeDesc)(c:Nat)(kvs:List (Value×Nat×D)):D.plain (.mo kd c kvs)=true:=rfl
theorem aHx(kd:TypeDesc)(c:Nat)(kvs:List (Value×Nat×D)):D.solid (.mo kd c kvs)=true:=rfl
theorem aCz(kd:TypeDesc)(c:Nat)(kvs:List (Value×Nat×D)):D.ncells (.mo kd c kvs)=1:=rfl
theorem aHa(kd:TypeDesc)(c:Nat)(kvs:List (Value×Nat×D)):D.cells (.mo kd c kvs)= [.mo kd c kvs]:=rfl
theorem aEk(n a b:Nat)(l:List Nat):D.strip (.mit n a l b)= .any:=rfl
theorem aS3(n a b:Nat)(l:List Nat):D.s1 (.mit n a l b)= .any:=rfl
theorem aTx(n a b:Nat)(l:List Nat):D.s2 (.mit n a l b)= .any:=rfl
theorem aFe(n a b:Nat)(l:List Nat):D.plain (.mit n a l b)=true:=rfl
theorem aDn(n a b:Nat)(l:List Nat):D.solid (.mit n a l b)=false:=rfl
theorem aMy(n c:Nat)(kd:TypeDesc)(kvs:List (Value×Nat×D)):D.strip (.mp n kd c kvs)= .mref n:=rfl
theorem aWu(n c:Nat)(kd:TypeDesc)(kvs:List (Value×Nat×D)):D.s1 (.mp n kd c kvs)= .mref n:=rfl
theorem aUq(n c:Nat)(kd:TypeDesc)(kvs:List (Value×Nat×D)):D.s2 (.mp n kd c kvs)= .mref n:=rfl
theorem aIy(n c:Nat)(kd:TypeDesc)(kvs:List (Value×Nat×D)):D.plain (.mp n kd c kvs)=true:=rfl
theorem aJt(n c:Nat)(kd:TypeDesc)(kvs:List (Value×Nat×D)):D.solid (.mp n kd c kvs)=true:=rfl
theorem aDv(n c:Nat)(kd:TypeDesc)(kvs:List (Value×Nat×D)):D.ncells (.mp n kd c kvs)=1:=rfl
theorem aJ8(n c:Nat)(kd:TypeDesc)(kvs:List (Value×Nat×D)):D.cells (.mp n kd c kvs)= [.mp n kd c kvs]:=rfl
theorem aFl(t:TypeId)(d:D):D.strip (.ifc t d)= .ifc t d:=rfl
theorem aSl(t:TypeId)(d:D):D.s1 (.ifc t d)= .ifc t d:=rfl
theorem aTv(t:TypeId)(d:D):D.s2 (.ifc t d)= .ifc t d:=rfl
theorem aEy(t:TypeId)(d:D):D.plain (.ifc t d)=true:=rfl
theorem aGa(t:TypeId)(d:D):D.solid (.ifc t d)=true:=rfl
theorem Yv(t:TypeId)(d:D):D.ncells (.ifc t d)=1:=rfl
theorem aD8(t:TypeId)(d:D):D.cells (.ifc t d)= [.ifc t d]:=rfl
theorem aJu(n:Nat):D.arr (.mref n)=true:=rfl
attribute [simp] aHe aUt aU4 aMa aHx aCz aHa aEk aS3 aTx aFe aDn Xn aN9 aO3 Yj Zo Vo Xq aMy aWu aUq aIy aJt aDv aJ8 aFl aSl aTv aEy aGa Yv aD8 aJu
theorem aEf(n a b c:Nat):D.strip (.slo n a b c)= .slo n a b c:=rfl
theorem aIk(n:Nat):D.strip (.xl n)= .xl n:=rfl
theorem aI8(k:Nat)(es:List D):D.strip (.xs k es)= .xl es.length:=rfl
theorem aT5(n a b c:Nat):D.s2 (.slo n a b c)= .slo n a b c:=rfl
theorem aWb(n:Nat):D.s2 (.xl n)= .xl n:=rfl
theorem aUl(k:Nat)(es:List D):D.s2 (.xs k es)= .xl es.length:=rfl
theorem aTc(f:Go.Fn)(a b:List D):D.s2 (.clo f a b)= .clo f a b:=rfl
theorem aRw(n a b c:Nat):D.s1 (.slo n a b c)= .slo n a b c:=rfl
theorem aU9(n:Nat):D.s1 (.xl n)= .xl n:=rfl
theorem aV0(k:Nat)(es:List D):D.s1 (.xs k es)= .xl es.length:=rfl
theorem aTd(f:Go.Fn)(a b:List D):D.s1 (.clo f a b)= .clo f a b:=rfl
theorem aEt(n a b c:Nat):D.plain (.slo n a b c)=true:=rfl
theorem aK9(n:Nat):D.plain (.xl n)=true:=rfl
theorem aG2(k:Nat)(es:List D):D.plain (.xs k es)=true:=rfl
theorem aE1(n a b c:Nat):D.solid (.slo n a b c)=true:=rfl
theorem aLb(n:Nat):D.solid (.xl n)=true:=rfl
theorem aHc(k:Nat)(es:List D):D.solid (.xs k es)=true:=rfl
theorem Yb(n a b c:Nat):D.ncells (.slo n a b c)=1:=rfl
theorem aDu(n:Nat):D.ncells (.xl n)=1:=rfl
theorem aEb(k:Nat)(es:List D):D.ncells (.xs k es)=1:=rfl
theorem aEr(n a b c:Nat):D.cells (.slo n a b c)= [.slo n a b c]:=rfl
theorem aIp(n:Nat):D.cells (.xl n)= [.xl n]:=rfl
theorem aJj(k:Nat)(es:List D):D.cells (.xs k es)= [.xs k es]:=rfl
theorem aV5(x:Value):D.arr (.v x)=true:=rfl
theorem aSm(es:List D):D.arr (.sl false es)=true:=rfl
theorem aQn(cs:List D):D.arr (.agg cs)=cs.all D.flat:=rfl
theorem aR8(x:Value):D.flat (.v x)=true:=rfl
theorem aO7(es:List D):D.flat (.sl false es)=true:=rfl
theorem aK0(n o:Nat):D.flat (.ref n o)=true:=rfl
def Gd:List (Nat×List D)->List (List D)->List (List D)
 | [],l=>l
 | (n,c)::r,l=>(Gd r l).set n c
theorem lJ(l:List (List D)):Gd [] l=l:=rfl
theorem jS(n:Nat)(c:List D)(r:List (Nat×List D))(l:List (List D)):Gd ((n,c)::r) l=(Gd r l).set n c:=rfl
theorem kE (F:α->List (Nat×Slot))(M N:α->List (Nat×List D))(W:List Nat)(p:α->Prop)(m:α->Nat)(x0:α) 
  (hl:nH W l=l2) (hF:zR (Gd (M x0) loc).length (eF l) (F x0++l2)) (hG:Gd (M x0) loc=loc) (hH:Gd (N x0) obj=obj) (hp:p x0)
  (h:∀x,p x->eO rr dfr P body (Bo (fun x=>St.mk' n (F x++l2) (Gd (M x) loc) (Gd (N x) obj)) p m x Q) (St.mk' n (F x++l2) (Gd (M x) loc) (Gd (N x) obj))):eO rr dfr P (.loop body) Q (St.mk' n l loc obj):=
 oS F (fun x=>Gd (M x) loc) (fun x=>Gd (N x) obj) W p m x0 hl hF hG hH hp h
theorem aDe (l:List α)(a:α):(l++ [a])[l.length]?=some a:=by simp
theorem sI (l:List α)(a b:α):(l++ [a]).set l.length b=l++ [b]:=by simp
def Br:List Nat->List (Nat×Slot)->List (Nat×Slot)
 | [],_=> []
 | t::r,l=>(t,eF l t)::Br r l
theorem aCs(l:List (Nat×Slot)):Br [] l= []:=rfl
theorem Lq(t:Nat)(r:List Nat)(l:List (Nat×Slot)):Br (t::r) l=(t,eF l t)::Br r l:=rfl
theorem Ou(l:List (Nat×Slot))(u:Nat):∀K:List Nat,eF (Br K l) u=eF l u\/eF (Br K l) u= .any
 | []=> .inr rfl
 | t::r=>by
  rw [Lq,sP];split
  .rename_i h;subst h;exact .inl rfl
  exact Ou l u r
theorem aI4 (K:List Nat) {c:Code} (hl:Br K l=l2)(h:eO rr dfr P c Q (St.mk' n l2 loc obj)):eO rr dfr P c Q (St.mk' n l loc obj):=by
 subst hl;intro w0 g0 w g tmps hf hok hn;refine h w0 g0 w g tmps hf ⟨hok.mem,hok.xlt,fun t=>?_,hok.ll,hok.loc,hok.ol,hok.obj⟩ hn;have hs:=hok.slot t;show SlotOk w g t (eF (Br K l) t) _
 rcases Ou l t K with e | e
 .rw [e];exact hs
 rw [e];exact⟨.any _,.flat _ _ _ rfl⟩
theorem sB (ts k:Nat) {es:List D} {c:Code} (hs:eF l ts= .d (.xs k es))(hk0:0<k)
  (h:∀(cap:Nat) (rest:List D),es.length<=cap->cap<=maxLen->rest.length=(cap - es.length) * k->0<k->(∀d∈es,d.ncells=k/\d.arr=true)->eO rr dfr P c Q (St.mk' n ((ts,.d (.slo obj.length 0 es.length cap))::l) loc (obj++ [es.flatMap D.cells++rest]))):eO rr dfr P c Q (St.mk' n l loc obj):=by
 intro w0 g0 w g tmps hf hok hn;obtain⟨cap,rest,g',a1,a2,a3,a4,a5,_,hfr,hok'⟩:=hok.openX ts k es hs hk0;exact h cap rest a1 a2 a3 a4 a5 w0 g0 w g' tmps (hf.trans hfr) hok' hn
theorem iL (ts k:Nat) {es:List D} {c:Code} (hs:eF l ts= .d (.xs k es))(hk0:0<k)
  (h:∀(cap:Nat) (rest:List D),es.length<=cap->cap<=maxLen->rest=List.replicate ((cap - es.length) * k) .any->0<k->(∀d∈es,d.ncells=k/\d.arr=true)->eO rr dfr P c Q (St.mk' n ((ts,.d (.slo obj.length 0 es.length cap))::l) loc (obj++ [es.flatMap D.cells++rest]))):eO rr dfr P c Q (St.mk' n l loc obj):=by
 intro w0 g0 w g tmps hf hok hn;obtain⟨cap,rest,g',a1,a2,a3,a4,a5,_,hfr,hok'⟩:=hok.openX2 ts k es hs hk0;exact h cap rest a1 a2 a3 a4 a5 w0 g0 w g' tmps (hf.trans hfr) hok' hn
theorem fF (ts k m len cap:Nat)(es cs:List D) {c:Code} (hs:eF l ts= .d (.slo m 0 len cap))(hm:obj[m]?=some cs)(hk:0<k)(hcs:cs.length=cap * k)(hl:es.length=len)
  (hes:∀d∈es,d.ncells=k/\d.arr=true) (he:es.flatMap D.cells<+:cs) (h:eO rr dfr P c Q (St.mk' n ((ts,.d (.xs k es))::l) loc (obj.set m []))):eO rr dfr P c Q (St.mk' n l loc obj):=by
 intro w0 g0 w g tmps hf hok hn;obtain⟨g',_,hfr,hok'⟩:=hok.closeX ts k m len cap es cs hs hm hk hcs hl hes he;exact h w0 g0 w g' tmps (hf.trans hfr) hok' hn
theorem aJm (f:α->D)(l:List α)(k:Nat)(h:k<l.length):(l.map f).getD k .any=f l[k]:=by
 simp [List.getD,h]
theorem Ma (f:α->D)(l:List α)(k:Nat)(h:k<l.length):(l.map f)[k]?=some (f l[k]):=by
 simp [h]
theorem aN2(n:Int):inR .i64 n=(-9223372036854775808<=n/\n<=9223372036854775807):=by
 unfold inR;rfl
theorem aT9(n:Int):inR .u8 n=(0<=n/\n<=255):=by
 unfold inR;rfl
end
theorem aJx:Sp []=true:=rfl
theorem aFs(r:List (Option Holder)):Sp (none::r)=Sp r:=by simp [Sp]
theorem aFu(h:Holder)(r:List (Option Holder)):Sp (some h::r)=(!r.contains (some h) && Sp r):=by
 simp only [Sp,tX,id,iM,Bool.decide_and,List.contains_eq_mem];congr 1;rw [<- decide_not];congr 1;simp [oZ]
theorem aDb:maxLen=9223372036854775807:=rfl
theorem aPt(n:Nat)(l:List (Nat×Slot))(loc obj:List (List D)):({ n:=n,env:=eF l,loc:=loc,obj:=obj } :St)=St.mk' n l loc obj:=rfl
def Gg:Slot->Slot
 | .d x=> .d x.strip
 | s=>s
def pG:List Nat->List (Nat×Slot)->List (Nat×Slot)
 | [],l=>l
 | t::r,l=>(t,Gg (eF l t))::pG r l
theorem Gw(l:List (Nat×Slot))(u:Nat):∀ts:List Nat,eF (pG ts l) u=if u∈ts then Gg (eF l u)else eF l u
 | []=>by simp [pG]
 | t::r=>by
  rw [pG,sP,Gw l u r];by_cases h:u=t
  .subst h;simp
  simp [h]
theorem rA(l:List (Nat×Slot))(ts:List (Option Nat)):gS ts (eF l)=eF (pG (ts.filterMap id) l):=by
 funext u;rw [Gw];by_cases h:some u∈ts
 .have h1:ts.contains (some u)=true:=by simpa using h
  have h2:u∈ts.filterMap id:=by simpa using h
  simp only [gS,h1,aT,aM h2,Gg];split <;> simp_all
 have h1:ts.contains (some u)=false:=by simpa using h
 have h2:¬u∈ts.filterMap id:=by simpa using h
 simp only [gS,h1,aD h2];rfl
theorem Zb {d:Nat} {args:List Operand} :pH P (some d) f args (St.mk' n l loc obj) K=
  ((args.filterMap cM).Nodup/\(∀x∈args,zT ((St.mk' n l loc obj).rdS x)=true/\((St.mk' n l loc obj).rd x).plain=true)/\
   Ct P f (args.map (vZ (St.mk' n l loc obj))) obj (fun r σ'=>K (St.mk' n ((d,.d r)::pG (args.filterMap cM) l) loc σ'))):=by
 unfold pH;have e:(args.map cM).filterMap id=args.filterMap cM:=by rw [Ep];rfl
 simp only [Ig,Ic,Hr,aCd,rA,e];rfl
theorem Vr(l:List (Nat×Slot)):pG [] l=l:=rfl
theorem Rp(t:Nat)(r:List Nat)(l:List (Nat×Slot)):pG (t::r) l=(t,Gg (eF l t))::pG r l:=rfl
theorem aIe(x:D):Gg (.d x)= .d x.strip:=rfl
theorem Uo(a b:Nat):Gg (.lref a b)= .lref a b:=rfl
theorem aEc:List.filterMap cM []= []:=rfl
theorem aDo(t:Tmp)(r:List Operand):List.filterMap cM (.tmp t::r)=t::List.filterMap cM r:=rfl
theorem Un(v:Value)(r:List Operand):List.filterMap cM (.const v::r)=List.filterMap cM r:=rfl
theorem Yg(v:FuncId)(r:List Operand):List.filterMap cM (.func v::r)=List.filterMap cM r:=rfl
theorem Qt {d:Nat} :
  As P c (some d) (.call ⟨.value (.func f),args,ts⟩) .pureT (St.mk' n l loc obj) K=
  ((args.toList.filterMap cM).Nodup/\(∀x∈args.toList,zT ((St.mk' n l loc obj).rdS x)=true/\((St.mk' n l loc obj).rd x).plain=true)/\
   ∃r,(∀σ,Ct P f (args.toList.map (vZ (St.mk' n l loc obj))) σ fun r' σ'=>r'=r/\σ'=σ)/\K (St.mk' n ((d,.d r)::pG (args.toList.filterMap cM) l) loc obj)):=by
 have e:(args.toList.map cM).filterMap id=args.toList.filterMap cM:=by rw [Ep];rfl
 simp only [As,Ig,Ic,Hr,aCd,rA,e];rfl
theorem Ur {d:Nat} :
  As P c (some d) (.call ⟨.value (.func f),args,ts⟩) .detT (St.mk' n l loc obj) K=
  ((args.toList.filterMap cM).Nodup/\(∀x∈args.toList,zT ((St.mk' n l loc obj).rdS x)=true/\((St.mk' n l loc obj).rd x).plain=true)/\
   ∃r σ0,(Ct P f (args.toList.map (vZ (St.mk' n l loc obj))) obj fun r' σ'=>r'=r/\σ'=σ0)/\K (St.mk' n ((d,.d r)::pG (args.toList.filterMap cM) l) loc σ0)):=by
 have e:(args.toList.map cM).filterMap id=args.toList.filterMap cM:=by rw [Ep];rfl
 simp only [As,Ig,Ic,Hr,aCd,rA,e];rfl
theorem aTa {f:Fl} :As P c d op (.op f) st K=(lU op=false/\pO c d st op=f/\jC P c d op st K):=rfl
theorem aKv :As P c d (.call ⟨.value (.func f),args,ts⟩) .pure st K=
  (mU args.toList st/\∃r,(∀σ,Ct P f (iI args.toList st) σ fun r' σ'=>r'=r/\σ'=σ)/\K (st.put d (.d r))):=rfl
def aWp(P:Program)(dst:Option Tmp)(d:D)(args:List Operand)(st:St)(K:St->Prop):Prop:=match d with
 | .clo (.func fid) first caps=>(∀d∈first++caps,d.plain=true)/\mU args st/\∃r,(∀σ,Ct P fid (first.map D.strip++iI args st++caps.map D.strip) σ fun r' σ'=>r'=r/\σ'=σ)/\K (st.put dst (.d r))
 | _=>False
theorem aGi {f:Operand} :As P c d (.call ⟨.value f,args,ts⟩) .pureC st K=aWp P d (st.rd f) args.toList st K:=rfl
theorem aNt {fid:FuncId} {first caps:List D} {args:List Operand} :aWp P dst (.clo (.func fid) first caps) args st K=((∀d∈first++caps,d.plain=true)/\mU args st/\∃r,(∀σ,Ct P fid (first.map D.strip++iI args st++caps.map D.strip) σ fun r' σ'=>r'=r/\σ'=σ)/\K (st.put dst (.d r))):=rfl
theorem aJn :As P c d (.call ⟨.value (.func f),args,ts⟩) .read st K=
  (mU args.toList st/\∃r,(Ct P f (iI args.toList st) st.obj fun r' σ'=>r'=r/\σ'=st.obj)/\K (st.put d (.d r))):=rfl
theorem aTh :As P c d (.call ⟨.value (.func f),args,ts⟩) .nd st K=
  ∃Q,(mU args.toList st/\Ct P f (iI args.toList st) st.obj Q/\∃r σ0,Q r σ0)/\∀r σ0,Q r σ0->K (({ st with obj:=σ0 } :St).put d (.d r)):=rfl
theorem aDr :As P c d (.call ⟨.value (.func f),args,ts⟩) .readT st K=
  (mU args.toList st/\∃r,(∀J,Ct P f (iI args.toList st) (st.obj++J) fun r' σ'=>r'=r/\σ'=st.obj++J)/\K (st.put d (.d r))):=rfl
theorem aJ5 :As P c d (.call ⟨.value (.func f),args,ts⟩) .detA st K=
  (mU args.toList st/\∃r J,(Ct P f (iI args.toList st) st.obj fun r' σ'=>r'=r/\σ'=st.obj++J)/\K (({ st with obj:=st.obj++J } :St).put d (.d r))):=rfl
theorem aN7 :As P c d (.call ⟨.value (.func f),args,ts⟩) .det st K=
  (mU args.toList st/\∃r σ0,(Ct P f (iI args.toList st) st.obj fun r' σ'=>r'=r/\σ'=σ0)/\K (({ st with obj:=σ0 } :St).put d (.d r))):=rfl
theorem aBg {a b:Code} {s:Slot} (hs:eF l t=s)
  (h:Aq s.toD (eO rr dfr P a Q (St.mk' n ((t,.d (.bool true))::l) loc obj)) (eO rr dfr P b Q (St.mk' n ((t,.d (.bool false))::l) loc obj))):eO rr dfr P (.cond (.tmp t) a b) Q (St.mk' n l loc obj):=by
 unfold Aq at h;split at h
 .rename_i v hv;have hs':eF l t= .d (.v (.bool v)):=by
   rw [hs];cases s with
   | d d=>simp only [Slot.toD] at hv;rw [hv]
   | lref n o=>simp [Slot.toD] at hv
  rw [Im hs'];cases v with
  | true=>exact aX (t:=true) (by simp [St.rd,St.rdS,sP,St.mk']) (fun _=>h.1 rfl) (fun h=>by cases h)
  | false=>exact aX (t:=false) (by simp [St.rd,St.rdS,sP,St.mk']) (fun h=>by cases h) (fun _=>h.2 rfl)
 exact h.elim
def sW (o : Oper) : Oper := ⟨o.dst, o.op, 0, "", #[], o.guard⟩
theorem qW:List.map sW []= []:=rfl
theorem oN (d : Option Tmp) (op : Op) (ty : TypeId) (pos : String) (after : Array Edge) (g : Option (Nat × Bool)) (r : List Oper) : List.map sW (⟨d, op, ty, pos, after, g⟩ :: r) = ⟨d, op, 0, "", #[], g⟩ :: List.map sW r := rfl
theorem Kh :∀(r:List Oper) (st:St),qC P c all (r.map sW) st K=qC P c all r st K
 | [],_=>rfl
 | o :: r, st => by
  have ih:(fun st'=>qC P c all (r.map sW) st' K)=fun st'=>qC P c all r st' K:=funext fun st'=>Kh r st';show qC P c all (sW o::r.map sW) st K=_
  unfold qC;simp only [sW,ih];split
  .rfl
  split
  .split
   .rw [Kh r];rfl
   rfl
  rfl
theorem Fa :∀(r:List Oper) (ks:List DK) (st:St),lD P c all (r.map sW) ks st K=lD P c all r ks st K
 | [],_,_=>rfl
 | _::_, [],_=>rfl
 | o :: r, k :: ks, st => by
  have ih:(fun st'=>lD P c all (r.map sW) ks st' K)=fun st'=>lD P c all r ks st' K:=funext fun st'=>Fa r ks st';show lD P c all (sW o::r.map sW) (k::ks) st K=_
  unfold lD;simp only [sW,ih];congr 1;split
  .rfl
  split
  .split
   .rw [Fa r]
   rfl
  rfl
theorem tK {id:Nat} (he:ops.map sW=ops')(h:∀all:List Oper,(∀j,aN all j=aN ops j)->∀K:St->Prop,(∀s,Q .normal s->K s)->qC P c all ops' st K):eO rr dfr P (.region id ops.toArray false) Q st:=
 Xa fun K hK=>by
  have:=h ops (fun _=>rfl) K hK
  rwa [<- he,Kh] at this
theorem Nj {id:Nat} (ks:List DK) (hm:P.follows .mixedOrders=true)(hok:Kg c ops ks=true)(he:ops.map sW=ops')
  (h:∀all:List Oper,(∀j,aN all j=aN ops j)->∀K:St->Prop,(∀s,Q .normal s->K s)->lD P c all ops' ks st K):eO rr dfr P (.region id ops.toArray true) Q st:=
 aHs ks hm hok fun K hK=>by
  have:=h ops (fun _=>rfl) K hK
  rwa [<- he,Fa] at this
def Yw:D->Prop
 | .v (.slice none 0 0)=>True
 | _=>False
def Kx(x y:D):Prop:=y=x\/(x.plain=true/\y=x.strip)\/(Yw x/\(y= .sl false []\/y= .sl true []))
theorem Xm:Yw (.v (.slice none 0 0))=True:=rfl
def oK:List D->List D->Prop
 | [], []=>True
 | a::r,b::q=>Kx a b/\oK r q
 | _,_=>False
theorem iR {b:List D} (h:a=b):oK a b:=by
 subst h;induction a with
 | nil=>trivial
 | cons x r ih=>exact⟨.inl rfl,ih⟩
theorem Ku:∀ {a b:List D},oK a b->a.length=b.length
 | [], [],_=>rfl
 | _::_,_::_,h=>by simp [Ku h.2]
 | [],_::_,h=>h.elim
 | _::_, [],h=>h.elim
theorem Jo:∀ {a b:List D},oK a b->∀(i:Nat) (y:D),b[i]?=some y->∃x,a[i]?=some x/\Kx x y
 | x::_,_::_,h,0,y,hy=>by simp at hy;subst hy;exact⟨x,rfl,h.1⟩
 | _::_,_::_,h,i+1,y,hy=>by simpa using Jo h.2 i y (by simpa using hy)
 | [], [],_,_,_,hy=>by simp at hy
 | [],_::_,h,_,_,_=>h.elim
 | _::_, [],h,_,_,_=>h.elim
theorem Ct.of_le {a':List D} {σ σ':List (List D)} {Q:D->List (List D)->Prop} (h:Ct P f a σ Q)(e:oK a' a)(e2:σ'=σ):Ct P f a' σ' Q:=by
 subst e2;refine⟨h.1,fun w g vs hs hb ho=>h.2 w g vs (by rw [hs,Ku e]) hb ⟨ho.mem,ho.xlt,fun t=>?_,ho.ll,ho.loc,ho.ol,ho.obj⟩⟩;have hsl:=ho.slot t;simp only [St.ofArgs] at hsl |-;unfold fY at hsl |-;cases hy:a[t]? with
 | none=>exact⟨.any _,.flat _ _ _ rfl⟩
 | some y =>
  obtain⟨x,hx,hle⟩:=Jo e t y hy;rw [hx] at hsl;rcases hle with rfl | ⟨hp,rfl⟩ | ⟨hn,hy⟩
  .exact hsl
  .exact rN hsl.1 hp t
  have hxn:x= .v (.slice none 0 0):=by
   unfold Yw at hn;split at hn
   .rfl
   exact hn.elim
  subst hxn;obtain⟨hr,_⟩:=hsl;have hv:=hr.vEq;rcases hy with rfl | rfl
  .exact⟨by rw [hv];exact .nil _,.flat _ _ _ rfl⟩
  exact⟨by rw [hv];exact .nil _,.sl _ _ _ (.inl ⟨_,_,hv⟩)⟩
theorem Ay:∀(sets:List (Nat×Slot)) (l:List (Nat×Slot)),fX sets (eF l)=eF (sets.reverseAux l)
 | [],l=>rfl
 | (a,s)::r,l=>by
  show fX r (fun u=>if u=a then s else eF l u)=_
  have:(fun u=>if u=a then s else eF l u)=eF ((a,s)::l):=by funext u;rw [sP]
  rw [this,Ay r];rfl
theorem aSb(n:Nat)(l:List (Nat×Slot))(loc obj:List (List D))(sets:List (Nat×Slot))(ob:Option (List (List D))):(St.mk' n l loc obj).upd ⟨sets,none,ob⟩=St.mk' n (sets.reverseAux l) loc (ob.getD obj):=by
 show({ n:=n,env:=fX sets (eF l),loc:=loc,obj:=ob.getD obj } :St)=_
 rw [Ay];rfl
theorem Ya(l:List (Nat×Slot)):List.reverseAux [] l=l:=rfl
theorem Wg(a:Nat×Slot)(r l:List (Nat×Slot)):List.reverseAux (a::r) l=List.reverseAux r (a::l):=rfl
def exS(R:pN)(K:List (Nat×Slot)->Option (List (List D))->Prop):Prop:=∃sets ob,R sets ob/\K sets ob
@[congr] theorem aXb {R':pN} {K:List (Nat×Slot)->Option (List (List D))->Prop} (h:R=R'):exS R K=exS R' K:=by rw [h]
theorem aSd {alt:Bool} :vcY P alt dst op st K=exS (fun sets ob=>yR P alt dst op st.rdS (if(flY alt op).rO=true then st.obj else []) sets ob) (fun sets ob=>K (st.upd ⟨sets,none,ob⟩)):=rfl
theorem aT4 {S:List (Nat×Slot)} {O:Option (List (List D))} {K:List (Nat×Slot)->Option (List (List D))->Prop} :exS (fun sets ob=>sets=S/\ob=O) K=K S O:=by
 apply propext;constructor
 .rintro⟨_,_,⟨rfl,rfl⟩,h⟩;exact h
 intro h;exact⟨_,_,⟨rfl,rfl⟩,h⟩
theorem aPv {C:Prop} {K:List (Nat×Slot)->Option (List (List D))->Prop} :exS (fun sets ob=>C/\R sets ob) K=(C/\exS (fun sets ob=>R sets ob) K):=by
 apply propext;constructor
 .rintro⟨_,_,⟨h1,h2⟩,h⟩;exact⟨h1,_,_,h2,h⟩
 rintro⟨h1,_,_,h2,h⟩;exact⟨_,_,⟨h1,h2⟩,h⟩
theorem aSt {R:α->pN} {K:List (Nat×Slot)->Option (List (List D))->Prop} :exS (fun sets ob=>∃x,R x sets ob) K=∃x,exS (fun sets ob=>R x sets ob) K:=by
 apply propext;constructor
 .rintro⟨_,_,⟨x,h2⟩,h⟩;exact⟨x,_,_,h2,h⟩
 rintro⟨x,_,_,h2,h⟩;exact⟨_,_,⟨x,h2⟩,h⟩
theorem aTt {S:pN} {K:List (Nat×Slot)->Option (List (List D))->Prop} :exS (fun sets ob=>R sets ob\/S sets ob) K=(exS (fun sets ob=>R sets ob) K\/exS (fun sets ob=>S sets ob) K):=by
 apply propext;constructor
 .rintro⟨_,_,h1 | h1,h⟩
  .exact .inl ⟨_,_,h1,h⟩
  exact .inr ⟨_,_,h1,h⟩
 rintro(⟨_,_,h1,h⟩ | ⟨_,_,h1,h⟩)
 .exact⟨_,_,.inl h1,h⟩
 exact⟨_,_,.inr h1,h⟩
theorem aUy {K:List (Nat×Slot)->Option (List (List D))->Prop} :exS (fun _ _=>False) K=False:=by
 apply propext;exact⟨fun⟨_,_,h,_⟩=>h,False.elim⟩
attribute [simp] aSd aT4 aPv aSt aTt aUy
attribute [simp] aSb Ya Wg isY Du Rn yR yA1 yA2 Et Po aEz aEm xS Pr aFv flY We Be aMx Xm uZ vH xL Jm sT Nv aGk bnE Bool.true_or Bool.false_or
theorem aFq(cs:List D):D.strip (.tup cs)= .tup (cs.map D.s2):=rfl
attribute [simp] aFq D.plain
theorem aSi(n:Nat)(cs:List D):zK true n cs=if n<=cs.length then some (.agg (cs.take n))else none:=rfl
theorem aS2(n:Nat)(cs:List D):zK false n cs=cs.head?:=rfl
theorem bH(cs:List D)(off:Nat)(ds:List D):dT cs off ds=cs.take off++ds++cs.drop (off+ds.length):=rfl
attribute [simp low] aSi aS2 bH
attribute [simp] Qt Ur aTa aKv aGi aNt aJn aN7 aDr aJ5 aTh
attribute [simp] aEf aIk aI8 aT5 aWb aUl aTc aRw aU9 aV0 aTd aEt aK9 aG2 aE1 aLb aHc Yb aDu aEb aEr aIp aJj aV5 aSm aQn aR8 aO7 aK0 aDe sI lJ jS Zb Vr Rp aIe Uo aEc aDo Un Yg
attribute [simp] aPt List.getElem?_cons_zero Option.bind_some aCd Ig Ic Hr Pi Pd aQq aHz aKi aNb aM3 aB4 aEl aG8 aSa aLf yK aU0 aK8
 aQc aKs Xz aP3 aOd aO1 aG4 aF0 aDt aEo aCq aFy aXe aWn aSy aTj aSh aT7 aX8 aWm aSz aTk aT3
 aOn aI6 aDm aGb aGf aDq aCw aQi aLl aEi aGj aDk aC1 aId aFf Yz Xf aQr aK6 aEe aDz
 dL aPw aKz aL9 aEp aTm aO9 aKl aJ7 aNx aRe aRh aTs aS9 aRp aR3 aEv aSp aS4 aO2 aGp aJg sS jC Re aNp dR vcX Eh lN sL uP qJ iW flX yN Jg Ts kP vW Hh aOh Gs Ho lO jU nD mV vB vK gJ qK Qw vD pQ
 tJ Hf xU vQ lR qG rZ Lo sK wZ mJ mU iI vZ zT Ph St.cellsAt St.park Slot.plus Slot.isAddr aBy D.ofList
 aE3 Zc aOq aUj aN3 aKh nH aJm Ma aN2 aT9 aGq lU pO kB qT Ld Fq aJx aFs aFu aDb
end Go.Vm
