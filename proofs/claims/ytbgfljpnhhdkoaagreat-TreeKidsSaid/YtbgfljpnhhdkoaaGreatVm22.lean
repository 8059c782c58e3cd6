import Derived.Test.YtbgfljpnhhdkoaaGreatVm21
set_option linter.all false
namespace Go.Vm
open Go
variable {A B:Prop}{K:St->Prop}{P:Program}{Q:Exit->St->Prop}{R:oZ}{a:List D}{after:Array Edge}{all ops ops' r:List Oper}{args:Array Operand}{b want:Bool}{body y:Code}{c:Cfg}{d dst:Option Tmp}{f:FuncId}{i j n t:Nat}{k:DK}{ks:List DK}{l l2:List (Nat×Slot)}{loc obj:List (List D)}{op:Op}{pos:String}{s st:St}{ts:Array TypeId}{ty:TypeId}{α:Type}
variable {rr:Option Nat} {dfr:List Deferred}
section
theorem dV (h:eV rr dfr P y Q s):tO rr dfr P y Q .normal s:=h
theorem Ba (h:Q (.exit i) s):tO rr dfr P y Q (.exit i) s:=h
theorem aHh (h:Q .ret s):tO rr dfr P y Q .ret s:=h
theorem kT (h:Q .normal s):rA i Q .normal s:=h
theorem xR (h:Q .normal s):rA i Q (.exit i) s:=by simpa [rA] using h
theorem aC2 (h:Q .ret s):rA i Q .ret s:=h
theorem Cz {S:α->St} {p:α->Prop} {m:α->Nat} {x:α} (h:Q (.exit i) s):Bu S p m x Q (.exit i) s:=h
def Ao(d:D)(A B:Prop):Prop:=match d with
 | .v (.bool t)=>(t=true->A)/\(t=false->B)
 | _=>False
theorem aF (h:∀K':St->Prop,(∀s,pV P c all r s K->K' s)->Xy d st/\iQ P c d op st K'):pV P c all (⟨d,op,ty,pos,after,none⟩::r) st K:=
 h _ fun _ h=>h
theorem aB9 (n:Nat) (h:∀K':St->Prop,(∀s,pV P c all (r.drop n) s K->K' s)->pV P c all (r.take n) st K'):pV P c all r st K:=by
 have go:∀(n:Nat) (r:List Oper) (st:St),pV P c all (r.take n) st (fun s=>pV P c all (r.drop n) s K)->pV P c all r st K:=by
  intro n;induction n with
  | zero=>intro r st h;exact h
  | succ n ih =>
   intro r st h;cases r with
   | nil=>exact h
   | cons o r =>
    simp only [Gg,List.drop_succ_cons] at h;unfold pV at h |-;split at h
    .rename_i hg;have hd:=h.1;refine⟨hd,?_⟩;exact Ad (fun s hs=>ih r s hs) h.2
    rename_i j want hg;split at h
    .split at h
     .exact⟨fun hb=>⟨(h.1 hb).1,Ad (fun s hs=>ih r s hs) (h.1 hb).2⟩,fun hb=>⟨(h.2 hb).1,ih r _ (h.2 hb).2⟩⟩
     exact h.elim
    exact h.elim
 exact go n r st (h _ fun _ h=>h)
theorem aTz (hg:aO all j=some t)(hs:st.env t= .d (.v (.bool b)))
  (h1:b=want->∀K':St->Prop,(∀s,pV P c all r s K->K' s)->Xy d st/\iQ P c d op st K') (h2:b= !want->Xy d st/\pV P c all r (st.put d .und) K):pV P c all (⟨d,op,ty,pos,after,some (j,want)⟩::r) st K:=by
 rw [Nh];simp only [hg,hs];exact⟨fun hb=>h1 hb _ fun _ h=>h,h2⟩
theorem aSn (hg:aO all j=some t)(hs:st.env t= .d (.v (.bool b)))(hb:b=want)
  (h1:∀K':St->Prop,(∀s,pV P c all r s K->K' s)->Xy d st/\iQ P c d op st K'):pV P c all (⟨d,op,ty,pos,after,some (j,want)⟩::r) st K:=
 aTz hg hs (fun _=>h1) fun h=>(by rw [hb] at h;cases want <;> cases h)
theorem Kx (hs:eE l t= .d (.v (.bool b))):St.mk' n l loc obj=St.mk' n ((t,.d (.bool b))::l) loc obj:=by
 unfold St.mk';congr 1;funext u;simp only [eE];split
 .rename_i e;rw [e,hs]
 rfl
theorem aJx (t:Nat) {s:Slot} (hs:eE l t=s)
  (h:Ao s.toD (pV P c all r (St.mk' n ((t,.d (.bool true))::l) loc obj) K) (pV P c all r (St.mk' n ((t,.d (.bool false))::l) loc obj) K)):pV P c all r (St.mk' n l loc obj) K:=by
 unfold Ao at h;split at h
 .rename_i b hb;have hs':eE l t= .d (.v (.bool b)):=by
   rw [hs];cases s with
   | d d=>simp only [Slot.toD] at hb;rw [hb]
   | lref n o=>simp [Slot.toD] at hb
  rw [Kx hs'];cases b
  .exact h.2 rfl
  exact h.1 rfl
 exact h.elim
def aRx(P:Program)(c:Cfg)(all r:List Oper)(K:St->Prop):St->Prop:=fun st=>pV P c all r st K
theorem aKf :aRx P c all r K st=pV P c all r st K:=rfl
theorem aNo :pV P c all (⟨d,op,ty,pos,after,none⟩::r) st K=(Xy d st/\iQ P c d op st (aRx P c all r K)):=rfl
def aKa(P:Program)(c:Cfg)(all r:List Oper)(ks:List DK)(K:St->Prop):St->Prop:=fun st=>kX P c all r ks st K
theorem aD0 :aKa P c all r ks K st=kX P c all r ks st K:=rfl
theorem aKu :kX P c all (⟨d,op,ty,pos,after,none⟩::r) (k::ks) st K=(Xy d st/\zU P c d op k st (aKa P c all r ks K)):=rfl
@[congr] theorem aT9 {op:BinOp} {t:TypeId} {x y x' y':Slot} {K:D->Prop} (hx:x=x')(hy:y=y'):vO P op t x y K=vO P op t x' y' K:=by rw [hx,hy]
@[congr] theorem aTt {op:BinOp} {k:IntKind} {a b a' b':Int} {K:D->Prop} (hx:a=a')(hy:b=b'):Gj op k a b K=Gj op k a' b' K:=by rw [hx,hy]
@[congr] theorem aUq {op:BinOp} {a b a' b':ByteArray} {K:D->Prop} (hx:a=a')(hy:b=b'):Gl op a b K=Gl op a' b' K:=by rw [hx,hy]
@[congr] theorem aUr {t:TypeId} {b a' b':List D} {K:Bool->Prop} (hx:a=a')(hy:b=b'):zH P t a b K=zH P t a' b' K:=by rw [hx,hy]
@[congr] theorem aV7 {op:UnOp} {x x':D} {K:D->Prop} (hx:x=x'):Hc op x K=Hc op x' K:=by rw [hx]
def sel(b:Bool)(s r:Slot):Slot:=if b=true then s else r
@[congr] theorem aW8 {b':Bool} {s r:Slot} (h:b=b'):sel b s r=sel b' s r:=by rw [h]
theorem aP6 {s r:Slot} :sel true s r=s:=rfl
theorem aQs {s r:Slot} :sel false s r=r:=rfl
theorem Oq(a:Nat)(s:Slot)(r:List (Nat×Slot))(t:Nat):eE ((a,s)::r) t=sel (t==a) s (eE r t):=by
 simp only [eE,sel,wX]
def gv3(s:Slot)(want:Bool):Option Bool:=Gz s want
def gv2(o:Option Tmp)(st:St)(want:Bool):Option Bool:=match o with
 | some t=>gv3 (st.env t) want
 | none=>none
@[congr] theorem aWx {o o':Option Tmp} (h:o=o'):gv2 o st want=gv2 o' st want:=by rw [h]
theorem aLg(t:Tmp)(st:St)(want:Bool):gv2 (some t) st want=gv3 (st.env t) want:=rfl
theorem aJr(b want:Bool):gv3 (.d (.v (.bool b))) want=some b:=rfl
theorem aMv(want:Bool):gv3 (.d (.tup [])) want=some (!want):=rfl
def aHq(all:List Oper)(j:Nat)(st:St)(want:Bool):Option Bool:=match aO all j with
 | some t=>Gz (st.env t) want
 | none=>none
theorem aPq(all:List Oper)(j:Nat)(st:St)(want:Bool):aHq all j st want=gv2 (aO all j) st want:=rfl
def vcG(g:Option Bool)(want:Bool)(A B:Prop):Prop:=match g with
 | some b=>(b=want->A)/\(b= !want->B)
 | none=>False
@[congr] theorem aTe {g g':Option Bool} (h:g=g'):vcG g want A B=vcG g' want A B:=by rw [h]
theorem aSl :vcG (some true) true A B=A:=by simp [vcG]
theorem aRv :vcG (some true) false A B=B:=by simp [vcG]
theorem aR7 :vcG (some false) true A B=B:=by simp [vcG]
theorem aS7 :vcG (some false) false A B=A:=by simp [vcG]
theorem aS4 :pV P c all (⟨d,op,ty,pos,after,some (j,want)⟩::r) st K=
  vcG (aHq all j st want) want (Xy d st/\iQ P c d op st (aRx P c all r K)) (Xy d st/\pV P c all r (st.put d .und) K):=by
 rw [Nh];unfold aHq vcG;split
 .rename_i t ht;simp only [ht];split
  .rename_i h;simp [h];exact fun _=>Iff.rfl
  rename_i h;simp [h]
 rename_i h;simp [h]
def Xd(d:D)(A B:Prop):Prop:=match d with
 | .v (.bool t)=>(t=true->A)/\(t=false->B)
 | _=>False
@[congr] theorem aSr {d d':D} (h:d=d'):Xd d A B=Xd d' A B:=by rw [h]
theorem aQu :Xd (.v (.bool true)) A B=A:=by simp [Xd]
theorem aRs :Xd (.v (.bool false)) A B=B:=by simp [Xd]
theorem aD9 {c a b:Operand} :zP dst c a b st K=Xd (st.rd c) ((st.rd a).plain=true/\K (st.put dst (.d (st.rd a).strip))) ((st.rd b).plain=true/\K (st.put dst (.d (st.rd b).strip))):=rfl
theorem Uz {K':St->Prop} (hk:∀s,K s->K' s)(h:zU P c dst op k st K):zU P c dst op k st K':=by
 unfold zU at *;cases k with
 | op f=>exact⟨h.1,h.2.1,Ad hk h.2.2⟩
 | pure=>
  simp only at *;split at h
  .obtain⟨h1,r,h2,h3⟩:=h;exact⟨h1,r,h2,hk _ h3⟩
  exact h
 | pureC =>
  simp only at *;split at h
  .split at h
   .rename_i hf;obtain⟨h0,h1,r,h2,h3⟩:=h;exact⟨h0,h1,r,h2,hk _ h3⟩
   exact h.elim
  exact h
 | read=>
  simp only at *;split at h
  .obtain⟨h1,r,h2,h3⟩:=h;exact⟨h1,r,h2,hk _ h3⟩
  exact h
 | det=>
  simp only at *;split at h
  .obtain⟨h1,r,σ0,h2,h3⟩:=h;exact⟨h1,r,σ0,h2,hk _ h3⟩
  exact h
 | readT=>
  simp only at *;split at h
  .obtain⟨h1,r,h2,h3⟩:=h;exact⟨h1,r,h2,hk _ h3⟩
  exact h
 | nd=>
  obtain⟨Q,h1,h2⟩:=h;exact⟨Q,h1,fun r σ0 hq=>hk _ (h2 r σ0 hq)⟩
 | detA=>
  simp only at *;split at h
  .obtain⟨h1,r,J,h2,h3⟩:=h;exact⟨h1,r,J,h2,hk _ h3⟩
  exact h
 | pureT=>
  simp only at *;split at h
  .obtain⟨h0,h1,r,h2,h3⟩:=h;exact⟨h0,h1,r,h2,hk _ h3⟩
  exact h
 | detT=>
  simp only at *;split at h
  .obtain⟨h0,h1,r,σ0,h2,h3⟩:=h;exact⟨h0,h1,r,σ0,h2,hk _ h3⟩
  exact h
theorem uA :kX P c all [] ks st K=K st:=by unfold kX;rfl
theorem aO7 :kX P c all (⟨d,op,ty,pos,after,some (j,want)⟩::r) (k::ks) st K=
  (Xy d st/\vcG (aHq all j st want) want (zU P c d op k st (aKa P c all r ks K)) (kX P c all r ks (st.put d .und) K)):=by
 conv=>lhs;unfold kX
 show(_/\_)=_
 congr 1;simp only;unfold aHq vcG;split
 .rename_i t ht;simp only [ht];split
  .rename_i h;simp [h];exact fun _=>Iff.rfl
  rename_i h;simp [h]
 rename_i h;simp [h]
theorem cH (h:∀K':St->Prop,(∀s,kX P c all r ks s K->K' s)->Xy d st/\zU P c d op k st K'):kX P c all (⟨d,op,ty,pos,after,none⟩::r) (k::ks) st K:=
 h _ fun _ h=>h
theorem Yg (n:Nat) (hks:n<=ks.length)(h:∀K':St->Prop,(∀s,kX P c all (r.drop n) (ks.drop n) s K->K' s)->kX P c all (r.take n) (ks.take n) st K'):kX P c all r ks st K:=by
 have go : ∀ (n : Nat) (r : List Oper) (ks : List DK) (st : St), n <= ks.length -> kX P c all (r.take n) (ks.take n) st (fun s => kX P c all (r.drop n) (ks.drop n) s K) -> kX P c all r ks st K := by
  intro n;induction n with
  | zero=>intro r ks st _ h;simp only [List.take_zero,xT,uA] at h;exact h
  | succ n ih =>
   intro r ks st hks h;cases ks with
   | nil=>simp at hks
   | cons k ks =>
    cases r with
    | nil=>simp only [List.take_nil,List.drop_nil,uA] at h |-;exact h
    | cons o r =>
     simp only [Gg,List.drop_succ_cons] at h;simp only [bO] at hks;unfold kX at h |-;refine⟨h.1,?_⟩;have h2:=h.2;split at h2
     .exact Uz (fun s hs=>ih r ks s (by omega) hs) h2
     split at h2
     .split at h2
      .exact⟨fun hb=>Uz (fun s hs=>ih r ks s (by omega) hs) (h2.1 hb),fun hb=>ih r ks _ (by omega) (h2.2 hb)⟩
      exact h2.elim
     exact h2.elim
 exact go n r ks st hks (h _ fun _ h=>h)
theorem aDb (t:Nat) {s:Slot} (hs:eE l t=s)
  (h:Ao s.toD (kX P c all r ks (St.mk' n ((t,.d (.bool true))::l) loc obj) K) (kX P c all r ks (St.mk' n ((t,.d (.bool false))::l) loc obj) K)):kX P c all r ks (St.mk' n l loc obj) K:=by
 unfold Ao at h;split at h
 .rename_i b hb;have hs':eE l t= .d (.v (.bool b)):=by
   rw [hs];cases s with
   | d d=>simp only [Slot.toD] at hb;rw [hb]
   | lref n o=>simp [Slot.toD] at hb
  rw [Kx hs'];cases b
  .exact h.2 rfl
  exact h.1 rfl
 exact h.elim
def mP:List Nat->List (Nat×Slot)->List (Nat×Slot)
 | _, []=> []
 | W,(t,s)::r=>if W.contains t then mP W r else(t,s)::mP (t::W) r
theorem aOl(n:Nat)(s:Slot):Rw n s (.d .any)=True:=by
 unfold Rw;split <;> simp_all
theorem aUz(n:Nat)(x:D):Rw n (.d x) (.d x)=True:=by
 cases x with
 | sl o es=>cases o <;> simp [Rw]
 | _=>simp [Rw]
theorem aPt(n:Nat)(es:List D):Rw n (.d (.sl true es)) (.d (.sl false es))=True:=by
 unfold Rw;simp
theorem aLd(n m o:Nat):Rw n (.lref m o) (.lref m o)=(m<n):=by
 unfold Rw;simp
def zM(n:Nat)(env:Nat->Slot):List (Nat×Slot)->Prop
 | []=>True
 | (a,s)::r=>Rw n (env a) s/\zM n env r
theorem aCi(n:Nat)(env:Nat->Slot):zM n env []=True:=rfl
theorem Wt(n:Nat)(env:Nat->Slot)(a:Nat)(s:Slot)(r:List (Nat×Slot)):zM n env ((a,s)::r)=(Rw n (env a) s/\zM n env r):=rfl
theorem vI {env:Nat->Slot} :∀ {l:List (Nat×Slot)},zM n env l->∀p∈l,Rw n (env p.1) p.2
 | [],_,p,hp=>by simp at hp
 | (a,s)::r,h,p,hp=>by
  rcases bM.1 hp with rfl | hp
  .exact h.1
  exact vI h.2 p hp
theorem eG (hn:st.n=n)(hl:zM loc.length st.env l)(hloc:loc<+:st.loc)(hobj:st.obj=obj):Weak st (St.mk' n l loc obj):=
 Rs hn (vI hl) hloc hobj
theorem aY (F:α->List (Nat×Slot))(W:List Nat)(p:α->Prop)(m:α->Nat)(x0:α) 
  (hl:mP W l=l2) (hF:zM loc.length (eE l) (F x0++l2)) (hp:p x0)
  (h:∀x,p x->eV rr dfr P body (Bu (fun x=>St.mk' n (F x++l2) loc obj) p m x Q) (St.mk' n (F x++l2) loc obj)):eV rr dfr P (.loop body) Q (St.mk' n l loc obj):=
 Vp (fun x=>St.mk' n (F x++l2) loc obj) p m x0 (Rs rfl (vI hF) (Dr _) rfl) hp h
theorem oD (F:α->List (Nat×Slot))(G H:α->List (List D))(W:List Nat)(p:α->Prop)(m:α->Nat)(x0:α) 
  (hl:mP W l=l2) (hF:zM (G x0).length (eE l) (F x0++l2)) (hG:G x0=loc) (hH:H x0=obj) (hp:p x0)
  (h:∀x,p x->eV rr dfr P body (Bu (fun x=>St.mk' n (F x++l2) (G x) (H x)) p m x Q) (St.mk' n (F x++l2) (G x) (H x))):eV rr dfr P (.loop body) Q (St.mk' n l loc obj):=
 Vp (fun x=>St.mk' n (F x++l2) (G x) (H x)) p m x0 (Rs rfl (vI hF) (by rw [hG];exact Dr _) hH.symm) hp h
theorem fP {S:α->St} {p:α->Prop} {m:α->Nat} {x:α} (y:α)(hp:p y)(hm:m y<m x)(hw:Weak s (S y)):Bu S p m x Q .normal s:=⟨y,hp,hm,hw⟩
def aVu {α:Type} (S:α->St)(p:α->Prop)(Q:Exit->St->Prop):Exit->St->Prop
 | .normal,s=>∃y,p y/\Weak s (S y)
 | e,s=>Q e s
theorem Wj(n:Nat):D.strip (.mref n)= .mref n:=rfl
theorem aOm(n:Nat):D.s1 (.mref n)= .mref n:=rfl
theorem aPc(n:Nat):D.s2 (.mref n)= .mref n:=rfl
theorem Xo(n:Nat):D.plain (.mref n)=true:=rfl
theorem Xm(n:Nat):D.solid (.mref n)=true:=rfl
theorem Uw(n:Nat):D.ncells (.mref n)=1:=rfl
theorem Yk(n:Nat):D.cells (.mref n)= [.mref n]:=rfl
theorem aKn(kd:TypeDesc)(c:Nat)(kvs:List (Value×Nat×D)):D.strip (.mo kd c kvs)= .mz:=rfl
theorem aUc(kd:TypeDesc)(c:Nat)(kvs:List (Value×Nat×D)):D.s1 (.mo kd c kvs)= .mz:=rfl
theorem aVm(kd:TypeDesc)(c:Nat)(kvs:List (Value×Nat×D)):D.s2 (.mo kd c kvs)= .mz:=rfl
theorem aIv(kd:TypeDesc)(c:Nat)(kvs:List (Value×Nat×D)):D.plain (.mo kd c kvs)=true:=rfl
theorem aH1(kd:TypeDesc)(c:Nat)(kvs:List (Value×Nat×D)):D.solid (.mo kd c kvs)=true:=rfl
theorem aCp(kd:TypeDesc)(c:Nat)(kvs:List (Value×Nat×D)):D.ncells (.mo kd c kvs)=1:=rfl
theorem aJf(kd:TypeDesc)(c:Nat)(kvs:List (Value×Nat×D)):D.cells (.mo kd c kvs)= [.mo kd c kvs]:=rfl
theorem aC6(n a b:Nat)(l:List Nat):D.strip (.mit n a l b)= .any:=rfl
theorem aR0(n a b:Nat)(l:List Nat):D.s1 (.mit n a l b)= .any:=rfl
theorem aRr(n a b:Nat)(l:List Nat):D.s2 (.mit n a l b)= .any:=rfl
theorem aFv(n a b:Nat)(l:List Nat):D.plain (.mit n a l b)=true:=rfl
theorem aDq(n a b:Nat)(l:List Nat):D.solid (.mit n a l b)=false:=rfl
theorem aGi(n c:Nat)(kd:TypeDesc)(kvs:List (Value×Nat×D)):D.strip (.mp n kd c kvs)= .mref n:=rfl
theorem aU7(n c:Nat)(kd:TypeDesc)(kvs:List (Value×Nat×D)):D.s1 (.mp n kd c kvs)= .mref n:=rfl
theorem aVd(n c:Nat)(kd:TypeDesc)(kvs:List (Value×Nat×D)):D.s2 (.mp n kd c kvs)= .mref n:=rfl
theorem aHb(n c:Nat)(kd:TypeDesc)(kvs:List (Value×Nat×D)):D.plain (.mp n kd c kvs)=true:=rfl
theorem aMg(n c:Nat)(kd:TypeDesc)(kvs:List (Value×Nat×D)):D.solid (.mp n kd c kvs)=true:=rfl
theorem aDj(n c:Nat)(kd:TypeDesc)(kvs:List (Value×Nat×D)):D.ncells (.mp n kd c kvs)=1:=rfl
theorem aG8(n c:Nat)(kd:TypeDesc)(kvs:List (Value×Nat×D)):D.cells (.mp n kd c kvs)= [.mp n kd c kvs]:=rfl
theorem aCz(t:TypeId)(d:D):D.strip (.ifc t d)= .ifc t d:=rfl
theorem aRi(t:TypeId)(d:D):D.s1 (.ifc t d)= .ifc t d:=rfl
theorem aSi(t:TypeId)(d:D):D.s2 (.ifc t d)= .ifc t d:=rfl
theorem aD2(t:TypeId)(d:D):D.plain (.ifc t d)=true:=rfl
theorem aCu(t:TypeId)(d:D):D.solid (.ifc t d)=true:=rfl
theorem Zm(t:TypeId)(d:D):D.ncells (.ifc t d)=1:=rfl
theorem aEk(t:TypeId)(d:D):D.cells (.ifc t d)= [.ifc t d]:=rfl
theorem aGo(n:Nat):D.arr (.mref n)=true:=rfl
attribute [simp] aKn aUc aVm aIv aH1 aCp aJf aC6 aR0 aRr aFv aDq Wj aOm aPc Xo Xm Uw Yk aGi aU7 aVd aHb aMg aDj aG8 aCz aRi aSi aD2 aCu Zm aEk aGo
theorem aEa(n a b c:Nat):D.strip (.slo n a b c)= .slo n a b c:=rfl
theorem aJh(n:Nat):D.strip (.xl n)= .xl n:=rfl
theorem aH5(k:Nat)(es:List D):D.strip (.xs k es)= .xl es.length:=rfl
theorem aRd(n a b c:Nat):D.s2 (.slo n a b c)= .slo n a b c:=rfl
theorem aTs(n:Nat):D.s2 (.xl n)= .xl n:=rfl
theorem aVg(k:Nat)(es:List D):D.s2 (.xs k es)= .xl es.length:=rfl
theorem aSf(f:Go.Fn)(a b:List D):D.s2 (.clo f a b)= .clo f a b:=rfl
theorem aS1(n a b c:Nat):D.s1 (.slo n a b c)= .slo n a b c:=rfl
theorem aT4(n:Nat):D.s1 (.xl n)= .xl n:=rfl
theorem aVp(k:Nat)(es:List D):D.s1 (.xs k es)= .xl es.length:=rfl
theorem aS6(f:Go.Fn)(a b:List D):D.s1 (.clo f a b)= .clo f a b:=rfl
theorem aCy(n a b c:Nat):D.plain (.slo n a b c)=true:=rfl
theorem aGk(n:Nat):D.plain (.xl n)=true:=rfl
theorem aL7(k:Nat)(es:List D):D.plain (.xs k es)=true:=rfl
theorem aFb(n a b c:Nat):D.solid (.slo n a b c)=true:=rfl
theorem aLw(n:Nat):D.solid (.xl n)=true:=rfl
theorem aHf(k:Nat)(es:List D):D.solid (.xs k es)=true:=rfl
theorem Xu(n a b c:Nat):D.ncells (.slo n a b c)=1:=rfl
theorem aDg(n:Nat):D.ncells (.xl n)=1:=rfl
theorem aE9(k:Nat)(es:List D):D.ncells (.xs k es)=1:=rfl
theorem aD7(n a b c:Nat):D.cells (.slo n a b c)= [.slo n a b c]:=rfl
theorem aIp(n:Nat):D.cells (.xl n)= [.xl n]:=rfl
theorem aL4(k:Nat)(es:List D):D.cells (.xs k es)= [.xs k es]:=rfl
theorem aTr(x:Value):D.arr (.v x)=true:=rfl
theorem aSw(es:List D):D.arr (.sl false es)=true:=rfl
theorem aOi(cs:List D):D.arr (.agg cs)=cs.all D.flat:=rfl
theorem aSj(x:Value):D.flat (.v x)=true:=rfl
theorem aPf(es:List D):D.flat (.sl false es)=true:=rfl
theorem aL1(n o:Nat):D.flat (.ref n o)=true:=rfl
def Eu:List (Nat×List D)->List (List D)->List (List D)
 | [],l=>l
 | (n,c)::r,l=>(Eu r l).set n c
theorem oU(l:List (List D)):Eu [] l=l:=rfl
theorem mT(n:Nat)(c:List D)(r:List (Nat×List D))(l:List (List D)):Eu ((n,c)::r) l=(Eu r l).set n c:=rfl
theorem oB (F:α->List (Nat×Slot))(M N:α->List (Nat×List D))(W:List Nat)(p:α->Prop)(m:α->Nat)(x0:α) 
  (hl:mP W l=l2) (hF:zM (Eu (M x0) loc).length (eE l) (F x0++l2)) (hG:Eu (M x0) loc=loc) (hH:Eu (N x0) obj=obj) (hp:p x0)
  (h:∀x,p x->eV rr dfr P body (Bu (fun x=>St.mk' n (F x++l2) (Eu (M x) loc) (Eu (N x) obj)) p m x Q) (St.mk' n (F x++l2) (Eu (M x) loc) (Eu (N x) obj))):eV rr dfr P (.loop body) Q (St.mk' n l loc obj):=
 oD F (fun x=>Eu (M x) loc) (fun x=>Eu (N x) obj) W p m x0 hl hF hG hH hp h
theorem aE7 (l:List α)(a:α):(l++ [a])[l.length]?=some a:=by simp
theorem sF (l:List α)(a b:α):(l++ [a]).set l.length b=l++ [b]:=by simp
def Cs:List Nat->List (Nat×Slot)->List (Nat×Slot)
 | [],_=> []
 | t::r,l=>(t,eE l t)::Cs r l
theorem aFp(l:List (Nat×Slot)):Cs [] l= []:=rfl
theorem Lc(t:Nat)(r:List Nat)(l:List (Nat×Slot)):Cs (t::r) l=(t,eE l t)::Cs r l:=rfl
theorem On(l:List (Nat×Slot))(u:Nat):∀K:List Nat,eE (Cs K l) u=eE l u\/eE (Cs K l) u= .any
 | []=> .inr rfl
 | t::r=>by
  rw [Lc,sJ];split
  .rename_i h;subst h;exact .inl rfl
  exact On l u r
theorem aK6 (K:List Nat) {c:Code} (hl:Cs K l=l2)(h:eV rr dfr P c Q (St.mk' n l2 loc obj)):eV rr dfr P c Q (St.mk' n l loc obj):=by
 subst hl;intro w0 g0 w g tmps hf hok hn;refine h w0 g0 w g tmps hf ⟨hok.mem,hok.xlt,fun t=>?_,hok.ll,hok.loc,hok.ol,hok.obj⟩ hn;have hs:=hok.slot t;show SlotOk w g t (eE (Cs K l) t) _
 rcases On l t K with e | e
 .rw [e];exact hs
 rw [e];exact⟨.any _,.flat _ _ _ rfl⟩
theorem rT (ts k:Nat) {es:List D} {c:Code} (hs:eE l ts= .d (.xs k es))(hk0:0<k)
  (h:∀(cap:Nat) (rest:List D),es.length<=cap->cap<=maxLen->rest.length=(cap - es.length) * k->0<k->(∀d∈es,d.ncells=k/\d.arr=true)->eV rr dfr P c Q (St.mk' n ((ts,.d (.slo obj.length 0 es.length cap))::l) loc (obj++ [es.flatMap D.cells++rest]))):eV rr dfr P c Q (St.mk' n l loc obj):=by
 intro w0 g0 w g tmps hf hok hn;obtain⟨cap,rest,g',a1,a2,a3,a4,a5,_,hfr,hok'⟩:=hok.openX ts k es hs hk0;exact h cap rest a1 a2 a3 a4 a5 w0 g0 w g' tmps (hf.trans hfr) hok' hn
theorem iU (ts k:Nat) {es:List D} {c:Code} (hs:eE l ts= .d (.xs k es))(hk0:0<k)
  (h:∀(cap:Nat) (rest:List D),es.length<=cap->cap<=maxLen->rest=List.replicate ((cap - es.length) * k) .any->0<k->(∀d∈es,d.ncells=k/\d.arr=true)->eV rr dfr P c Q (St.mk' n ((ts,.d (.slo obj.length 0 es.length cap))::l) loc (obj++ [es.flatMap D.cells++rest]))):eV rr dfr P c Q (St.mk' n l loc obj):=by
 intro w0 g0 w g tmps hf hok hn;obtain⟨cap,rest,g',a1,a2,a3,a4,a5,_,hfr,hok'⟩:=hok.openX2 ts k es hs hk0;exact h cap rest a1 a2 a3 a4 a5 w0 g0 w g' tmps (hf.trans hfr) hok' hn
theorem fL (ts k m len cap:Nat)(es cs:List D) {c:Code} (hs:eE l ts= .d (.slo m 0 len cap))(hm:obj[m]?=some cs)(hk:0<k)(hcs:cs.length=cap * k)(hl:es.length=len)
  (hes:∀d∈es,d.ncells=k/\d.arr=true) (he:es.flatMap D.cells<+:cs) (h:eV rr dfr P c Q (St.mk' n ((ts,.d (.xs k es))::l) loc (obj.set m []))):eV rr dfr P c Q (St.mk' n l loc obj):=by
 intro w0 g0 w g tmps hf hok hn;obtain⟨g',_,hfr,hok'⟩:=hok.closeX ts k m len cap es cs hs hm hk hcs hl hes he;exact h w0 g0 w g' tmps (hf.trans hfr) hok' hn
theorem aJ2 (f:α->D)(l:List α)(k:Nat)(h:k<l.length):(l.map f).getD k .any=f l[k]:=by
 simp [List.getD,h]
theorem Lz (f:α->D)(l:List α)(k:Nat)(h:k<l.length):(l.map f)[k]?=some (f l[k]):=by
 simp [h]
theorem aMz(n:Int):inR .i64 n=(-9223372036854775808<=n/\n<=9223372036854775807):=by
 unfold inR;rfl
theorem aSt(n:Int):inR .u8 n=(0<=n/\n<=255):=by
 unfold inR;rfl
end
theorem aGj:Rv []=true:=rfl
theorem aDl(r:List (Option Holder)):Rv (none::r)=Rv r:=by simp [Rv]
theorem aEy(h:Holder)(r:List (Option Holder)):Rv (some h::r)=(!r.contains (some h) && Rv r):=by
 simp only [Rv,uO,id,gU,Bool.decide_and,List.contains_eq_mem];congr 1;rw [<- decide_not];congr 1;simp [oC]
theorem aCk:maxLen=9223372036854775807:=rfl
theorem aOq(n:Nat)(l:List (Nat×Slot))(loc obj:List (List D)):({ n:=n,env:=eE l,loc:=loc,obj:=obj } :St)=St.mk' n l loc obj:=rfl
def Ef:Slot->Slot
 | .d x=> .d x.strip
 | s=>s
def oN:List Nat->List (Nat×Slot)->List (Nat×Slot)
 | [],l=>l
 | t::r,l=>(t,Ef (eE l t))::oN r l
theorem Gv(l:List (Nat×Slot))(u:Nat):∀ts:List Nat,eE (oN ts l) u=if u∈ts then Ef (eE l u)else eE l u
 | []=>by simp [oN]
 | t::r=>by
  rw [oN,sJ,Gv l u r];by_cases h:u=t
  .subst h;simp
  simp [h]
theorem qU(l:List (Nat×Slot))(ts:List (Option Nat)):gQ ts (eE l)=eE (oN (ts.filterMap id) l):=by
 funext u;rw [Gv];by_cases h:some u∈ts
 .have h1:ts.contains (some u)=true:=by simpa using h
  have h2:u∈ts.filterMap id:=by simpa using h
  simp only [gQ,h1,aU,aJ h2,Ef];split <;> simp_all
 have h1:ts.contains (some u)=false:=by simpa using h
 have h2:¬u∈ts.filterMap id:=by simpa using h
 simp only [gQ,h1,aD h2];rfl
theorem Xr {d:Nat} {args:List Operand} :oP P (some d) f args (St.mk' n l loc obj) K=
  ((args.filterMap cG).Nodup/\(∀x∈args,zG ((St.mk' n l loc obj).rdS x)=true/\((St.mk' n l loc obj).rd x).plain=true)/\
   Ct P f (args.map (vQ (St.mk' n l loc obj))) obj (fun r σ'=>K (St.mk' n ((d,.d r)::oN (args.filterMap cG) l) loc σ'))):=by
 unfold oP;have e:(args.map cG).filterMap id=args.filterMap cG:=by rw [Dp];rfl
 simp only [Hi,Hs,Hr,aBo,qU,e];rfl
theorem Uj(l:List (Nat×Slot)):oN [] l=l:=rfl
theorem Rt(t:Nat)(r:List Nat)(l:List (Nat×Slot)):oN (t::r) l=(t,Ef (eE l t))::oN r l:=rfl
theorem aH0(x:D):Ef (.d x)= .d x.strip:=rfl
theorem Uk(a b:Nat):Ef (.lref a b)= .lref a b:=rfl
theorem aDr:List.filterMap cG []= []:=rfl
theorem aFr(t:Tmp)(r:List Operand):List.filterMap cG (.tmp t::r)=t::List.filterMap cG r:=rfl
theorem Vw(v:Value)(r:List Operand):List.filterMap cG (.const v::r)=List.filterMap cG r:=rfl
theorem Yn(v:FuncId)(r:List Operand):List.filterMap cG (.func v::r)=List.filterMap cG r:=rfl
theorem Ql {d:Nat} :
  zU P c (some d) (.call ⟨.value (.func f),args,ts⟩) .pureT (St.mk' n l loc obj) K=
  ((args.toList.filterMap cG).Nodup/\(∀x∈args.toList,zG ((St.mk' n l loc obj).rdS x)=true/\((St.mk' n l loc obj).rd x).plain=true)/\
   ∃r,(∀σ,Ct P f (args.toList.map (vQ (St.mk' n l loc obj))) σ fun r' σ'=>r'=r/\σ'=σ)/\K (St.mk' n ((d,.d r)::oN (args.toList.filterMap cG) l) loc obj)):=by
 have e:(args.toList.map cG).filterMap id=args.toList.filterMap cG:=by rw [Dp];rfl
 simp only [zU,Hi,Hs,Hr,aBo,qU,e];rfl
theorem Tb {d:Nat} :
  zU P c (some d) (.call ⟨.value (.func f),args,ts⟩) .detT (St.mk' n l loc obj) K=
  ((args.toList.filterMap cG).Nodup/\(∀x∈args.toList,zG ((St.mk' n l loc obj).rdS x)=true/\((St.mk' n l loc obj).rd x).plain=true)/\
   ∃r σ0,(Ct P f (args.toList.map (vQ (St.mk' n l loc obj))) obj fun r' σ'=>r'=r/\σ'=σ0)/\K (St.mk' n ((d,.d r)::oN (args.toList.filterMap cG) l) loc σ0)):=by
 have e:(args.toList.map cG).filterMap id=args.toList.filterMap cG:=by rw [Dp];rfl
 simp only [zU,Hi,Hs,Hr,aBo,qU,e];rfl
theorem aS5 {f:Fl} :zU P c d op (.op f) st K=(lI op=false/\oY c d st op=f/\iQ P c d op st K):=rfl
theorem aKm :zU P c d (.call ⟨.value (.func f),args,ts⟩) .pure st K=
  (mN args.toList st/\∃r,(∀σ,Ct P f (iB args.toList st) σ fun r' σ'=>r'=r/\σ'=σ)/\K (st.put d (.d r))):=rfl
def aU9(P:Program)(dst:Option Tmp)(d:D)(args:List Operand)(st:St)(K:St->Prop):Prop:=match d with
 | .clo (.func fid) first caps=>(∀d∈first++caps,d.plain=true)/\mN args st/\∃r,(∀σ,Ct P fid (first.map D.strip++iB args st++caps.map D.strip) σ fun r' σ'=>r'=r/\σ'=σ)/\K (st.put dst (.d r))
 | _=>False
theorem aEz {f:Operand} :zU P c d (.call ⟨.value f,args,ts⟩) .pureC st K=aU9 P d (st.rd f) args.toList st K:=rfl
theorem aNk {fid:FuncId} {first caps:List D} {args:List Operand} :aU9 P dst (.clo (.func fid) first caps) args st K=((∀d∈first++caps,d.plain=true)/\mN args st/\∃r,(∀σ,Ct P fid (first.map D.strip++iB args st++caps.map D.strip) σ fun r' σ'=>r'=r/\σ'=σ)/\K (st.put dst (.d r))):=rfl
theorem aG1 :zU P c d (.call ⟨.value (.func f),args,ts⟩) .read st K=
  (mN args.toList st/\∃r,(Ct P f (iB args.toList st) st.obj fun r' σ'=>r'=r/\σ'=st.obj)/\K (st.put d (.d r))):=rfl
theorem aQ2 :zU P c d (.call ⟨.value (.func f),args,ts⟩) .nd st K=
  ∃Q,(mN args.toList st/\Ct P f (iB args.toList st) st.obj Q/\∃r σ0,Q r σ0)/\∀r σ0,Q r σ0->K (({ st with obj:=σ0 } :St).put d (.d r)):=rfl
theorem aFd :zU P c d (.call ⟨.value (.func f),args,ts⟩) .readT st K=
  (mN args.toList st/\∃r,(∀J,Ct P f (iB args.toList st) (st.obj++J) fun r' σ'=>r'=r/\σ'=st.obj++J)/\K (st.put d (.d r))):=rfl
theorem aJe :zU P c d (.call ⟨.value (.func f),args,ts⟩) .detA st K=
  (mN args.toList st/\∃r J,(Ct P f (iB args.toList st) st.obj fun r' σ'=>r'=r/\σ'=st.obj++J)/\K (({ st with obj:=st.obj++J } :St).put d (.d r))):=rfl
theorem aMq :zU P c d (.call ⟨.value (.func f),args,ts⟩) .det st K=
  (mN args.toList st/\∃r σ0,(Ct P f (iB args.toList st) st.obj fun r' σ'=>r'=r/\σ'=σ0)/\K (({ st with obj:=σ0 } :St).put d (.d r))):=rfl
theorem aAa {a b:Code} {s:Slot} (hs:eE l t=s)
  (h:Ao s.toD (eV rr dfr P a Q (St.mk' n ((t,.d (.bool true))::l) loc obj)) (eV rr dfr P b Q (St.mk' n ((t,.d (.bool false))::l) loc obj))):eV rr dfr P (.cond (.tmp t) a b) Q (St.mk' n l loc obj):=by
 unfold Ao at h;split at h
 .rename_i v hv;have hs':eE l t= .d (.v (.bool v)):=by
   rw [hs];cases s with
   | d d=>simp only [Slot.toD] at hv;rw [hv]
   | lref n o=>simp [Slot.toD] at hv
  rw [Kx hs'];cases v with
  | true=>exact aZ (t:=true) (by simp [St.rd,St.rdS,sJ,St.mk']) (fun _=>h.1 rfl) (fun h=>by cases h)
  | false=>exact aZ (t:=false) (by simp [St.rd,St.rdS,sJ,St.mk']) (fun h=>by cases h) (fun _=>h.2 rfl)
 exact h.elim
def sQ (o : Oper) : Oper := ⟨o.dst, o.op, 0, "", #[], o.guard⟩
theorem qP:List.map sQ []= []:=rfl
theorem nZ (d : Option Tmp) (op : Op) (ty : TypeId) (pos : String) (after : Array Edge) (g : Option (Nat × Bool)) (r : List Oper) : List.map sQ (⟨d, op, ty, pos, after, g⟩ :: r) = ⟨d, op, 0, "", #[], g⟩ :: List.map sQ r := rfl
theorem Iz :∀(r:List Oper) (st:St),pV P c all (r.map sQ) st K=pV P c all r st K
 | [],_=>rfl
 | o :: r, st => by
  have ih:(fun st'=>pV P c all (r.map sQ) st' K)=fun st'=>pV P c all r st' K:=funext fun st'=>Iz r st';show pV P c all (sQ o::r.map sQ) st K=_
  unfold pV;simp only [sQ,ih];split
  .rfl
  split
  .split
   .rw [Iz r];rfl
   rfl
  rfl
theorem Ft :∀(r:List Oper) (ks:List DK) (st:St),kX P c all (r.map sQ) ks st K=kX P c all r ks st K
 | [],_,_=>rfl
 | _::_, [],_=>rfl
 | o :: r, k :: ks, st => by
  have ih:(fun st'=>kX P c all (r.map sQ) ks st' K)=fun st'=>kX P c all r ks st' K:=funext fun st'=>Ft r ks st';show kX P c all (sQ o::r.map sQ) (k::ks) st K=_
  unfold kX;simp only [sQ,ih];congr 1;split
  .rfl
  split
  .split
   .rw [Ft r]
   rfl
  rfl
theorem sY {id:Nat} (he:ops.map sQ=ops')(h:∀all:List Oper,(∀j,aO all j=aO ops j)->∀K:St->Prop,(∀s,Q .normal s->K s)->pV P c all ops' st K):eV rr dfr P (.region id ops.toArray false) Q st:=
 Zd fun K hK=>by
  have:=h ops (fun _=>rfl) K hK
  rwa [<- he,Iz] at this
theorem Mr {id:Nat} (ks:List DK) (hm:P.follows .mixedOrders=true)(hok:Jn c ops ks=true)(he:ops.map sQ=ops')
  (h:∀all:List Oper,(∀j,aO all j=aO ops j)->∀K:St->Prop,(∀s,Q .normal s->K s)->kX P c all ops' ks st K):eV rr dfr P (.region id ops.toArray true) Q st:=
 aHi ks hm hok fun K hK=>by
  have:=h ops (fun _=>rfl) K hK
  rwa [<- he,Ft] at this
def Ya:D->Prop
 | .v (.slice none 0 0)=>True
 | _=>False
def Im(x y:D):Prop:=y=x\/(x.plain=true/\y=x.strip)\/(Ya x/\(y= .sl false []\/y= .sl true []))
theorem Wp:Ya (.v (.slice none 0 0))=True:=rfl
def nW:List D->List D->Prop
 | [], []=>True
 | a::r,b::q=>Im a b/\nW r q
 | _,_=>False
theorem iF {b:List D} (h:a=b):nW a b:=by
 subst h;induction a with
 | nil=>trivial
 | cons x r ih=>exact⟨.inl rfl,ih⟩
theorem Jv:∀ {a b:List D},nW a b->a.length=b.length
 | [], [],_=>rfl
 | _::_,_::_,h=>by simp [Jv h.2]
 | [],_::_,h=>h.elim
 | _::_, [],h=>h.elim
theorem Kt:∀ {a b:List D},nW a b->∀(i:Nat) (y:D),b[i]?=some y->∃x,a[i]?=some x/\Im x y
 | x::_,_::_,h,0,y,hy=>by simp at hy;subst hy;exact⟨x,rfl,h.1⟩
 | _::_,_::_,h,i+1,y,hy=>by simpa using Kt h.2 i y (by simpa using hy)
 | [], [],_,_,_,hy=>by simp at hy
 | [],_::_,h,_,_,_=>h.elim
 | _::_, [],h,_,_,_=>h.elim
theorem Ct.of_le {a':List D} {σ σ':List (List D)} {Q:D->List (List D)->Prop} (h:Ct P f a σ Q)(e:nW a' a)(e2:σ'=σ):Ct P f a' σ' Q:=by
 subst e2;refine⟨h.1,fun w g vs hs hb ho=>h.2 w g vs (by rw [hs,Jv e]) hb ⟨ho.mem,ho.xlt,fun t=>?_,ho.ll,ho.loc,ho.ol,ho.obj⟩⟩;have hsl:=ho.slot t;simp only [St.ofArgs] at hsl |-;unfold fQ at hsl |-;cases hy:a[t]? with
 | none=>exact⟨.any _,.flat _ _ _ rfl⟩
 | some y =>
  obtain⟨x,hx,hle⟩:=Kt e t y hy;rw [hx] at hsl;rcases hle with rfl | ⟨hp,rfl⟩ | ⟨hn,hy⟩
  .exact hsl
  .exact rM hsl.1 hp t
  have hxn:x= .v (.slice none 0 0):=by
   unfold Ya at hn;split at hn
   .rfl
   exact hn.elim
  subst hxn;obtain⟨hr,_⟩:=hsl;have hv:=hr.vEq;rcases hy with rfl | rfl
  .exact⟨by rw [hv];exact .nil _,.flat _ _ _ rfl⟩
  exact⟨by rw [hv];exact .nil _,.sl _ _ _ (.inl ⟨_,_,hv⟩)⟩
theorem Bo:∀(sets:List (Nat×Slot)) (l:List (Nat×Slot)),fW sets (eE l)=eE (sets.reverseAux l)
 | [],l=>rfl
 | (a,s)::r,l=>by
  show fW r (fun u=>if u=a then s else eE l u)=_
  have:(fun u=>if u=a then s else eE l u)=eE ((a,s)::l):=by funext u;rw [sJ]
  rw [this,Bo r];rfl
theorem aRw(n:Nat)(l:List (Nat×Slot))(loc obj:List (List D))(sets:List (Nat×Slot))(ob:Option (List (List D))):(St.mk' n l loc obj).upd ⟨sets,none,ob⟩=St.mk' n (sets.reverseAux l) loc (ob.getD obj):=by
 show({ n:=n,env:=fW sets (eE l),loc:=loc,obj:=ob.getD obj } :St)=_
 rw [Bo];rfl
theorem Zf(l:List (Nat×Slot)):List.reverseAux [] l=l:=rfl
theorem Sf(a:Nat×Slot)(r l:List (Nat×Slot)):List.reverseAux (a::r) l=List.reverseAux r (a::l):=rfl
def exS(R:oZ)(K:List (Nat×Slot)->Option (List (List D))->Prop):Prop:=∃sets ob,R sets ob/\K sets ob
@[congr] theorem aXa {R':oZ} {K:List (Nat×Slot)->Option (List (List D))->Prop} (h:R=R'):exS R K=exS R' K:=by rw [h]
theorem aR5 {alt:Bool} :vcY P alt dst op st K=exS (fun sets ob=>yR P alt dst op st.rdS (if(flY alt op).rO=true then st.obj else []) sets ob) (fun sets ob=>K (st.upd ⟨sets,none,ob⟩)):=rfl
theorem aSv {S:List (Nat×Slot)} {O:Option (List (List D))} {K:List (Nat×Slot)->Option (List (List D))->Prop} :exS (fun sets ob=>sets=S/\ob=O) K=K S O:=by
 apply propext;constructor
 .rintro⟨_,_,⟨rfl,rfl⟩,h⟩;exact h
 intro h;exact⟨_,_,⟨rfl,rfl⟩,h⟩
theorem aOx {C:Prop} {K:List (Nat×Slot)->Option (List (List D))->Prop} :exS (fun sets ob=>C/\R sets ob) K=(C/\exS (fun sets ob=>R sets ob) K):=by
 apply propext;constructor
 .rintro⟨_,_,⟨h1,h2⟩,h⟩;exact⟨h1,_,_,h2,h⟩
 rintro⟨h1,_,_,h2,h⟩;exact⟨_,_,⟨h1,h2⟩,h⟩
theorem aQ4 {R:α->oZ} {K:List (Nat×Slot)->Option (List (List D))->Prop} :exS (fun sets ob=>∃x,R x sets ob) K=∃x,exS (fun sets ob=>R x sets ob) K:=by
 apply propext;constructor
 .rintro⟨_,_,⟨x,h2⟩,h⟩;exact⟨x,_,_,h2,h⟩
 rintro⟨x,_,_,h2,h⟩;exact⟨_,_,⟨x,h2⟩,h⟩
theorem aRa {S:oZ} {K:List (Nat×Slot)->Option (List (List D))->Prop} :exS (fun sets ob=>R sets ob\/S sets ob) K=(exS (fun sets ob=>R sets ob) K\/exS (fun sets ob=>S sets ob) K):=by
 apply propext;constructor
 .rintro⟨_,_,h1 | h1,h⟩
  .exact .inl ⟨_,_,h1,h⟩
  exact .inr ⟨_,_,h1,h⟩
 rintro(⟨_,_,h1,h⟩ | ⟨_,_,h1,h⟩)
 .exact⟨_,_,.inl h1,h⟩
 exact⟨_,_,.inr h1,h⟩
theorem aVr {K:List (Nat×Slot)->Option (List (List D))->Prop} :exS (fun _ _=>False) K=False:=by
 apply propext;exact⟨fun⟨_,_,h,_⟩=>h,False.elim⟩
attribute [simp] aR5 aSv aOx aQ4 aRa aVr
attribute [simp] aRw Zf Sf isY Fb Qc yR yA1 yA2 Ez Mz aB4 aC5 yT Me aC3 flY Tl Cu aIh Wp uS vH yE Ld sH Mq aDy bnE Bool.true_or Bool.false_or
theorem aFg(cs:List D):D.strip (.tup cs)= .tup (cs.map D.s2):=rfl
attribute [simp] aFg D.plain
theorem aQ5(n:Nat)(cs:List D):yX true n cs=if n<=cs.length then some (.agg (cs.take n))else none:=rfl
theorem aRq(n:Nat)(cs:List D):yX false n cs=cs.head?:=rfl
theorem bG(cs:List D)(off:Nat)(ds:List D):dU cs off ds=cs.take off++ds++cs.drop (off+ds.length):=rfl
attribute [simp low] aQ5 aRq bG
attribute [simp] Ql Tb aS5 aKm aEz aNk aG1 aMq aFd aJe aQ2
attribute [simp] aEa aJh aH5 aRd aTs aVg aSf aS1 aT4 aVp aS6 aCy aGk aL7 aFb aLw aHf Xu aDg aE9 aD7 aIp aL4 aTr aSw aOi aSj aPf aL1 aE7 sF oU mT Xr Uj Rt aH0 Uk aDr aFr Vw Yn
attribute [simp] aOq List.getElem?_cons_zero Option.bind_some aBo Hi Hs Hr Oq Nm aM0 aI6 aMh aJl aGe aAq aCe aIm aQ0 aH4 xW aTl aGm
 aO8 aLz Xi aPi aMp aPh aLj aEg aCg aC1 aCx aEf aWw aVt aSq aRl aS9 aRy aWb aTw aRu aSx aSe
 aM4 aIe aEb aCv aFa aBy aFy aOk aGz aB7 aFm aEt aB2 aLq aEl Zh Wn aO4 aIl aFn aFs
 dT aNo aKf aKu aD0 aS4 aPq aLg aJr aMv aP6 aQs aSl aRv aR7 aS7 aD9 aQu aRs aO7 aHj aJj sU iQ Pn aNn dR vcX Gf lD sI uP pX iO flX xY Jp Sw kL vO Gj aPd Gl Hc lC jI mO mL uX vD gH pM Qn vA pF
 tA Gt xP uT lG pL rV Jw sS vU mA mN iB vQ zG Ny St.cellsAt St.park Slot.plus Slot.isAddr aBb D.ofList
 aCi Wt aOl aUz aPt aLd mP aJ2 Lz aMz aSt aGt lI oY jR uA Iq Ea aGj aDl aEy aCk
end Go.Vm
