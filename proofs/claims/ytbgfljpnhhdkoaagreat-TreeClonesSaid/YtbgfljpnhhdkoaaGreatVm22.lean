import Derived.Test.YtbgfljpnhhdkoaaGreatVm21
set_option linter.all false
namespace Go.Vm
open Go
variable {A B:Prop}{K:St->Prop}{P:Program}{Q:Exit->St->Prop}{R:pM}{a:List D}{after:Array Edge}{all ops ops' r:List Oper}{args:Array Operand}{b want:Bool}{body y:Code}{c:Cfg}{d dst:Option Tmp}{f:FuncId}{i j n t:Nat}{k:DK}{ks:List DK}{l l2:List (Nat×Slot)}{loc obj:List (List D)}{op:Op}{pos:String}{s st:St}{ts:Array TypeId}{ty:TypeId}{α:Type}
variable {rr:Option Nat} {dfr:List Deferred}
section
theorem fV (h:eY rr dfr P y Q s):tX rr dfr P y Q .normal s:=h
theorem Cl (h:Q (.exit i) s):tX rr dfr P y Q (.exit i) s:=h
theorem aLa (h:Q .ret s):tX rr dfr P y Q .ret s:=h
theorem kV (h:Q .normal s):rD i Q .normal s:=h
theorem xY (h:Q .normal s):rD i Q (.exit i) s:=by simpa [rD] using h
theorem aD9 (h:Q .ret s):rD i Q .ret s:=h
theorem Cs {S:α->St} {p:α->Prop} {m:α->Nat} {x:α} (h:Q (.exit i) s):Bj S p m x Q (.exit i) s:=h
def Ag(d:D)(A B:Prop):Prop:=match d with
 | .v (.bool t)=>(t=true->A)/\(t=false->B)
 | _=>False
theorem aF (h:∀K':St->Prop,(∀s,pX P c all r s K->K' s)->Tu d st/\iV P c d op st K'):pX P c all (⟨d,op,ty,pos,after,none⟩::r) st K:=
 h _ fun _ h=>h
theorem aCj (n:Nat) (h:∀K':St->Prop,(∀s,pX P c all (r.drop n) s K->K' s)->pX P c all (r.take n) st K'):pX P c all r st K:=by
 have go:∀(n:Nat) (r:List Oper) (st:St),pX P c all (r.take n) st (fun s=>pX P c all (r.drop n) s K)->pX P c all r st K:=by
  intro n;induction n with
  | zero=>intro r st h;exact h
  | succ n ih =>
   intro r st h;cases r with
   | nil=>exact h
   | cons o r =>
    simp only [Dt,List.drop_succ_cons] at h;unfold pX at h |-;split at h
    .rename_i hg;have hd:=h.1;refine⟨hd,?_⟩;exact Av (fun s hs=>ih r s hs) h.2
    rename_i j want hg;split at h
    .split at h
     .exact⟨fun hb=>⟨(h.1 hb).1,Av (fun s hs=>ih r s hs) (h.1 hb).2⟩,fun hb=>⟨(h.2 hb).1,ih r _ (h.2 hb).2⟩⟩
     exact h.elim
    exact h.elim
 exact go n r st (h _ fun _ h=>h)
theorem aUj (hg:aO all j=some t)(hs:st.env t= .d (.v (.bool b)))
  (h1:b=want->∀K':St->Prop,(∀s,pX P c all r s K->K' s)->Tu d st/\iV P c d op st K') (h2:b= !want->Tu d st/\pX P c all r (st.put d .und) K):pX P c all (⟨d,op,ty,pos,after,some (j,want)⟩::r) st K:=by
 rw [Ng];simp only [hg,hs];exact⟨fun hb=>h1 hb _ fun _ h=>h,h2⟩
theorem aRl (hg:aO all j=some t)(hs:st.env t= .d (.v (.bool b)))(hb:b=want)
  (h1:∀K':St->Prop,(∀s,pX P c all r s K->K' s)->Tu d st/\iV P c d op st K'):pX P c all (⟨d,op,ty,pos,after,some (j,want)⟩::r) st K:=
 aUj hg hs (fun _=>h1) fun h=>(by rw [hb] at h;cases want <;> cases h)
theorem Je (hs:eE l t= .d (.v (.bool b))):St.mk' n l loc obj=St.mk' n ((t,.d (.bool b))::l) loc obj:=by
 unfold St.mk';congr 1;funext u;simp only [eE];split
 .rename_i e;rw [e,hs]
 rfl
theorem aJ1 (t:Nat) {s:Slot} (hs:eE l t=s)
  (h:Ag s.toD (pX P c all r (St.mk' n ((t,.d (.bool true))::l) loc obj) K) (pX P c all r (St.mk' n ((t,.d (.bool false))::l) loc obj) K)):pX P c all r (St.mk' n l loc obj) K:=by
 unfold Ag at h;split at h
 .rename_i b hb;have hs':eE l t= .d (.v (.bool b)):=by
   rw [hs];cases s with
   | d d=>simp only [Slot.toD] at hb;rw [hb]
   | lref n o=>simp [Slot.toD] at hb
  rw [Je hs'];cases b
  .exact h.2 rfl
  exact h.1 rfl
 exact h.elim
def aSe(P:Program)(c:Cfg)(all r:List Oper)(K:St->Prop):St->Prop:=fun st=>pX P c all r st K
theorem aKj :aSe P c all r K st=pX P c all r st K:=rfl
theorem aN4 :pX P c all (⟨d,op,ty,pos,after,none⟩::r) st K=(Tu d st/\iV P c d op st (aSe P c all r K)):=rfl
def aMf(P:Program)(c:Cfg)(all r:List Oper)(ks:List DK)(K:St->Prop):St->Prop:=fun st=>jV P c all r ks st K
theorem aF0 :aMf P c all r ks K st=jV P c all r ks st K:=rfl
theorem aKz :jV P c all (⟨d,op,ty,pos,after,none⟩::r) (k::ks) st K=(Tu d st/\zP P c d op k st (aMf P c all r ks K)):=rfl
@[congr] theorem aV1 {op:BinOp} {t:TypeId} {x y x' y':Slot} {K:D->Prop} (hx:x=x')(hy:y=y'):wA P op t x y K=wA P op t x' y' K:=by rw [hx,hy]
@[congr] theorem aVv {op:BinOp} {k:IntKind} {a b a' b':Int} {K:D->Prop} (hx:a=a')(hy:b=b'):He op k a b K=He op k a' b' K:=by rw [hx,hy]
@[congr] theorem aU1 {op:BinOp} {a b a' b':ByteArray} {K:D->Prop} (hx:a=a')(hy:b=b'):Gz op a b K=Gz op a' b' K:=by rw [hx,hy]
@[congr] theorem aUm {t:TypeId} {b a' b':List D} {K:Bool->Prop} (hx:a=a')(hy:b=b'):zT P t a b K=zT P t a' b' K:=by rw [hx,hy]
@[congr] theorem aWo {op:UnOp} {x x':D} {K:D->Prop} (hx:x=x'):Hq op x K=Hq op x' K:=by rw [hx]
def sel(b:Bool)(s r:Slot):Slot:=if b=true then s else r
@[congr] theorem aXb {b':Bool} {s r:Slot} (h:b=b'):sel b s r=sel b' s r:=by rw [h]
theorem aQp {s r:Slot} :sel true s r=s:=rfl
theorem aRc {s r:Slot} :sel false s r=r:=rfl
theorem Ov(a:Nat)(s:Slot)(r:List (Nat×Slot))(t:Nat):eE ((a,s)::r) t=sel (t==a) s (eE r t):=by
 simp only [eE,sel,xX]
def gv3(s:Slot)(want:Bool):Option Bool:=Hf s want
def gv2(o:Option Tmp)(st:St)(want:Bool):Option Bool:=match o with
 | some t=>gv3 (st.env t) want
 | none=>none
@[congr] theorem aXv {o o':Option Tmp} (h:o=o'):gv2 o st want=gv2 o' st want:=by rw [h]
theorem aLx(t:Tmp)(st:St)(want:Bool):gv2 (some t) st want=gv3 (st.env t) want:=rfl
theorem aLo(b want:Bool):gv3 (.d (.v (.bool b))) want=some b:=rfl
theorem aPd(want:Bool):gv3 (.d (.tup [])) want=some (!want):=rfl
def aLb(all:List Oper)(j:Nat)(st:St)(want:Bool):Option Bool:=match aO all j with
 | some t=>Hf (st.env t) want
 | none=>none
theorem aM9(all:List Oper)(j:Nat)(st:St)(want:Bool):aLb all j st want=gv2 (aO all j) st want:=rfl
def vcG(g:Option Bool)(want:Bool)(A B:Prop):Prop:=match g with
 | some b=>(b=want->A)/\(b= !want->B)
 | none=>False
@[congr] theorem aT4 {g g':Option Bool} (h:g=g'):vcG g want A B=vcG g' want A B:=by rw [h]
theorem aTo :vcG (some true) true A B=A:=by simp [vcG]
theorem aSb :vcG (some true) false A B=B:=by simp [vcG]
theorem aTp :vcG (some false) true A B=B:=by simp [vcG]
theorem aR9 :vcG (some false) false A B=A:=by simp [vcG]
theorem aRr :pX P c all (⟨d,op,ty,pos,after,some (j,want)⟩::r) st K=
  vcG (aLb all j st want) want (Tu d st/\iV P c d op st (aSe P c all r K)) (Tu d st/\pX P c all r (st.put d .und) K):=by
 rw [Ng];unfold aLb vcG;split
 .rename_i t ht;simp only [ht];split
  .rename_i h;simp [h];exact fun _=>Iff.rfl
  rename_i h;simp [h]
 rename_i h;simp [h]
def Wy(d:D)(A B:Prop):Prop:=match d with
 | .v (.bool t)=>(t=true->A)/\(t=false->B)
 | _=>False
@[congr] theorem aSy {d d':D} (h:d=d'):Wy d A B=Wy d' A B:=by rw [h]
theorem aRq :Wy (.v (.bool true)) A B=A:=by simp [Wy]
theorem aSz :Wy (.v (.bool false)) A B=B:=by simp [Wy]
theorem aF6 {c a b:Operand} :Aw dst c a b st K=Wy (st.rd c) ((st.rd a).plain=true/\K (st.put dst (.d (st.rd a).strip))) ((st.rd b).plain=true/\K (st.put dst (.d (st.rd b).strip))):=rfl
theorem Vs {K':St->Prop} (hk:∀s,K s->K' s)(h:zP P c dst op k st K):zP P c dst op k st K':=by
 unfold zP at *;cases k with
 | op f=>exact⟨h.1,h.2.1,Av hk h.2.2⟩
 | pure=>
  simp only at *;split at h
  .obtain⟨h1,r,h2,h3⟩:=h;exact⟨h1,r,h2,hk _ h3⟩
  exact h
 | pureC =>
  simp only at *;split at h
  .split at h
   .rename_i hf;obtain⟨h0,h1,r,h2,h3⟩:=h;exact⟨h0,h1,r,h2,hk _ h3⟩
   exact h.elim
  exact h
 | read=>
  simp only at *;split at h
  .obtain⟨h1,r,h2,h3⟩:=h;exact⟨h1,r,h2,hk _ h3⟩
  exact h
 | det=>
  simp only at *;split at h
  .obtain⟨h1,r,σ0,h2,h3⟩:=h;exact⟨h1,r,σ0,h2,hk _ h3⟩
  exact h
 | readT=>
  simp only at *;split at h
  .obtain⟨h1,r,h2,h3⟩:=h;exact⟨h1,r,h2,hk _ h3⟩
  exact h
 | nd=>
  obtain⟨Q,h1,h2⟩:=h;exact⟨Q,h1,fun r σ0 hq=>hk _ (h2 r σ0 hq)⟩
 | detA=>
  simp only at *;split at h
  .obtain⟨h1,r,J,h2,h3⟩:=h;exact⟨h1,r,J,h2,hk _ h3⟩
  exact h
 | pureT=>
  simp only at *;split at h
  .obtain⟨h0,h1,r,h2,h3⟩:=h;exact⟨h0,h1,r,h2,hk _ h3⟩
  exact h
 | detT=>
  simp only at *;split at h
  .obtain⟨h0,h1,r,σ0,h2,h3⟩:=h;exact⟨h0,h1,r,σ0,h2,hk _ h3⟩
  exact h
theorem uK :jV P c all [] ks st K=K st:=by unfold jV;rfl
theorem aPg :jV P c all (⟨d,op,ty,pos,after,some (j,want)⟩::r) (k::ks) st K=
  (Tu d st/\vcG (aLb all j st want) want (zP P c d op k st (aMf P c all r ks K)) (jV P c all r ks (st.put d .und) K)):=by
 conv=>lhs;unfold jV
 show(_/\_)=_
 congr 1;simp only;unfold aLb vcG;split
 .rename_i t ht;simp only [ht];split
  .rename_i h;simp [h];exact fun _=>Iff.rfl
  rename_i h;simp [h]
 rename_i h;simp [h]
theorem cK (h:∀K':St->Prop,(∀s,jV P c all r ks s K->K' s)->Tu d st/\zP P c d op k st K'):jV P c all (⟨d,op,ty,pos,after,none⟩::r) (k::ks) st K:=
 h _ fun _ h=>h
theorem Zr (n:Nat) (hks:n<=ks.length)(h:∀K':St->Prop,(∀s,jV P c all (r.drop n) (ks.drop n) s K->K' s)->jV P c all (r.take n) (ks.take n) st K'):jV P c all r ks st K:=by
 have go : ∀ (n : Nat) (r : List Oper) (ks : List DK) (st : St), n <= ks.length -> jV P c all (r.take n) (ks.take n) st (fun s => jV P c all (r.drop n) (ks.drop n) s K) -> jV P c all r ks st K := by
  intro n;induction n with
  | zero=>intro r ks st _ h;simp only [List.take_zero,xU,uK] at h;exact h
  | succ n ih =>
   intro r ks st hks h;cases ks with
   | nil=>simp at hks
   | cons k ks =>
    cases r with
    | nil=>simp only [List.take_nil,List.drop_nil,uK] at h |-;exact h
    | cons o r =>
     simp only [Dt,List.drop_succ_cons] at h;simp only [bT] at hks;unfold jV at h |-;refine⟨h.1,?_⟩;have h2:=h.2;split at h2
     .exact Vs (fun s hs=>ih r ks s (by omega) hs) h2
     split at h2
     .split at h2
      .exact⟨fun hb=>Vs (fun s hs=>ih r ks s (by omega) hs) (h2.1 hb),fun hb=>ih r ks _ (by omega) (h2.2 hb)⟩
      exact h2.elim
     exact h2.elim
 exact go n r ks st hks (h _ fun _ h=>h)
theorem aNa (hg:aO all j=some t)(hs:st.env t= .d (.v (.bool b)))(hb:b=want)
  (h1:∀K':St->Prop,(∀s,jV P c all r ks s K->K' s)->Tu d st/\zP P c d op k st K'):jV P c all (⟨d,op,ty,pos,after,some (j,want)⟩::r) (k::ks) st K:=by
 unfold jV;refine⟨(h1 _ fun _ h=>h).1,?_⟩;simp only [hg,hs];exact⟨fun _=>(h1 _ fun _ h=>h).2,fun h=>(by rw [hb] at h;cases want <;> cases h)⟩
theorem aGb (t:Nat) {s:Slot} (hs:eE l t=s)
  (h:Ag s.toD (jV P c all r ks (St.mk' n ((t,.d (.bool true))::l) loc obj) K) (jV P c all r ks (St.mk' n ((t,.d (.bool false))::l) loc obj) K)):jV P c all r ks (St.mk' n l loc obj) K:=by
 unfold Ag at h;split at h
 .rename_i b hb;have hs':eE l t= .d (.v (.bool b)):=by
   rw [hs];cases s with
   | d d=>simp only [Slot.toD] at hb;rw [hb]
   | lref n o=>simp [Slot.toD] at hb
  rw [Je hs'];cases b
  .exact h.2 rfl
  exact h.1 rfl
 exact h.elim
def mS:List Nat->List (Nat×Slot)->List (Nat×Slot)
 | _, []=> []
 | W,(t,s)::r=>if W.contains t then mS W r else(t,s)::mS (t::W) r
theorem aOk(n:Nat)(s:Slot):Sn n s (.d .any)=True:=by
 unfold Sn;split <;> simp_all
theorem aVb(n:Nat)(x:D):Sn n (.d x) (.d x)=True:=by
 cases x with
 | sl o es=>cases o <;> simp [Sn]
 | _=>simp [Sn]
theorem aOe(n:Nat)(es:List D):Sn n (.d (.sl true es)) (.d (.sl false es))=True:=by
 unfold Sn;simp
theorem aHt(n m o:Nat):Sn n (.lref m o) (.lref m o)=(m<n):=by
 unfold Sn;simp
def zZ(n:Nat)(env:Nat->Slot):List (Nat×Slot)->Prop
 | []=>True
 | (a,s)::r=>Sn n (env a) s/\zZ n env r
theorem aC4(n:Nat)(env:Nat->Slot):zZ n env []=True:=rfl
theorem Zz(n:Nat)(env:Nat->Slot)(a:Nat)(s:Slot)(r:List (Nat×Slot)):zZ n env ((a,s)::r)=(Sn n (env a) s/\zZ n env r):=rfl
theorem vI {env:Nat->Slot} :∀ {l:List (Nat×Slot)},zZ n env l->∀p∈l,Sn n (env p.1) p.2
 | [],_,p,hp=>by simp at hp
 | (a,s)::r,h,p,hp=>by
  rcases bN.1 hp with rfl | hp
  .exact h.1
  exact vI h.2 p hp
theorem eN (hn:st.n=n)(hl:zZ loc.length st.env l)(hloc:loc<+:st.loc)(hobj:st.obj=obj):Weak st (St.mk' n l loc obj):=
 Ru hn (vI hl) hloc hobj
theorem bA (F:α->List (Nat×Slot))(W:List Nat)(p:α->Prop)(m:α->Nat)(x0:α) 
  (hl:mS W l=l2) (hF:zZ loc.length (eE l) (F x0++l2)) (hp:p x0)
  (h:∀x,p x->eY rr dfr P body (Bj (fun x=>St.mk' n (F x++l2) loc obj) p m x Q) (St.mk' n (F x++l2) loc obj)):eY rr dfr P (.loop body) Q (St.mk' n l loc obj):=
 To (fun x=>St.mk' n (F x++l2) loc obj) p m x0 (Ru rfl (vI hF) (Gm _) rfl) hp h
theorem nK (F:α->List (Nat×Slot))(G H:α->List (List D))(W:List Nat)(p:α->Prop)(m:α->Nat)(x0:α) 
  (hl:mS W l=l2) (hF:zZ (G x0).length (eE l) (F x0++l2)) (hG:G x0=loc) (hH:H x0=obj) (hp:p x0)
  (h:∀x,p x->eY rr dfr P body (Bj (fun x=>St.mk' n (F x++l2) (G x) (H x)) p m x Q) (St.mk' n (F x++l2) (G x) (H x))):eY rr dfr P (.loop body) Q (St.mk' n l loc obj):=
 To (fun x=>St.mk' n (F x++l2) (G x) (H x)) p m x0 (Ru rfl (vI hF) (by rw [hG];exact Gm _) hH.symm) hp h
theorem fU {S:α->St} {p:α->Prop} {m:α->Nat} {x:α} (y:α)(hp:p y)(hm:m y<m x)(hw:Weak s (S y)):Bj S p m x Q .normal s:=⟨y,hp,hm,hw⟩
def aV8 {α:Type} (S:α->St)(p:α->Prop)(Q:Exit->St->Prop):Exit->St->Prop
 | .normal,s=>∃y,p y/\Weak s (S y)
 | e,s=>Q e s
theorem Wz(n:Nat):D.strip (.mref n)= .mref n:=rfl
theorem aNk(n:Nat):D.s1 (.mref n)= .mref n:=rfl
theorem aOt(n:Nat):D.s2 (.mref n)= .mref n:=rfl
theorem Xx(n:Nat):D.plain (.mref n)=true:=rfl
theorem Xy(n:Nat):D.solid (.mref n)=true:=rfl
theorem Us(n:Nat):D.ncells (.mref n)=1:=rfl
theorem Yv(n:Nat):D.cells (.mref n)= [.mref n]:=rfl
theorem aLs(kd:TypeDesc)(c:Nat)(kvs:List (Value×Nat×D)):D.strip (.mo kd c kvs)= .mz:=rfl
theorem aVw(kd:TypeDesc)(c:Nat)(kvs:List (Value×Nat×D)):D.s1 (.mo kd c kvs)= .mz:=rfl
theorem aWh(kd:TypeDesc)(c:Nat)(kvs:List (Value×Nat×D)):D.s2 (.mo kd c kvs)= .mz:=rfl
theorem aJe(kd:TypeDesc)(c:Nat)(kvs:List (Value×Nat×D)):D.plain (.mo kd c kvs)=true:=rfl
theorem aMq(kd:TypeDesc)(c:Nat)(kvs:List (Value×Nat×D)):D.solid (.mo kd c kvs)=true:=rfl
theorem aF4(kd:TypeDesc)(c:Nat)(kvs:List (Value×Nat×D)):D.ncells (.mo kd c kvs)=1:=rfl
theorem aHv(kd:TypeDesc)(c:Nat)(kvs:List (Value×Nat×D)):D.cells (.mo kd c kvs)= [.mo kd c kvs]:=rfl
theorem aGc(n a b:Nat)(l:List Nat):D.strip (.mit n a l b)= .any:=rfl
theorem aRw(n a b:Nat)(l:List Nat):D.s1 (.mit n a l b)= .any:=rfl
theorem aTb(n a b:Nat)(l:List Nat):D.s2 (.mit n a l b)= .any:=rfl
theorem aGg(n a b:Nat)(l:List Nat):D.plain (.mit n a l b)=true:=rfl
theorem aE0(n a b:Nat)(l:List Nat):D.solid (.mit n a l b)=false:=rfl
theorem aMo(n c:Nat)(kd:TypeDesc)(kvs:List (Value×Nat×D)):D.strip (.mp n kd c kvs)= .mref n:=rfl
theorem aUp(n c:Nat)(kd:TypeDesc)(kvs:List (Value×Nat×D)):D.s1 (.mp n kd c kvs)= .mref n:=rfl
theorem aUz(n c:Nat)(kd:TypeDesc)(kvs:List (Value×Nat×D)):D.s2 (.mp n kd c kvs)= .mref n:=rfl
theorem aJ8(n c:Nat)(kd:TypeDesc)(kvs:List (Value×Nat×D)):D.plain (.mp n kd c kvs)=true:=rfl
theorem aKa(n c:Nat)(kd:TypeDesc)(kvs:List (Value×Nat×D)):D.solid (.mp n kd c kvs)=true:=rfl
theorem aEm(n c:Nat)(kd:TypeDesc)(kvs:List (Value×Nat×D)):D.ncells (.mp n kd c kvs)=1:=rfl
theorem aJb(n c:Nat)(kd:TypeDesc)(kvs:List (Value×Nat×D)):D.cells (.mp n kd c kvs)= [.mp n kd c kvs]:=rfl
theorem aFv(t:TypeId)(d:D):D.strip (.ifc t d)= .ifc t d:=rfl
theorem aSw(t:TypeId)(d:D):D.s1 (.ifc t d)= .ifc t d:=rfl
theorem aRj(t:TypeId)(d:D):D.s2 (.ifc t d)= .ifc t d:=rfl
theorem aCr(t:TypeId)(d:D):D.plain (.ifc t d)=true:=rfl
theorem aF1(t:TypeId)(d:D):D.solid (.ifc t d)=true:=rfl
theorem Ym(t:TypeId)(d:D):D.ncells (.ifc t d)=1:=rfl
theorem aDz(t:TypeId)(d:D):D.cells (.ifc t d)= [.ifc t d]:=rfl
theorem aKr(n:Nat):D.arr (.mref n)=true:=rfl
attribute [simp] aLs aVw aWh aJe aMq aF4 aHv aGc aRw aTb aGg aE0 Wz aNk aOt Xx Xy Us Yv aMo aUp aUz aJ8 aKa aEm aJb aFv aSw aRj aCr aF1 Ym aDz aKr
theorem aGa(n a b c:Nat):D.strip (.slo n a b c)= .slo n a b c:=rfl
theorem aH1(n:Nat):D.strip (.xl n)= .xl n:=rfl
theorem aIp(k:Nat)(es:List D):D.strip (.xs k es)= .xl es.length:=rfl
theorem aTk(n a b c:Nat):D.s2 (.slo n a b c)= .slo n a b c:=rfl
theorem aVl(n:Nat):D.s2 (.xl n)= .xl n:=rfl
theorem aUi(k:Nat)(es:List D):D.s2 (.xs k es)= .xl es.length:=rfl
theorem aRh(f:Go.Fn)(a b:List D):D.s2 (.clo f a b)= .clo f a b:=rfl
theorem aTr(n a b c:Nat):D.s1 (.slo n a b c)= .slo n a b c:=rfl
theorem aVd(n:Nat):D.s1 (.xl n)= .xl n:=rfl
theorem aVh(k:Nat)(es:List D):D.s1 (.xs k es)= .xl es.length:=rfl
theorem aRn(f:Go.Fn)(a b:List D):D.s1 (.clo f a b)= .clo f a b:=rfl
theorem aCp(n a b c:Nat):D.plain (.slo n a b c)=true:=rfl
theorem aJj(n:Nat):D.plain (.xl n)=true:=rfl
theorem aHg(k:Nat)(es:List D):D.plain (.xs k es)=true:=rfl
theorem aFh(n a b c:Nat):D.solid (.slo n a b c)=true:=rfl
theorem aJ7(n:Nat):D.solid (.xl n)=true:=rfl
theorem aG8(k:Nat)(es:List D):D.solid (.xs k es)=true:=rfl
theorem Ya(n a b c:Nat):D.ncells (.slo n a b c)=1:=rfl
theorem aCs(n:Nat):D.ncells (.xl n)=1:=rfl
theorem aD3(k:Nat)(es:List D):D.ncells (.xs k es)=1:=rfl
theorem aDx(n a b c:Nat):D.cells (.slo n a b c)= [.slo n a b c]:=rfl
theorem aJl(n:Nat):D.cells (.xl n)= [.xl n]:=rfl
theorem aHr(k:Nat)(es:List D):D.cells (.xs k es)= [.xs k es]:=rfl
theorem aVt(x:Value):D.arr (.v x)=true:=rfl
theorem aTv(es:List D):D.arr (.sl false es)=true:=rfl
theorem aOb(cs:List D):D.arr (.agg cs)=cs.all D.flat:=rfl
theorem aSp(x:Value):D.flat (.v x)=true:=rfl
theorem aNm(es:List D):D.flat (.sl false es)=true:=rfl
theorem aIi(n o:Nat):D.flat (.ref n o)=true:=rfl
def Du:List (Nat×List D)->List (List D)->List (List D)
 | [],l=>l
 | (n,c)::r,l=>(Du r l).set n c
theorem oY(l:List (List D)):Du [] l=l:=rfl
theorem nC(n:Nat)(c:List D)(r:List (Nat×List D))(l:List (List D)):Du ((n,c)::r) l=(Du r l).set n c:=rfl
theorem oL (F:α->List (Nat×Slot))(M N:α->List (Nat×List D))(W:List Nat)(p:α->Prop)(m:α->Nat)(x0:α) 
  (hl:mS W l=l2) (hF:zZ (Du (M x0) loc).length (eE l) (F x0++l2)) (hG:Du (M x0) loc=loc) (hH:Du (N x0) obj=obj) (hp:p x0)
  (h:∀x,p x->eY rr dfr P body (Bj (fun x=>St.mk' n (F x++l2) (Du (M x) loc) (Du (N x) obj)) p m x Q) (St.mk' n (F x++l2) (Du (M x) loc) (Du (N x) obj))):eY rr dfr P (.loop body) Q (St.mk' n l loc obj):=
 nK F (fun x=>Du (M x) loc) (fun x=>Du (N x) obj) W p m x0 hl hF hG hH hp h
theorem aGf (l:List α)(a:α):(l++ [a])[l.length]?=some a:=by simp
theorem sW (l:List α)(a b:α):(l++ [a]).set l.length b=l++ [b]:=by simp
def Br:List Nat->List (Nat×Slot)->List (Nat×Slot)
 | [],_=> []
 | t::r,l=>(t,eE l t)::Br r l
theorem aF5(l:List (Nat×Slot)):Br [] l= []:=rfl
theorem Kp(t:Nat)(r:List Nat)(l:List (Nat×Slot)):Br (t::r) l=(t,eE l t)::Br r l:=rfl
theorem Pd(l:List (Nat×Slot))(u:Nat):∀K:List Nat,eE (Br K l) u=eE l u\/eE (Br K l) u= .any
 | []=> .inr rfl
 | t::r=>by
  rw [Kp,sN];split
  .rename_i h;subst h;exact .inl rfl
  exact Pd l u r
theorem aIz (K:List Nat) {c:Code} (hl:Br K l=l2)(h:eY rr dfr P c Q (St.mk' n l2 loc obj)):eY rr dfr P c Q (St.mk' n l loc obj):=by
 subst hl;intro w0 g0 w g tmps hf hok hn;refine h w0 g0 w g tmps hf ⟨hok.mem,hok.xlt,fun t=>?_,hok.ll,hok.loc,hok.ol,hok.obj⟩ hn;have hs:=hok.slot t;show SlotOk w g t (eE (Br K l) t) _
 rcases Pd l t K with e | e
 .rw [e];exact hs
 rw [e];exact⟨.any _,.flat _ _ _ rfl⟩
theorem rW (ts k:Nat) {es:List D} {c:Code} (hs:eE l ts= .d (.xs k es))(hk0:0<k)
  (h:∀(cap:Nat) (rest:List D),es.length<=cap->cap<=maxLen->rest.length=(cap - es.length) * k->0<k->(∀d∈es,d.ncells=k/\d.arr=true)->eY rr dfr P c Q (St.mk' n ((ts,.d (.slo obj.length 0 es.length cap))::l) loc (obj++ [es.flatMap D.cells++rest]))):eY rr dfr P c Q (St.mk' n l loc obj):=by
 intro w0 g0 w g tmps hf hok hn;obtain⟨cap,rest,g',a1,a2,a3,a4,a5,_,hfr,hok'⟩:=hok.openX ts k es hs hk0;exact h cap rest a1 a2 a3 a4 a5 w0 g0 w g' tmps (hf.trans hfr) hok' hn
theorem iO (ts k:Nat) {es:List D} {c:Code} (hs:eE l ts= .d (.xs k es))(hk0:0<k)
  (h:∀(cap:Nat) (rest:List D),es.length<=cap->cap<=maxLen->rest=List.replicate ((cap - es.length) * k) .any->0<k->(∀d∈es,d.ncells=k/\d.arr=true)->eY rr dfr P c Q (St.mk' n ((ts,.d (.slo obj.length 0 es.length cap))::l) loc (obj++ [es.flatMap D.cells++rest]))):eY rr dfr P c Q (St.mk' n l loc obj):=by
 intro w0 g0 w g tmps hf hok hn;obtain⟨cap,rest,g',a1,a2,a3,a4,a5,_,hfr,hok'⟩:=hok.openX2 ts k es hs hk0;exact h cap rest a1 a2 a3 a4 a5 w0 g0 w g' tmps (hf.trans hfr) hok' hn
theorem fD (ts k m len cap:Nat)(es cs:List D) {c:Code} (hs:eE l ts= .d (.slo m 0 len cap))(hm:obj[m]?=some cs)(hk:0<k)(hcs:cs.length=cap * k)(hl:es.length=len)
  (hes:∀d∈es,d.ncells=k/\d.arr=true) (he:es.flatMap D.cells<+:cs) (h:eY rr dfr P c Q (St.mk' n ((ts,.d (.xs k es))::l) loc (obj.set m []))):eY rr dfr P c Q (St.mk' n l loc obj):=by
 intro w0 g0 w g tmps hf hok hn;obtain⟨g',_,hfr,hok'⟩:=hok.closeX ts k m len cap es cs hs hm hk hcs hl hes he;exact h w0 g0 w g' tmps (hf.trans hfr) hok' hn
theorem aK8 (f:α->D)(l:List α)(k:Nat)(h:k<l.length):(l.map f).getD k .any=f l[k]:=by
 simp [List.getD,h]
theorem Mp (f:α->D)(l:List α)(k:Nat)(h:k<l.length):(l.map f)[k]?=some (f l[k]):=by
 simp [h]
theorem aNp(n:Int):inR .i64 n=(-9223372036854775808<=n/\n<=9223372036854775807):=by
 unfold inR;rfl
theorem aS1(n:Int):inR .u8 n=(0<=n/\n<=255):=by
 unfold inR;rfl
end
theorem aJm:Ql []=true:=rfl
theorem aFm(r:List (Option Holder)):Ql (none::r)=Ql r:=by simp [Ql]
theorem aDr(h:Holder)(r:List (Option Holder)):Ql (some h::r)=(!r.contains (some h) && Ql r):=by
 simp only [Ql,uS,id,gW,Bool.decide_and,List.contains_eq_mem];congr 1;rw [<- decide_not];congr 1;simp [oO]
theorem aFq:maxLen=9223372036854775807:=rfl
theorem aO2(n:Nat)(l:List (Nat×Slot))(loc obj:List (List D)):({ n:=n,env:=eE l,loc:=loc,obj:=obj } :St)=St.mk' n l loc obj:=rfl
def Gr:Slot->Slot
 | .d x=> .d x.strip
 | s=>s
def oX:List Nat->List (Nat×Slot)->List (Nat×Slot)
 | [],l=>l
 | t::r,l=>(t,Gr (eE l t))::oX r l
theorem Ho(l:List (Nat×Slot))(u:Nat):∀ts:List Nat,eE (oX ts l) u=if u∈ts then Gr (eE l u)else eE l u
 | []=>by simp [oX]
 | t::r=>by
  rw [oX,sN,Ho l u r];by_cases h:u=t
  .subst h;simp
  simp [h]
theorem rI(l:List (Nat×Slot))(ts:List (Option Nat)):gS ts (eE l)=eE (oX (ts.filterMap id) l):=by
 funext u;rw [Ho];by_cases h:some u∈ts
 .have h1:ts.contains (some u)=true:=by simpa using h
  have h2:u∈ts.filterMap id:=by simpa using h
  simp only [gS,h1,aU,aL h2,Gr];split <;> simp_all
 have h1:ts.contains (some u)=false:=by simpa using h
 have h2:¬u∈ts.filterMap id:=by simpa using h
 simp only [gS,h1,aD h2];rfl
theorem Yw {d:Nat} {args:List Operand} :oZ P (some d) f args (St.mk' n l loc obj) K=
  ((args.filterMap cM).Nodup/\(∀x∈args,zV ((St.mk' n l loc obj).rdS x)=true/\((St.mk' n l loc obj).rd x).plain=true)/\
   Ct P f (args.map (wC (St.mk' n l loc obj))) obj (fun r σ'=>K (St.mk' n ((d,.d r)::oX (args.filterMap cM) l) loc σ'))):=by
 unfold oZ;have e:(args.map cM).filterMap id=args.filterMap cM:=by rw [Fv];rfl
 simp only [Ic,Ia,Ik,aBm,rI,e];rfl
theorem Um(l:List (Nat×Slot)):oX [] l=l:=rfl
theorem Qo(t:Nat)(r:List Nat)(l:List (Nat×Slot)):oX (t::r) l=(t,Gr (eE l t))::oX r l:=rfl
theorem aI6(x:D):Gr (.d x)= .d x.strip:=rfl
theorem Tf(a b:Nat):Gr (.lref a b)= .lref a b:=rfl
theorem aD5:List.filterMap cM []= []:=rfl
theorem aDv(t:Tmp)(r:List Operand):List.filterMap cM (.tmp t::r)=t::List.filterMap cM r:=rfl
theorem Vk(v:Value)(r:List Operand):List.filterMap cM (.const v::r)=List.filterMap cM r:=rfl
theorem Zg(v:FuncId)(r:List Operand):List.filterMap cM (.func v::r)=List.filterMap cM r:=rfl
theorem Ro {d:Nat} :
  zP P c (some d) (.call ⟨.value (.func f),args,ts⟩) .pureT (St.mk' n l loc obj) K=
  ((args.toList.filterMap cM).Nodup/\(∀x∈args.toList,zV ((St.mk' n l loc obj).rdS x)=true/\((St.mk' n l loc obj).rd x).plain=true)/\
   ∃r,(∀σ,Ct P f (args.toList.map (wC (St.mk' n l loc obj))) σ fun r' σ'=>r'=r/\σ'=σ)/\K (St.mk' n ((d,.d r)::oX (args.toList.filterMap cM) l) loc obj)):=by
 have e:(args.toList.map cM).filterMap id=args.toList.filterMap cM:=by rw [Fv];rfl
 simp only [zP,Ic,Ia,Ik,aBm,rI,e];rfl
theorem Uq {d:Nat} :
  zP P c (some d) (.call ⟨.value (.func f),args,ts⟩) .detT (St.mk' n l loc obj) K=
  ((args.toList.filterMap cM).Nodup/\(∀x∈args.toList,zV ((St.mk' n l loc obj).rdS x)=true/\((St.mk' n l loc obj).rd x).plain=true)/\
   ∃r σ0,(Ct P f (args.toList.map (wC (St.mk' n l loc obj))) obj fun r' σ'=>r'=r/\σ'=σ0)/\K (St.mk' n ((d,.d r)::oX (args.toList.filterMap cM) l) loc σ0)):=by
 have e:(args.toList.map cM).filterMap id=args.toList.filterMap cM:=by rw [Fv];rfl
 simp only [zP,Ic,Ia,Ik,aBm,rI,e];rfl
theorem aTq {f:Fl} :zP P c d op (.op f) st K=(lS op=false/\pN c d st op=f/\iV P c d op st K):=rfl
theorem aHl :zP P c d (.call ⟨.value (.func f),args,ts⟩) .pure st K=
  (mM args.toList st/\∃r,(∀σ,Ct P f (iG args.toList st) σ fun r' σ'=>r'=r/\σ'=σ)/\K (st.put d (.d r))):=rfl
def aUg(P:Program)(dst:Option Tmp)(d:D)(args:List Operand)(st:St)(K:St->Prop):Prop:=match d with
 | .clo (.func fid) first caps=>(∀d∈first++caps,d.plain=true)/\mM args st/\∃r,(∀σ,Ct P fid (first.map D.strip++iG args st++caps.map D.strip) σ fun r' σ'=>r'=r/\σ'=σ)/\K (st.put dst (.d r))
 | _=>False
theorem aF7 {f:Operand} :zP P c d (.call ⟨.value f,args,ts⟩) .pureC st K=aUg P d (st.rd f) args.toList st K:=rfl
theorem aN7 {fid:FuncId} {first caps:List D} {args:List Operand} :aUg P dst (.clo (.func fid) first caps) args st K=((∀d∈first++caps,d.plain=true)/\mM args st/\∃r,(∀σ,Ct P fid (first.map D.strip++iG args st++caps.map D.strip) σ fun r' σ'=>r'=r/\σ'=σ)/\K (st.put dst (.d r))):=rfl
theorem aGo :zP P c d (.call ⟨.value (.func f),args,ts⟩) .read st K=
  (mM args.toList st/\∃r,(Ct P f (iG args.toList st) st.obj fun r' σ'=>r'=r/\σ'=st.obj)/\K (st.put d (.d r))):=rfl
theorem aRv :zP P c d (.call ⟨.value (.func f),args,ts⟩) .nd st K=
  ∃Q,(mM args.toList st/\Ct P f (iG args.toList st) st.obj Q/\∃r σ0,Q r σ0)/\∀r σ0,Q r σ0->K (({ st with obj:=σ0 } :St).put d (.d r)):=rfl
theorem aD2 :zP P c d (.call ⟨.value (.func f),args,ts⟩) .readT st K=
  (mM args.toList st/\∃r,(∀J,Ct P f (iG args.toList st) (st.obj++J) fun r' σ'=>r'=r/\σ'=st.obj++J)/\K (st.put d (.d r))):=rfl
theorem aIj :zP P c d (.call ⟨.value (.func f),args,ts⟩) .detA st K=
  (mM args.toList st/\∃r J,(Ct P f (iG args.toList st) st.obj fun r' σ'=>r'=r/\σ'=st.obj++J)/\K (({ st with obj:=st.obj++J } :St).put d (.d r))):=rfl
theorem aO1 :zP P c d (.call ⟨.value (.func f),args,ts⟩) .det st K=
  (mM args.toList st/\∃r σ0,(Ct P f (iG args.toList st) st.obj fun r' σ'=>r'=r/\σ'=σ0)/\K (({ st with obj:=σ0 } :St).put d (.d r))):=rfl
theorem aA3 {a b:Code} {s:Slot} (hs:eE l t=s)
  (h:Ag s.toD (eY rr dfr P a Q (St.mk' n ((t,.d (.bool true))::l) loc obj)) (eY rr dfr P b Q (St.mk' n ((t,.d (.bool false))::l) loc obj))):eY rr dfr P (.cond (.tmp t) a b) Q (St.mk' n l loc obj):=by
 unfold Ag at h;split at h
 .rename_i v hv;have hs':eE l t= .d (.v (.bool v)):=by
   rw [hs];cases s with
   | d d=>simp only [Slot.toD] at hv;rw [hv]
   | lref n o=>simp [Slot.toD] at hv
  rw [Je hs'];cases v with
  | true=>exact aZ (t:=true) (by simp [St.rd,St.rdS,sN,St.mk']) (fun _=>h.1 rfl) (fun h=>by cases h)
  | false=>exact aZ (t:=false) (by simp [St.rd,St.rdS,sN,St.mk']) (fun h=>by cases h) (fun _=>h.2 rfl)
 exact h.elim
def sO (o : Oper) : Oper := ⟨o.dst, o.op, 0, "", #[], o.guard⟩
theorem qW:List.map sO []= []:=rfl
theorem oS (d : Option Tmp) (op : Op) (ty : TypeId) (pos : String) (after : Array Edge) (g : Option (Nat × Bool)) (r : List Oper) : List.map sO (⟨d, op, ty, pos, after, g⟩ :: r) = ⟨d, op, 0, "", #[], g⟩ :: List.map sO r := rfl
theorem Jq :∀(r:List Oper) (st:St),pX P c all (r.map sO) st K=pX P c all r st K
 | [],_=>rfl
 | o :: r, st => by
  have ih:(fun st'=>pX P c all (r.map sO) st' K)=fun st'=>pX P c all r st' K:=funext fun st'=>Jq r st';show pX P c all (sO o::r.map sO) st K=_
  unfold pX;simp only [sO,ih];split
  .rfl
  split
  .split
   .rw [Jq r];rfl
   rfl
  rfl
theorem Gw :∀(r:List Oper) (ks:List DK) (st:St),jV P c all (r.map sO) ks st K=jV P c all r ks st K
 | [],_,_=>rfl
 | _::_, [],_=>rfl
 | o :: r, k :: ks, st => by
  have ih:(fun st'=>jV P c all (r.map sO) ks st' K)=fun st'=>jV P c all r ks st' K:=funext fun st'=>Gw r ks st';show jV P c all (sO o::r.map sO) (k::ks) st K=_
  unfold jV;simp only [sO,ih];congr 1;split
  .rfl
  split
  .split
   .rw [Gw r]
   rfl
  rfl
theorem tE {id:Nat} (he:ops.map sO=ops')(h:∀all:List Oper,(∀j,aO all j=aO ops j)->∀K:St->Prop,(∀s,Q .normal s->K s)->pX P c all ops' st K):eY rr dfr P (.region id ops.toArray false) Q st:=
 Xf fun K hK=>by
  have:=h ops (fun _=>rfl) K hK
  rwa [<- he,Jq] at this
theorem Ot {id:Nat} (ks:List DK) (hm:P.follows .mixedOrders=true)(hok:Lp c ops ks=true)(he:ops.map sO=ops')
  (h:∀all:List Oper,(∀j,aO all j=aO ops j)->∀K:St->Prop,(∀s,Q .normal s->K s)->jV P c all ops' ks st K):eY rr dfr P (.region id ops.toArray true) Q st:=
 aKs ks hm hok fun K hK=>by
  have:=h ops (fun _=>rfl) K hK
  rwa [<- he,Gw] at this
def Xj:D->Prop
 | .v (.slice none 0 0)=>True
 | _=>False
def Ke(x y:D):Prop:=y=x\/(x.plain=true/\y=x.strip)\/(Xj x/\(y= .sl false []\/y= .sl true []))
theorem Yf:Xj (.v (.slice none 0 0))=True:=rfl
def oD:List D->List D->Prop
 | [], []=>True
 | a::r,b::q=>Ke a b/\oD r q
 | _,_=>False
theorem iP {b:List D} (h:a=b):oD a b:=by
 subst h;induction a with
 | nil=>trivial
 | cons x r ih=>exact⟨.inl rfl,ih⟩
theorem Ll:∀ {a b:List D},oD a b->a.length=b.length
 | [], [],_=>rfl
 | _::_,_::_,h=>by simp [Ll h.2]
 | [],_::_,h=>h.elim
 | _::_, [],h=>h.elim
theorem Ln:∀ {a b:List D},oD a b->∀(i:Nat) (y:D),b[i]?=some y->∃x,a[i]?=some x/\Ke x y
 | x::_,_::_,h,0,y,hy=>by simp at hy;subst hy;exact⟨x,rfl,h.1⟩
 | _::_,_::_,h,i+1,y,hy=>by simpa using Ln h.2 i y (by simpa using hy)
 | [], [],_,_,_,hy=>by simp at hy
 | [],_::_,h,_,_,_=>h.elim
 | _::_, [],h,_,_,_=>h.elim
theorem Ct.of_le {a':List D} {σ σ':List (List D)} {Q:D->List (List D)->Prop} (h:Ct P f a σ Q)(e:oD a' a)(e2:σ'=σ):Ct P f a' σ' Q:=by
 subst e2;refine⟨h.1,fun w g vs hs hb ho=>h.2 w g vs (by rw [hs,Ll e]) hb ⟨ho.mem,ho.xlt,fun t=>?_,ho.ll,ho.loc,ho.ol,ho.obj⟩⟩;have hsl:=ho.slot t;simp only [St.ofArgs] at hsl |-;unfold fP at hsl |-;cases hy:a[t]? with
 | none=>exact⟨.any _,.flat _ _ _ rfl⟩
 | some y =>
  obtain⟨x,hx,hle⟩:=Ln e t y hy;rw [hx] at hsl;rcases hle with rfl | ⟨hp,rfl⟩ | ⟨hn,hy⟩
  .exact hsl
  .exact rR hsl.1 hp t
  have hxn:x= .v (.slice none 0 0):=by
   unfold Xj at hn;split at hn
   .rfl
   exact hn.elim
  subst hxn;obtain⟨hr,_⟩:=hsl;have hv:=hr.vEq;rcases hy with rfl | rfl
  .exact⟨by rw [hv];exact .nil _,.flat _ _ _ rfl⟩
  exact⟨by rw [hv];exact .nil _,.sl _ _ _ (.inl ⟨_,_,hv⟩)⟩
theorem De:∀(sets:List (Nat×Slot)) (l:List (Nat×Slot)),gA sets (eE l)=eE (sets.reverseAux l)
 | [],l=>rfl
 | (a,s)::r,l=>by
  show gA r (fun u=>if u=a then s else eE l u)=_
  have:(fun u=>if u=a then s else eE l u)=eE ((a,s)::l):=by funext u;rw [sN]
  rw [this,De r];rfl
theorem aRk(n:Nat)(l:List (Nat×Slot))(loc obj:List (List D))(sets:List (Nat×Slot))(ob:Option (List (List D))):(St.mk' n l loc obj).upd ⟨sets,none,ob⟩=St.mk' n (sets.reverseAux l) loc (ob.getD obj):=by
 show({ n:=n,env:=gA sets (eE l),loc:=loc,obj:=ob.getD obj } :St)=_
 rw [De];rfl
theorem Yp(l:List (Nat×Slot)):List.reverseAux [] l=l:=rfl
theorem Ss(a:Nat×Slot)(r l:List (Nat×Slot)):List.reverseAux (a::r) l=List.reverseAux r (a::l):=rfl
def exS(R:pM)(K:List (Nat×Slot)->Option (List (List D))->Prop):Prop:=∃sets ob,R sets ob/\K sets ob
@[congr] theorem aXx {R':pM} {K:List (Nat×Slot)->Option (List (List D))->Prop} (h:R=R'):exS R K=exS R' K:=by rw [h]
theorem aTn {alt:Bool} :vcY P alt dst op st K=exS (fun sets ob=>yR P alt dst op st.rdS (if(flY alt op).rO=true then st.obj else []) sets ob) (fun sets ob=>K (st.upd ⟨sets,none,ob⟩)):=rfl
theorem aSx {S:List (Nat×Slot)} {O:Option (List (List D))} {K:List (Nat×Slot)->Option (List (List D))->Prop} :exS (fun sets ob=>sets=S/\ob=O) K=K S O:=by
 apply propext;constructor
 .rintro⟨_,_,⟨rfl,rfl⟩,h⟩;exact h
 intro h;exact⟨_,_,⟨rfl,rfl⟩,h⟩
theorem aOy {C:Prop} {K:List (Nat×Slot)->Option (List (List D))->Prop} :exS (fun sets ob=>C/\R sets ob) K=(C/\exS (fun sets ob=>R sets ob) K):=by
 apply propext;constructor
 .rintro⟨_,_,⟨h1,h2⟩,h⟩;exact⟨h1,_,_,h2,h⟩
 rintro⟨h1,_,_,h2,h⟩;exact⟨_,_,⟨h1,h2⟩,h⟩
theorem aRy {R:α->pM} {K:List (Nat×Slot)->Option (List (List D))->Prop} :exS (fun sets ob=>∃x,R x sets ob) K=∃x,exS (fun sets ob=>R x sets ob) K:=by
 apply propext;constructor
 .rintro⟨_,_,⟨x,h2⟩,h⟩;exact⟨x,_,_,h2,h⟩
 rintro⟨x,_,_,h2,h⟩;exact⟨_,_,⟨x,h2⟩,h⟩
theorem aRp {S:pM} {K:List (Nat×Slot)->Option (List (List D))->Prop} :exS (fun sets ob=>R sets ob\/S sets ob) K=(exS (fun sets ob=>R sets ob) K\/exS (fun sets ob=>S sets ob) K):=by
 apply propext;constructor
 .rintro⟨_,_,h1 | h1,h⟩
  .exact .inl ⟨_,_,h1,h⟩
  exact .inr ⟨_,_,h1,h⟩
 rintro(⟨_,_,h1,h⟩ | ⟨_,_,h1,h⟩)
 .exact⟨_,_,.inl h1,h⟩
 exact⟨_,_,.inr h1,h⟩
theorem aU7 {K:List (Nat×Slot)->Option (List (List D))->Prop} :exS (fun _ _=>False) K=False:=by
 apply propext;exact⟨fun⟨_,_,h,_⟩=>h,False.elim⟩
attribute [simp] aTn aSx aOy aRy aRp aU7
attribute [simp] aRk Yp Ss isY Ey Rh yR yA1 yA2 Et My aFp aCd yX Nl aCk flY Te Cj aIs Yf vK vE yO Lg sM Nw aC3 bnE Bool.true_or Bool.false_or
theorem aCw(cs:List D):D.strip (.tup cs)= .tup (cs.map D.s2):=rfl
attribute [simp] aCw D.plain
theorem aSc(n:Nat)(cs:List D):zN true n cs=if n<=cs.length then some (.agg (cs.take n))else none:=rfl
theorem aR4(n:Nat)(cs:List D):zN false n cs=cs.head?:=rfl
theorem bH(cs:List D)(off:Nat)(ds:List D):dU cs off ds=cs.take off++ds++cs.drop (off+ds.length):=rfl
attribute [simp low] aSc aR4 bH
attribute [simp] Ro Uq aTq aHl aF7 aN7 aGo aO1 aD2 aIj aRv
attribute [simp] aGa aH1 aIp aTk aVl aUi aRh aTr aVd aVh aRn aCp aJj aHg aFh aJ7 aG8 Ya aCs aD3 aDx aJl aHr aVt aTv aOb aSp aNm aIi aGf sW oY nC Yw Um Qo aI6 Tf aD5 aDv Vk Zg
attribute [simp] aO2 List.getElem?_cons_zero Option.bind_some aBm Ic Ia Ik Ov Na aN3 aKg aK1 aKl aJk aBr aFi aJ0 aRg aJy xR aVo aHs
 aNs aG9 Yy aN5 aPf aNx aM3 aFu aEp aD8 aDe aDq aXc aVa aS7 aRx aR0 aTm aW6 aUu aSr aR7 aSv
 aNq aKc aEb aFz aDy aFn aFy aPy aHj aFc aFf aGd aDl aJq aFj Xp Xz aNf aGm aEj aEo
 eF aN4 aKj aKz aF0 aRr aM9 aLx aLo aPd aQp aRc aTo aSb aTp aR9 aF6 aRq aSz aPg aGp aK6 sY iV Pv aO9 dT vcX Fb lJ sH uU qC iU flX xZ Kh Th kT wA He aOh Gz Hq lI jP mO mN vF vP gM qO Si vM qM
 tH Hk xN vH lM pU sF Jj sK xC mG mM iG wC zV Pe St.cellsAt St.park Slot.plus Slot.isAddr aBx D.ofList
 aC4 Zz aOk aVb aOe aHt mS aK8 Mp aNp aS1 aHn lS pN kA uK Is Fm aJm aFm aDr aFq
end Go.Vm
