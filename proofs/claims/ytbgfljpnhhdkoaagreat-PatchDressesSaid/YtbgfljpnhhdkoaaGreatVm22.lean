import Derived.Test.YtbgfljpnhhdkoaaGreatVm21
set_option linter.all false
namespace Go.Vm
open Go
variable {A B:Prop}{K:St->Prop}{P:Program}{Q:Exit->St->Prop}{R:qV}{a:List D}{after:Array Edge}{all ops ops' r:List Oper}{args:Array Operand}{b want:Bool}{body:Code}{c:Cfg}{d dst:Option Tmp}{f:FuncId}{i j n t:Nat}{k:DK}{ks:List DK}{l l2:List (Nat×Slot)}{loc obj:List (List D)}{op:Op}{pos:String}{s st:St}{ts:Array TypeId}{ty:TypeId}{α:Type}
variable {rr:Option Nat} {dfr:List Deferred}
section
theorem gI {y:Code} (h:eK rr dfr P y Q s):wZ rr dfr P y Q .normal s:=h
theorem vH {y:Code} (h:Q (.exit i) s):wZ rr dfr P y Q (.exit i) s:=h
theorem gQ (h:Q .normal s):tJ i Q .normal s:=h
theorem sL (h:Q .normal s):tJ i Q (.exit i) s:=by simpa [tJ] using h
theorem yB {S:α->St} {p:α->Prop} {m:α->Nat} {x:α} (h:Q (.exit i) s):Av S p m x Q (.exit i) s:=h
def Br(d:D)(A B:Prop):Prop:=match d with
 | .v (.bool t)=>(t=true->A)/\(t=false->B)
 | _=>False
theorem aE (h:∀K':St->Prop,(∀s,qI P c all r s K->K' s)->Vj d st/\jL P c d op st K'):qI P c all (⟨d,op,ty,pos,after,none⟩::r) st K:=
 h _ fun _ h=>h
theorem aFj (n:Nat) (h:∀K':St->Prop,(∀s,qI P c all (r.drop n) s K->K' s)->qI P c all (r.take n) st K'):qI P c all r st K:=by
 have go:∀(n:Nat) (r:List Oper) (st:St),qI P c all (r.take n) st (fun s=>qI P c all (r.drop n) s K)->qI P c all r st K:=by
  intro n;induction n with
  | zero=>intro r st h;exact h
  | succ n ih =>
   intro r st h;cases r with
   | nil=>exact h
   | cons o r =>
    simp only [Ft,List.drop_succ_cons] at h;unfold qI at h |-;split at h
    .rename_i hg;have hd:=h.1;refine⟨hd,?_⟩;exact Bs (fun s hs=>ih r s hs) h.2
    rename_i j want hg;split at h
    .split at h
     .exact⟨fun hb=>⟨(h.1 hb).1,Bs (fun s hs=>ih r s hs) (h.1 hb).2⟩,fun hb=>⟨(h.2 hb).1,ih r _ (h.2 hb).2⟩⟩
     exact h.elim
    exact h.elim
 exact go n r st (h _ fun _ h=>h)
theorem aW9 (hg:aT all j=some t)(hs:st.env t= .d (.v (.bool b)))
  (h1:b=want->∀K':St->Prop,(∀s,qI P c all r s K->K' s)->Vj d st/\jL P c d op st K') (h2:b= !want->Vj d st/\qI P c all r (st.put d .und) K):qI P c all (⟨d,op,ty,pos,after,some (j,want)⟩::r) st K:=by
 rw [Pd];simp only [hg,hs];exact⟨fun hb=>h1 hb _ fun _ h=>h,h2⟩
theorem aUk (hg:aT all j=some t)(hs:st.env t= .d (.v (.bool b)))(hb:b=want)
  (h1:∀K':St->Prop,(∀s,qI P c all r s K->K' s)->Vj d st/\jL P c d op st K'):qI P c all (⟨d,op,ty,pos,after,some (j,want)⟩::r) st K:=
 aW9 hg hs (fun _=>h1) fun h=>(by rw [hb] at h;cases want <;> cases h)
theorem Kh (hs:eB l t= .d (.v (.bool b))):St.mk' n l loc obj=St.mk' n ((t,.d (.bool b))::l) loc obj:=by
 unfold St.mk';congr 1;funext u;simp only [eB];split
 .rename_i e;rw [e,hs]
 rfl
theorem aLy (t:Nat) {s:Slot} (hs:eB l t=s)
  (h:Br s.toD (qI P c all r (St.mk' n ((t,.d (.bool true))::l) loc obj) K) (qI P c all r (St.mk' n ((t,.d (.bool false))::l) loc obj) K)):qI P c all r (St.mk' n l loc obj) K:=by
 unfold Br at h;split at h
 .rename_i b hb;have hs':eB l t= .d (.v (.bool b)):=by
   rw [hs];cases s with
   | d d=>simp only [Slot.toD] at hb;rw [hb]
   | lref n o=>simp [Slot.toD] at hb
  rw [Kh hs'];cases b
  .exact h.2 rfl
  exact h.1 rfl
 exact h.elim
def aVe(P:Program)(c:Cfg)(all r:List Oper)(K:St->Prop):St->Prop:=fun st=>qI P c all r st K
theorem aL4 :aVe P c all r K st=qI P c all r st K:=rfl
theorem aQ3 :qI P c all (⟨d,op,ty,pos,after,none⟩::r) st K=(Vj d st/\jL P c d op st (aVe P c all r K)):=rfl
def aK0(P:Program)(c:Cfg)(all r:List Oper)(ks:List DK)(K:St->Prop):St->Prop:=fun st=>jS P c all r ks st K
theorem aF7 :aK0 P c all r ks K st=jS P c all r ks st K:=rfl
theorem aJy :jS P c all (⟨d,op,ty,pos,after,none⟩::r) (k::ks) st K=(Vj d st/\At P c d op k st (aK0 P c all r ks K)):=rfl
@[congr] theorem aXx {op:BinOp} {t:TypeId} {x y x' y':Slot} {K:D->Prop} (hx:x=x')(hy:y=y'):xD P op t x y K=xD P op t x' y' K:=by rw [hx,hy]
@[congr] theorem aV4 {op:BinOp} {k:IntKind} {a b a' b':Int} {K:D->Prop} (hx:a=a')(hy:b=b'):Ih op k a b K=Ih op k a' b' K:=by rw [hx,hy]
@[congr] theorem aXd {op:BinOp} {a b a' b':ByteArray} {K:D->Prop} (hx:a=a')(hy:b=b'):Ho op a b K=Ho op a' b' K:=by rw [hx,hy]
@[congr] theorem aWw {t:TypeId} {b a' b':List D} {K:Bool->Prop} (hx:a=a')(hy:b=b'):xU P t a b K=xU P t a' b' K:=by rw [hx,hy]
@[congr] theorem aX4 {op:UnOp} {x x':D} {K:D->Prop} (hx:x=x'):Is op x K=Is op x' K:=by rw [hx]
def sel(b:Bool)(s r:Slot):Slot:=if b=true then s else r
@[congr] theorem aYq {b':Bool} {s r:Slot} (h:b=b'):sel b s r=sel b' s r:=by rw [h]
theorem aM5 {s r:Slot} :sel true s r=s:=rfl
theorem aJj {s r:Slot} :sel false s r=r:=rfl
theorem Fq(a:Nat)(s:Slot)(r:List (Nat×Slot))(t:Nat):eB ((a,s)::r) t=sel (t==a) s (eB r t):=by
 simp only [eB,sel,yW]
def gv3(s:Slot)(want:Bool):Option Bool:=Hs s want
def gv2(o:Option Tmp)(st:St)(want:Bool):Option Bool:=match o with
 | some t=>gv3 (st.env t) want
 | none=>none
@[congr] theorem aYt {o o':Option Tmp} (h:o=o'):gv2 o st want=gv2 o' st want:=by rw [h]
theorem aOa(t:Tmp)(st:St)(want:Bool):gv2 (some t) st want=gv3 (st.env t) want:=rfl
theorem aNd(b want:Bool):gv3 (.d (.v (.bool b))) want=some b:=rfl
theorem aPu(want:Bool):gv3 (.d (.tup [])) want=some (!want):=rfl
def aMl(all:List Oper)(j:Nat)(st:St)(want:Bool):Option Bool:=match aT all j with
 | some t=>Hs (st.env t) want
 | none=>none
theorem aR5(all:List Oper)(j:Nat)(st:St)(want:Bool):aMl all j st want=gv2 (aT all j) st want:=rfl
def vcG(g:Option Bool)(want:Bool)(A B:Prop):Prop:=match g with
 | some b=>(b=want->A)/\(b= !want->B)
 | none=>False
@[congr] theorem aVw {g g':Option Bool} (h:g=g'):vcG g want A B=vcG g' want A B:=by rw [h]
theorem aVi :vcG (some true) true A B=A:=by simp [vcG]
theorem aUg :vcG (some true) false A B=B:=by simp [vcG]
theorem aT4 :vcG (some false) true A B=B:=by simp [vcG]
theorem aU1 :vcG (some false) false A B=A:=by simp [vcG]
theorem aVd :qI P c all (⟨d,op,ty,pos,after,some (j,want)⟩::r) st K=
  vcG (aMl all j st want) want (Vj d st/\jL P c d op st (aVe P c all r K)) (Vj d st/\qI P c all r (st.put d .und) K):=by
 rw [Pd];unfold aMl vcG;split
 .rename_i t ht;simp only [ht];split
  .rename_i h;simp [h];exact fun _=>Iff.rfl
  rename_i h;simp [h]
 rename_i h;simp [h]
def Zu(d:D)(A B:Prop):Prop:=match d with
 | .v (.bool t)=>(t=true->A)/\(t=false->B)
 | _=>False
@[congr] theorem aT7 {d d':D} (h:d=d'):Zu d A B=Zu d' A B:=by rw [h]
theorem aVu :Zu (.v (.bool true)) A B=A:=by simp [Zu]
theorem aVn :Zu (.v (.bool false)) A B=B:=by simp [Zu]
theorem aEk {c a b:Operand} :Bz dst c a b st K=Zu (st.rd c) ((st.rd a).plain=true/\K (st.put dst (.d (st.rd a).strip))) ((st.rd b).plain=true/\K (st.put dst (.d (st.rd b).strip))):=rfl
theorem Xy {K':St->Prop} (hk:∀s,K s->K' s)(h:At P c dst op k st K):At P c dst op k st K':=by
 unfold At at *;cases k with
 | op f=>exact⟨h.1,h.2.1,Bs hk h.2.2⟩
 | pure=>
  simp only at *;split at h
  .obtain⟨h1,r,h2,h3⟩:=h;exact⟨h1,r,h2,hk _ h3⟩
  exact h
 | pureC =>
  simp only at *;split at h
  .split at h
   .rename_i hf;obtain⟨h0,h1,r,h2,h3⟩:=h;exact⟨h0,h1,r,h2,hk _ h3⟩
   exact h.elim
  exact h
 | read=>
  simp only at *;split at h
  .obtain⟨h1,r,h2,h3⟩:=h;exact⟨h1,r,h2,hk _ h3⟩
  exact h
 | det=>
  simp only at *;split at h
  .obtain⟨h1,r,σ0,h2,h3⟩:=h;exact⟨h1,r,σ0,h2,hk _ h3⟩
  exact h
 | readT=>
  simp only at *;split at h
  .obtain⟨h1,r,h2,h3⟩:=h;exact⟨h1,r,h2,hk _ h3⟩
  exact h
 | nd=>
  obtain⟨Q,h1,h2⟩:=h;exact⟨Q,h1,fun r σ0 hq=>hk _ (h2 r σ0 hq)⟩
 | detA=>
  simp only at *;split at h
  .obtain⟨h1,r,J,h2,h3⟩:=h;exact⟨h1,r,J,h2,hk _ h3⟩
  exact h
 | pureT=>
  simp only at *;split at h
  .obtain⟨h0,h1,r,h2,h3⟩:=h;exact⟨h0,h1,r,h2,hk _ h3⟩
  exact h
 | detT=>
  simp only at *;split at h
  .obtain⟨h0,h1,r,σ0,h2,h3⟩:=h;exact⟨h0,h1,r,σ0,h2,hk _ h3⟩
  exact h
theorem Jv :jS P c all [] ks st K=K st:=by unfold jS;rfl
theorem aRg :jS P c all (⟨d,op,ty,pos,after,some (j,want)⟩::r) (k::ks) st K=
  (Vj d st/\vcG (aMl all j st want) want (At P c d op k st (aK0 P c all r ks K)) (jS P c all r ks (st.put d .und) K)):=by
 conv=>lhs;unfold jS
 show(_/\_)=_
 congr 1;simp only;unfold aMl vcG;split
 .rename_i t ht;simp only [ht];split
  .rename_i h;simp [h];exact fun _=>Iff.rfl
  rename_i h;simp [h]
 rename_i h;simp [h]
theorem dL (h:∀K':St->Prop,(∀s,jS P c all r ks s K->K' s)->Vj d st/\At P c d op k st K'):jS P c all (⟨d,op,ty,pos,after,none⟩::r) (k::ks) st K:=
 h _ fun _ h=>h
theorem Zc (n:Nat) (hks:n<=ks.length)(h:∀K':St->Prop,(∀s,jS P c all (r.drop n) (ks.drop n) s K->K' s)->jS P c all (r.take n) (ks.take n) st K'):jS P c all r ks st K:=by
 have go : ∀ (n : Nat) (r : List Oper) (ks : List DK) (st : St), n <= ks.length -> jS P c all (r.take n) (ks.take n) st (fun s => jS P c all (r.drop n) (ks.drop n) s K) -> jS P c all r ks st K := by
  intro n;induction n with
  | zero=>intro r ks st _ h;simp only [Ep,yX,Jv] at h;exact h
  | succ n ih =>
   intro r ks st hks h;cases ks with
   | nil=>simp at hks
   | cons k ks =>
    cases r with
    | nil=>simp only [List.take_nil,List.drop_nil,Jv] at h |-;exact h
    | cons o r =>
     simp only [Ft,List.drop_succ_cons] at h;simp only [bT] at hks;unfold jS at h |-;refine⟨h.1,?_⟩;have h2:=h.2;split at h2
     .exact Xy (fun s hs=>ih r ks s (by omega) hs) h2
     split at h2
     .split at h2
      .exact⟨fun hb=>Xy (fun s hs=>ih r ks s (by omega) hs) (h2.1 hb),fun hb=>ih r ks _ (by omega) (h2.2 hb)⟩
      exact h2.elim
     exact h2.elim
 exact go n r ks st hks (h _ fun _ h=>h)
theorem aQ2 (hg:aT all j=some t)(hs:st.env t= .d (.v (.bool b)))(hb:b=want)
  (h1:∀K':St->Prop,(∀s,jS P c all r ks s K->K' s)->Vj d st/\At P c d op k st K'):jS P c all (⟨d,op,ty,pos,after,some (j,want)⟩::r) (k::ks) st K:=by
 unfold jS;refine⟨(h1 _ fun _ h=>h).1,?_⟩;simp only [hg,hs];exact⟨fun _=>(h1 _ fun _ h=>h).2,fun h=>(by rw [hb] at h;cases want <;> cases h)⟩
theorem aG1 (t:Nat) {s:Slot} (hs:eB l t=s)
  (h:Br s.toD (jS P c all r ks (St.mk' n ((t,.d (.bool true))::l) loc obj) K) (jS P c all r ks (St.mk' n ((t,.d (.bool false))::l) loc obj) K)):jS P c all r ks (St.mk' n l loc obj) K:=by
 unfold Br at h;split at h
 .rename_i b hb;have hs':eB l t= .d (.v (.bool b)):=by
   rw [hs];cases s with
   | d d=>simp only [Slot.toD] at hb;rw [hb]
   | lref n o=>simp [Slot.toD] at hb
  rw [Kh hs'];cases b
  .exact h.2 rfl
  exact h.1 rfl
 exact h.elim
def dG:List Nat->List (Nat×Slot)->List (Nat×Slot)
 | _, []=> []
 | W,(t,s)::r=>if W.contains t then dG W r else(t,s)::dG (t::W) r
theorem aQ0(n:Nat)(s:Slot):Mh n s (.d .any)=True:=by
 unfold Mh;split <;> simp_all
theorem aXf(n:Nat)(x:D):Mh n (.d x) (.d x)=True:=by
 cases x with
 | sl o es=>cases o <;> simp [Mh]
 | _=>simp [Mh]
theorem aQa(n:Nat)(es:List D):Mh n (.d (.sl true es)) (.d (.sl false es))=True:=by
 unfold Mh;simp
theorem aOf(n m o:Nat):Mh n (.lref m o) (.lref m o)=(m<n):=by
 unfold Mh;simp
def xT(n:Nat)(env:Nat->Slot):List (Nat×Slot)->Prop
 | []=>True
 | (a,s)::r=>Mh n (env a) s/\xT n env r
theorem aFn(n:Nat)(env:Nat->Slot):xT n env []=True:=rfl
theorem Yy(n:Nat)(env:Nat->Slot)(a:Nat)(s:Slot)(r:List (Nat×Slot)):xT n env ((a,s)::r)=(Mh n (env a) s/\xT n env r):=rfl
theorem tF {env:Nat->Slot} :∀ {l:List (Nat×Slot)},xT n env l->∀p∈l,Mh n (env p.1) p.2
 | [],_,p,hp=>by simp at hp
 | (a,s)::r,h,p,hp=>by
  rcases bU.1 hp with rfl | hp
  .exact h.1
  exact tF h.2 p hp
theorem dX (hn:st.n=n)(hl:xT loc.length st.env l)(hloc:loc<+:st.loc)(hobj:st.obj=obj):Weak st (St.mk' n l loc obj):=
 Iw hn (tF hl) hloc hobj
theorem aZ (F:α->List (Nat×Slot))(W:List Nat)(p:α->Prop)(m:α->Nat)(x0:α) 
  (hl:dG W l=l2) (hF:xT loc.length (eB l) (F x0++l2)) (hp:p x0)
  (h:∀x,p x->eK rr dfr P body (Av (fun x=>St.mk' n (F x++l2) loc obj) p m x Q) (St.mk' n (F x++l2) loc obj)):eK rr dfr P (.loop body) Q (St.mk' n l loc obj):=
 Lt (fun x=>St.mk' n (F x++l2) loc obj) p m x0 (Iw rfl (tF hF) (Ae _) rfl) hp h
theorem aFf (F:α->List (Nat×Slot))(G:α->List (List D))(W:List Nat)(p:α->Prop)(m:α->Nat)(x0:α) 
  (hl:dG W l=l2) (hF:xT (G x0).length (eB l) (F x0++l2)) (hG:G x0=loc) (hp:p x0)
  (h:∀x,p x->eK rr dfr P body (Av (fun x=>St.mk' n (F x++l2) (G x) obj) p m x Q) (St.mk' n (F x++l2) (G x) obj)):eK rr dfr P (.loop body) Q (St.mk' n l loc obj):=
 Lt (fun x=>St.mk' n (F x++l2) (G x) obj) p m x0 (Iw rfl (tF hF) (by rw [hG];exact Ae _) rfl) hp h
theorem jR (F:α->List (Nat×Slot))(G H:α->List (List D))(W:List Nat)(p:α->Prop)(m:α->Nat)(x0:α) 
  (hl:dG W l=l2) (hF:xT (G x0).length (eB l) (F x0++l2)) (hG:G x0=loc) (hH:H x0=obj) (hp:p x0)
  (h:∀x,p x->eK rr dfr P body (Av (fun x=>St.mk' n (F x++l2) (G x) (H x)) p m x Q) (St.mk' n (F x++l2) (G x) (H x))):eK rr dfr P (.loop body) Q (St.mk' n l loc obj):=
 Lt (fun x=>St.mk' n (F x++l2) (G x) (H x)) p m x0 (Iw rfl (tF hF) (by rw [hG];exact Ae _) hH.symm) hp h
theorem eX {S:α->St} {p:α->Prop} {m:α->Nat} {x:α} (y:α)(hp:p y)(hm:m y<m x)(hw:Weak s (S y)):Av S p m x Q .normal s:=⟨y,hp,hm,hw⟩
def aXi {α:Type} (S:α->St)(p:α->Prop)(Q:Exit->St->Prop):Exit->St->Prop
 | .normal,s=>∃y,p y/\Weak s (S y)
 | e,s=>Q e s
theorem Zq(n:Nat):D.strip (.mref n)= .mref n:=rfl
theorem aQx(n:Nat):D.s1 (.mref n)= .mref n:=rfl
theorem aQe(n:Nat):D.s2 (.mref n)= .mref n:=rfl
theorem aAd(n:Nat):D.plain (.mref n)=true:=rfl
theorem Yl(n:Nat):D.solid (.mref n)=true:=rfl
theorem Wv(n:Nat):D.ncells (.mref n)=1:=rfl
theorem Zl(n:Nat):D.cells (.mref n)= [.mref n]:=rfl
theorem aLx(kd:TypeDesc)(c:Nat)(kvs:List (Value×Nat×D)):D.strip (.mo kd c kvs)= .mz:=rfl
theorem aWr(kd:TypeDesc)(c:Nat)(kvs:List (Value×Nat×D)):D.s1 (.mo kd c kvs)= .mz:=rfl
theorem aWz(kd:TypeDesc)(c:Nat)(kvs:List (Value×Nat×D)):D.s2 (.mo kd c kvs)= .mz:=rfl
theorem aMc(kd:TypeDesc)(c:Nat)(kvs:List (Value×Nat×D)):D.plain (.mo kd c kvs)=true:=rfl
theorem aIo(kd:TypeDesc)(c:Nat)(kvs:List (Value×Nat×D)):D.solid (.mo kd c kvs)=true:=rfl
theorem aFq(kd:TypeDesc)(c:Nat)(kvs:List (Value×Nat×D)):D.ncells (.mo kd c kvs)=1:=rfl
theorem aNa(kd:TypeDesc)(c:Nat)(kvs:List (Value×Nat×D)):D.cells (.mo kd c kvs)= [.mo kd c kvs]:=rfl
theorem aE8(n a b:Nat)(l:List Nat):D.strip (.mit n a l b)= .any:=rfl
theorem aTg(n a b:Nat)(l:List Nat):D.s1 (.mit n a l b)= .any:=rfl
theorem aUr(n a b:Nat)(l:List Nat):D.s2 (.mit n a l b)= .any:=rfl
theorem aGy(n a b:Nat)(l:List Nat):D.plain (.mit n a l b)=true:=rfl
theorem aD2(n a b:Nat)(l:List Nat):D.solid (.mit n a l b)=false:=rfl
theorem aJc(n c:Nat)(kd:TypeDesc)(kvs:List (Value×Nat×D)):D.strip (.mp n kd c kvs)= .mref n:=rfl
theorem aWj(n c:Nat)(kd:TypeDesc)(kvs:List (Value×Nat×D)):D.s1 (.mp n kd c kvs)= .mref n:=rfl
theorem aWk(n c:Nat)(kd:TypeDesc)(kvs:List (Value×Nat×D)):D.s2 (.mp n kd c kvs)= .mref n:=rfl
theorem aNb(n c:Nat)(kd:TypeDesc)(kvs:List (Value×Nat×D)):D.plain (.mp n kd c kvs)=true:=rfl
theorem aJ7(n c:Nat)(kd:TypeDesc)(kvs:List (Value×Nat×D)):D.solid (.mp n kd c kvs)=true:=rfl
theorem aGk(n c:Nat)(kd:TypeDesc)(kvs:List (Value×Nat×D)):D.ncells (.mp n kd c kvs)=1:=rfl
theorem aKh(n c:Nat)(kd:TypeDesc)(kvs:List (Value×Nat×D)):D.cells (.mp n kd c kvs)= [.mp n kd c kvs]:=rfl
theorem aGv(t:TypeId)(d:D):D.strip (.ifc t d)= .ifc t d:=rfl
theorem aTa(t:TypeId)(d:D):D.s1 (.ifc t d)= .ifc t d:=rfl
theorem aU8(t:TypeId)(d:D):D.s2 (.ifc t d)= .ifc t d:=rfl
theorem aDx(t:TypeId)(d:D):D.plain (.ifc t d)=true:=rfl
theorem aFm(t:TypeId)(d:D):D.solid (.ifc t d)=true:=rfl
theorem aAe(t:TypeId)(d:D):D.ncells (.ifc t d)=1:=rfl
theorem aEf(t:TypeId)(d:D):D.cells (.ifc t d)= [.ifc t d]:=rfl
theorem aL6(n:Nat):D.arr (.mref n)=true:=rfl
attribute [simp] aLx aWr aWz aMc aIo aFq aNa aE8 aTg aUr aGy aD2 Zq aQx aQe aAd Yl Wv Zl aJc aWj aWk aNb aJ7 aGk aKh aGv aTa aU8 aDx aFm aAe aEf aL6
theorem aG6(n a b c:Nat):D.strip (.slo n a b c)= .slo n a b c:=rfl
theorem aN1(n:Nat):D.strip (.xl n)= .xl n:=rfl
theorem aM8(k:Nat)(es:List D):D.strip (.xs k es)= .xl es.length:=rfl
theorem aTo(n a b c:Nat):D.s2 (.slo n a b c)= .slo n a b c:=rfl
theorem aXm(n:Nat):D.s2 (.xl n)= .xl n:=rfl
theorem aXc(k:Nat)(es:List D):D.s2 (.xs k es)= .xl es.length:=rfl
theorem aU4(f:Go.Fn)(a b:List D):D.s2 (.clo f a b)= .clo f a b:=rfl
theorem aVm(n a b c:Nat):D.s1 (.slo n a b c)= .slo n a b c:=rfl
theorem aWu(n:Nat):D.s1 (.xl n)= .xl n:=rfl
theorem aXq(k:Nat)(es:List D):D.s1 (.xs k es)= .xl es.length:=rfl
theorem aVc(f:Go.Fn)(a b:List D):D.s1 (.clo f a b)= .clo f a b:=rfl
theorem aFk(n a b c:Nat):D.plain (.slo n a b c)=true:=rfl
theorem aMy(n:Nat):D.plain (.xl n)=true:=rfl
theorem aNk(k:Nat)(es:List D):D.plain (.xs k es)=true:=rfl
theorem aD0(n a b c:Nat):D.solid (.slo n a b c)=true:=rfl
theorem aI0(n:Nat):D.solid (.xl n)=true:=rfl
theorem aLo(k:Nat)(es:List D):D.solid (.xs k es)=true:=rfl
theorem Ym(n a b c:Nat):D.ncells (.slo n a b c)=1:=rfl
theorem aHe(n:Nat):D.ncells (.xl n)=1:=rfl
theorem aHb(k:Nat)(es:List D):D.ncells (.xs k es)=1:=rfl
theorem aHt(n a b c:Nat):D.cells (.slo n a b c)= [.slo n a b c]:=rfl
theorem aL1(n:Nat):D.cells (.xl n)= [.xl n]:=rfl
theorem aMh(k:Nat)(es:List D):D.cells (.xs k es)= [.xs k es]:=rfl
theorem aV2(x:Value):D.arr (.v x)=true:=rfl
theorem aUm(es:List D):D.arr (.sl false es)=true:=rfl
theorem aRv(cs:List D):D.arr (.agg cs)=cs.all D.flat:=rfl
theorem aTw(x:Value):D.flat (.v x)=true:=rfl
theorem aPr(es:List D):D.flat (.sl false es)=true:=rfl
theorem aId(n o:Nat):D.flat (.ref n o)=true:=rfl
def Fc:List (Nat×List D)->List (List D)->List (List D)
 | [],l=>l
 | (n,c)::r,l=>(Fc r l).set n c
theorem rK(l:List (List D)):Fc [] l=l:=rfl
theorem oS(n:Nat)(c:List D)(r:List (Nat×List D))(l:List (List D)):Fc ((n,c)::r) l=(Fc r l).set n c:=rfl
theorem qB (F:α->List (Nat×Slot))(M N:α->List (Nat×List D))(W:List Nat)(p:α->Prop)(m:α->Nat)(x0:α) 
  (hl:dG W l=l2) (hF:xT (Fc (M x0) loc).length (eB l) (F x0++l2)) (hG:Fc (M x0) loc=loc) (hH:Fc (N x0) obj=obj) (hp:p x0)
  (h:∀x,p x->eK rr dfr P body (Av (fun x=>St.mk' n (F x++l2) (Fc (M x) loc) (Fc (N x) obj)) p m x Q) (St.mk' n (F x++l2) (Fc (M x) loc) (Fc (N x) obj))):eK rr dfr P (.loop body) Q (St.mk' n l loc obj):=
 jR F (fun x=>Fc (M x) loc) (fun x=>Fc (N x) obj) W p m x0 hl hF hG hH hp h
theorem aEc (l:List α)(a:α):(l++ [a])[l.length]?=some a:=by simp
theorem pH (l:List α)(a b:α):(l++ [a]).set l.length b=l++ [b]:=by simp
def xM:List Nat->List (Nat×Slot)->List (Nat×Slot)
 | [],_=> []
 | t::r,l=>(t,eB l t)::xM r l
theorem Re(l:List (Nat×Slot)):xM [] l= []:=rfl
theorem Bq(t:Nat)(r:List Nat)(l:List (Nat×Slot)):xM (t::r) l=(t,eB l t)::xM r l:=rfl
theorem Ge(l:List (Nat×Slot))(u:Nat):∀K:List Nat,eB (xM K l) u=eB l u\/eB (xM K l) u= .any
 | []=> .inr rfl
 | t::r=>by
  rw [Bq,sU];split
  .rename_i h;subst h;exact .inl rfl
  exact Ge l u r
theorem aLg (K:List Nat) {c:Code} (hl:xM K l=l2)(h:eK rr dfr P c Q (St.mk' n l2 loc obj)):eK rr dfr P c Q (St.mk' n l loc obj):=by
 subst hl;intro w0 g0 w g tmps hf hok hn;refine h w0 g0 w g tmps hf ⟨hok.mem,hok.xlt,fun t=>?_,hok.ll,hok.loc,hok.ol,hok.obj⟩ hn;have hs:=hok.slot t;show SlotOk w g t (eB (xM K l) t) _
 rcases Ge l t K with e | e
 .rw [e];exact hs
 rw [e];exact⟨.any _,.flat _ _ _ rfl⟩
theorem qO (ts k:Nat) {es:List D} {c:Code} (hs:eB l ts= .d (.xs k es))(hk0:0<k)
  (h:∀(cap:Nat) (rest:List D),es.length<=cap->cap<=maxLen->rest.length=(cap - es.length) * k->0<k->(∀d∈es,d.ncells=k/\d.arr=true)->eK rr dfr P c Q (St.mk' n ((ts,.d (.slo obj.length 0 es.length cap))::l) loc (obj++ [es.flatMap D.cells++rest]))):eK rr dfr P c Q (St.mk' n l loc obj):=by
 intro w0 g0 w g tmps hf hok hn;obtain⟨cap,rest,g',a1,a2,a3,a4,a5,_,hfr,hok'⟩:=hok.openX ts k es hs hk0;exact h cap rest a1 a2 a3 a4 a5 w0 g0 w g' tmps (hf.trans hfr) hok' hn
theorem gW (ts k:Nat) {es:List D} {c:Code} (hs:eB l ts= .d (.xs k es))(hk0:0<k)
  (h:∀(cap:Nat) (rest:List D),es.length<=cap->cap<=maxLen->rest=List.replicate ((cap - es.length) * k) .any->0<k->(∀d∈es,d.ncells=k/\d.arr=true)->eK rr dfr P c Q (St.mk' n ((ts,.d (.slo obj.length 0 es.length cap))::l) loc (obj++ [es.flatMap D.cells++rest]))):eK rr dfr P c Q (St.mk' n l loc obj):=by
 intro w0 g0 w g tmps hf hok hn;obtain⟨cap,rest,g',a1,a2,a3,a4,a5,_,hfr,hok'⟩:=hok.openX2 ts k es hs hk0;exact h cap rest a1 a2 a3 a4 a5 w0 g0 w g' tmps (hf.trans hfr) hok' hn
theorem eW (ts k m len cap:Nat)(es cs:List D) {c:Code} (hs:eB l ts= .d (.slo m 0 len cap))(hm:obj[m]?=some cs)(hk:0<k)(hcs:cs.length=cap * k)(hl:es.length=len)
  (hes:∀d∈es,d.ncells=k/\d.arr=true) (he:es.flatMap D.cells<+:cs) (h:eK rr dfr P c Q (St.mk' n ((ts,.d (.xs k es))::l) loc (obj.set m []))):eK rr dfr P c Q (St.mk' n l loc obj):=by
 intro w0 g0 w g tmps hf hok hn;obtain⟨g',_,hfr,hok'⟩:=hok.closeX ts k m len cap es cs hs hm hk hcs hl hes he;exact h w0 g0 w g' tmps (hf.trans hfr) hok' hn
theorem aH9 (f:α->D)(l:List α)(k:Nat)(h:k<l.length):(l.map f).getD k .any=f l[k]:=by
 simp [List.getD,h]
theorem Og (f:α->D)(l:List α)(k:Nat)(h:k<l.length):(l.map f)[k]?=some (f l[k]):=by
 simp [h]
theorem aQ1(n:Int):inR .i64 n=(-9223372036854775808<=n/\n<=9223372036854775807):=by
 unfold inR;rfl
theorem aTm(n:Int):inR .u8 n=(0<=n/\n<=255):=by
 unfold inR;rfl
end
theorem aNv:Sg []=true:=rfl
theorem aGd(r:List (Option Holder)):Sg (none::r)=Sg r:=by simp [Sg]
theorem aFv(h:Holder)(r:List (Option Holder)):Sg (some h::r)=(!r.contains (some h) && Sg r):=by
 simp only [Sg,sG,id,iR,Bool.decide_and,List.contains_eq_mem];congr 1;rw [<- decide_not];congr 1;simp [oU]
theorem aE0:maxLen=9223372036854775807:=rfl
theorem aPd(n:Nat)(l:List (Nat×Slot))(loc obj:List (List D)):({ n:=n,env:=eB l,loc:=loc,obj:=obj } :St)=St.mk' n l loc obj:=rfl
def Gi:Slot->Slot
 | .d x=> .d x.strip
 | s=>s
def pQ:List Nat->List (Nat×Slot)->List (Nat×Slot)
 | [],l=>l
 | t::r,l=>(t,Gi (eB l t))::pQ r l
theorem Hq(l:List (Nat×Slot))(u:Nat):∀ts:List Nat,eB (pQ ts l) u=if u∈ts then Gi (eB l u)else eB l u
 | []=>by simp [pQ]
 | t::r=>by
  rw [pQ,sU,Hq l u r];by_cases h:u=t
  .subst h;simp
  simp [h]
theorem rR(l:List (Nat×Slot))(ts:List (Option Nat)):iI ts (eB l)=eB (pQ (ts.filterMap id) l):=by
 funext u;rw [Hq];by_cases h:some u∈ts
 .have h1:ts.contains (some u)=true:=by simpa using h
  have h2:u∈ts.filterMap id:=by simpa using h
  simp only [iI,h1,aU,aI h2,Gi];split <;> simp_all
 have h1:ts.contains (some u)=false:=by simpa using h
 have h2:¬u∈ts.filterMap id:=by simpa using h
 simp only [iI,h1,aC h2];rfl
theorem Zp {d:Nat} {args:List Operand} :pO P (some d) f args (St.mk' n l loc obj) K=
  ((args.filterMap cR).Nodup/\(∀x∈args,Az ((St.mk' n l loc obj).rdS x)=true/\((St.mk' n l loc obj).rd x).plain=true)/\
   Ct P f (args.map (xG (St.mk' n l loc obj))) obj (fun r σ'=>K (St.mk' n ((d,.d r)::pQ (args.filterMap cR) l) loc σ'))):=by
 unfold pO;have e:(args.map cR).filterMap id=args.filterMap cR:=by rw [Gp];rfl
 simp only [Jg,Ix,Jj,aB0,rR,e];rfl
theorem Xj(l:List (Nat×Slot)):pQ [] l=l:=rfl
theorem Ro(t:Nat)(r:List Nat)(l:List (Nat×Slot)):pQ (t::r) l=(t,Gi (eB l t))::pQ r l:=rfl
theorem aJe(x:D):Gi (.d x)= .d x.strip:=rfl
theorem Vq(a b:Nat):Gi (.lref a b)= .lref a b:=rfl
theorem aGq:List.filterMap cR []= []:=rfl
theorem aDu(t:Tmp)(r:List Operand):List.filterMap cR (.tmp t::r)=t::List.filterMap cR r:=rfl
theorem Vw(v:Value)(r:List Operand):List.filterMap cR (.const v::r)=List.filterMap cR r:=rfl
theorem Yv(v:FuncId)(r:List Operand):List.filterMap cR (.func v::r)=List.filterMap cR r:=rfl
theorem Sn {d:Nat} :
  At P c (some d) (.call ⟨.value (.func f),args,ts⟩) .pureT (St.mk' n l loc obj) K=
  ((args.toList.filterMap cR).Nodup/\(∀x∈args.toList,Az ((St.mk' n l loc obj).rdS x)=true/\((St.mk' n l loc obj).rd x).plain=true)/\
   ∃r,(∀σ,Ct P f (args.toList.map (xG (St.mk' n l loc obj))) σ fun r' σ'=>r'=r/\σ'=σ)/\K (St.mk' n ((d,.d r)::pQ (args.toList.filterMap cR) l) loc obj)):=by
 have e:(args.toList.map cR).filterMap id=args.toList.filterMap cR:=by rw [Gp];rfl
 simp only [At,Jg,Ix,Jj,aB0,rR,e];rfl
theorem Wz {d:Nat} :
  At P c (some d) (.call ⟨.value (.func f),args,ts⟩) .detT (St.mk' n l loc obj) K=
  ((args.toList.filterMap cR).Nodup/\(∀x∈args.toList,Az ((St.mk' n l loc obj).rdS x)=true/\((St.mk' n l loc obj).rd x).plain=true)/\
   ∃r σ0,(Ct P f (args.toList.map (xG (St.mk' n l loc obj))) obj fun r' σ'=>r'=r/\σ'=σ0)/\K (St.mk' n ((d,.d r)::pQ (args.toList.filterMap cR) l) loc σ0)):=by
 have e:(args.toList.map cR).filterMap id=args.toList.filterMap cR:=by rw [Gp];rfl
 simp only [At,Jg,Ix,Jj,aB0,rR,e];rfl
theorem aUv {f:Fl} :At P c d op (.op f) st K=(mG op=false/\pV c d st op=f/\jL P c d op st K):=rfl
theorem aKp :At P c d (.call ⟨.value (.func f),args,ts⟩) .pure st K=
  (nG args.toList st/\∃r,(∀σ,Ct P f (iM args.toList st) σ fun r' σ'=>r'=r/\σ'=σ)/\K (st.put d (.d r))):=rfl
def aW3(P:Program)(dst:Option Tmp)(d:D)(args:List Operand)(st:St)(K:St->Prop):Prop:=match d with
 | .clo (.func fid) first caps=>(∀d∈first++caps,d.plain=true)/\nG args st/\∃r,(∀σ,Ct P fid (first.map D.strip++iM args st++caps.map D.strip) σ fun r' σ'=>r'=r/\σ'=σ)/\K (st.put dst (.d r))
 | _=>False
theorem aD3 {f:Operand} :At P c d (.call ⟨.value f,args,ts⟩) .pureC st K=aW3 P d (st.rd f) args.toList st K:=rfl
theorem aRj {fid:FuncId} {first caps:List D} {args:List Operand} :aW3 P dst (.clo (.func fid) first caps) args st K=((∀d∈first++caps,d.plain=true)/\nG args st/\∃r,(∀σ,Ct P fid (first.map D.strip++iM args st++caps.map D.strip) σ fun r' σ'=>r'=r/\σ'=σ)/\K (st.put dst (.d r))):=rfl
theorem aJv :At P c d (.call ⟨.value (.func f),args,ts⟩) .read st K=
  (nG args.toList st/\∃r,(Ct P f (iM args.toList st) st.obj fun r' σ'=>r'=r/\σ'=st.obj)/\K (st.put d (.d r))):=rfl
theorem aUd :At P c d (.call ⟨.value (.func f),args,ts⟩) .nd st K=
  ∃Q,(nG args.toList st/\Ct P f (iM args.toList st) st.obj Q/\∃r σ0,Q r σ0)/\∀r σ0,Q r σ0->K (({ st with obj:=σ0 } :St).put d (.d r)):=rfl
theorem aEr :At P c d (.call ⟨.value (.func f),args,ts⟩) .readT st K=
  (nG args.toList st/\∃r,(∀J,Ct P f (iM args.toList st) (st.obj++J) fun r' σ'=>r'=r/\σ'=st.obj++J)/\K (st.put d (.d r))):=rfl
theorem aN7 :At P c d (.call ⟨.value (.func f),args,ts⟩) .detA st K=
  (nG args.toList st/\∃r J,(Ct P f (iM args.toList st) st.obj fun r' σ'=>r'=r/\σ'=st.obj++J)/\K (({ st with obj:=st.obj++J } :St).put d (.d r))):=rfl
theorem aO5 :At P c d (.call ⟨.value (.func f),args,ts⟩) .det st K=
  (nG args.toList st/\∃r σ0,(Ct P f (iM args.toList st) st.obj fun r' σ'=>r'=r/\σ'=σ0)/\K (({ st with obj:=σ0 } :St).put d (.d r))):=rfl
theorem aDk {a b:Code} {s:Slot} (hs:eB l t=s)
  (h:Br s.toD (eK rr dfr P a Q (St.mk' n ((t,.d (.bool true))::l) loc obj)) (eK rr dfr P b Q (St.mk' n ((t,.d (.bool false))::l) loc obj))):eK rr dfr P (.cond (.tmp t) a b) Q (St.mk' n l loc obj):=by
 unfold Br at h;split at h
 .rename_i v hv;have hs':eB l t= .d (.v (.bool v)):=by
   rw [hs];cases s with
   | d d=>simp only [Slot.toD] at hv;rw [hv]
   | lref n o=>simp [Slot.toD] at hv
  rw [Kh hs'];cases v with
  | true=>exact bS (t:=true) (by simp [St.rd,St.rdS,sU,St.mk']) (fun _=>h.1 rfl) (fun h=>by cases h)
  | false=>exact bS (t:=false) (by simp [St.rd,St.rdS,sU,St.mk']) (fun h=>by cases h) (fun _=>h.2 rfl)
 exact h.elim
def rQ (o : Oper) : Oper := ⟨o.dst, o.op, 0, "", #[], o.guard⟩
theorem nE:List.map rQ []= []:=rfl
theorem lJ (d : Option Tmp) (op : Op) (ty : TypeId) (pos : String) (after : Array Edge) (g : Option (Nat × Bool)) (r : List Oper) : List.map rQ (⟨d, op, ty, pos, after, g⟩ :: r) = ⟨d, op, 0, "", #[], g⟩ :: List.map rQ r := rfl
theorem Ni :∀(r:List Oper) (st:St),qI P c all (r.map rQ) st K=qI P c all r st K
 | [],_=>rfl
 | o :: r, st => by
  have ih:(fun st'=>qI P c all (r.map rQ) st' K)=fun st'=>qI P c all r st' K:=funext fun st'=>Ni r st';show qI P c all (rQ o::r.map rQ) st K=_
  unfold qI;simp only [rQ,ih];split
  .rfl
  split
  .split
   .rw [Ni r];rfl
   rfl
  rfl
theorem zZ :∀(r:List Oper) (ks:List DK) (st:St),jS P c all (r.map rQ) ks st K=jS P c all r ks st K
 | [],_,_=>rfl
 | _::_, [],_=>rfl
 | o :: r, k :: ks, st => by
  have ih:(fun st'=>jS P c all (r.map rQ) ks st' K)=fun st'=>jS P c all r ks st' K:=funext fun st'=>zZ r ks st';show jS P c all (rQ o::r.map rQ) (k::ks) st K=_
  unfold jS;simp only [rQ,ih];congr 1;split
  .rfl
  split
  .split
   .rw [zZ r]
   rfl
  rfl
theorem tW {id:Nat} (he:ops.map rQ=ops')(h:∀all:List Oper,(∀j,aT all j=aT ops j)->∀K:St->Prop,(∀s,Q .normal s->K s)->qI P c all ops' st K):eK rr dfr P (.region id ops.toArray false) Q st:=
 aAw fun K hK=>by
  have:=h ops (fun _=>rfl) K hK
  rwa [<- he,Ni] at this
theorem Qw {id:Nat} (ks:List DK) (hm:P.follows .mixedOrders=true)(hok:La c ops ks=true)(he:ops.map rQ=ops')
  (h:∀all:List Oper,(∀j,aT all j=aT ops j)->∀K:St->Prop,(∀s,Q .normal s->K s)->jS P c all ops' ks st K):eK rr dfr P (.region id ops.toArray true) Q st:=
 aLn ks hm hok fun K hK=>by
  have:=h ops (fun _=>rfl) K hK
  rwa [<- he,zZ] at this
def aBk:D->Prop
 | .v (.slice none 0 0)=>True
 | _=>False
def Cb(x y:D):Prop:=y=x\/(x.plain=true/\y=x.strip)\/(aBk x/\(y= .sl false []\/y= .sl true []))
theorem aA7:aBk (.v (.slice none 0 0))=True:=rfl
def mV:List D->List D->Prop
 | [], []=>True
 | a::r,b::q=>Cb a b/\mV r q
 | _,_=>False
theorem fS {b:List D} (h:a=b):mV a b:=by
 subst h;induction a with
 | nil=>trivial
 | cons x r ih=>exact⟨.inl rfl,ih⟩
theorem Nm:∀ {a b:List D},mV a b->a.length=b.length
 | [], [],_=>rfl
 | _::_,_::_,h=>by simp [Nm h.2]
 | [],_::_,h=>h.elim
 | _::_, [],h=>h.elim
theorem Kl:∀ {a b:List D},mV a b->∀(i:Nat) (y:D),b[i]?=some y->∃x,a[i]?=some x/\Cb x y
 | x::_,_::_,h,0,y,hy=>by simp at hy;subst hy;exact⟨x,rfl,h.1⟩
 | _::_,_::_,h,i+1,y,hy=>by simpa using Kl h.2 i y (by simpa using hy)
 | [], [],_,_,_,hy=>by simp at hy
 | [],_::_,h,_,_,_=>h.elim
 | _::_, [],h,_,_,_=>h.elim
theorem Ct.of_le {a':List D} {σ σ':List (List D)} {Q:D->List (List D)->Prop} (h:Ct P f a σ Q)(e:mV a' a)(e2:σ'=σ):Ct P f a' σ' Q:=by
 subst e2;refine⟨h.1,fun w g vs hs hb ho=>h.2 w g vs (by rw [hs,Nm e]) hb ⟨ho.mem,ho.xlt,fun t=>?_,ho.ll,ho.loc,ho.ol,ho.obj⟩⟩;have hsl:=ho.slot t;simp only [St.ofArgs] at hsl |-;unfold gX at hsl |-;cases hy:a[t]? with
 | none=>exact⟨.any _,.flat _ _ _ rfl⟩
 | some y =>
  obtain⟨x,hx,hle⟩:=Kl e t y hy;rw [hx] at hsl;rcases hle with rfl | ⟨hp,rfl⟩ | ⟨hn,hy⟩
  .exact hsl
  .exact rX hsl.1 hp t
  have hxn:x= .v (.slice none 0 0):=by
   unfold aBk at hn;split at hn
   .rfl
   exact hn.elim
  subst hxn;obtain⟨hr,_⟩:=hsl;have hv:=hr.vEq;rcases hy with rfl | rfl
  .exact⟨by rw [hv];exact .nil _,.flat _ _ _ rfl⟩
  exact⟨by rw [hv];exact .nil _,.sl _ _ _ (.inl ⟨_,_,hv⟩)⟩
theorem Dm:∀(sets:List (Nat×Slot)) (l:List (Nat×Slot)),gG sets (eB l)=eB (sets.reverseAux l)
 | [],l=>rfl
 | (a,s)::r,l=>by
  show gG r (fun u=>if u=a then s else eB l u)=_
  have:(fun u=>if u=a then s else eB l u)=eB ((a,s)::l):=by funext u;rw [sU]
  rw [this,Dm r];rfl
theorem aVh(n:Nat)(l:List (Nat×Slot))(loc obj:List (List D))(sets:List (Nat×Slot))(ob:Option (List (List D))):(St.mk' n l loc obj).upd ⟨sets,none,ob⟩=St.mk' n (sets.reverseAux l) loc (ob.getD obj):=by
 show({ n:=n,env:=gG sets (eB l),loc:=loc,obj:=ob.getD obj } :St)=_
 rw [Dm];rfl
theorem Ys(l:List (Nat×Slot)):List.reverseAux [] l=l:=rfl
theorem Ut(a:Nat×Slot)(r l:List (Nat×Slot)):List.reverseAux (a::r) l=List.reverseAux r (a::l):=rfl
def exS(R:qV)(K:List (Nat×Slot)->Option (List (List D))->Prop):Prop:=∃sets ob,R sets ob/\K sets ob
@[congr] theorem aYx {R':qV} {K:List (Nat×Slot)->Option (List (List D))->Prop} (h:R=R'):exS R K=exS R' K:=by rw [h]
theorem aT1 {alt:Bool} :vcY P alt dst op st K=exS (fun sets ob=>yR P alt dst op st.rdS (if(flY alt op).rO=true then st.obj else []) sets ob) (fun sets ob=>K (st.upd ⟨sets,none,ob⟩)):=rfl
theorem aUb {S:List (Nat×Slot)} {O:Option (List (List D))} {K:List (Nat×Slot)->Option (List (List D))->Prop} :exS (fun sets ob=>sets=S/\ob=O) K=K S O:=by
 apply propext;constructor
 .rintro⟨_,_,⟨rfl,rfl⟩,h⟩;exact h
 intro h;exact⟨_,_,⟨rfl,rfl⟩,h⟩
theorem aPx {C:Prop} {K:List (Nat×Slot)->Option (List (List D))->Prop} :exS (fun sets ob=>C/\R sets ob) K=(C/\exS (fun sets ob=>R sets ob) K):=by
 apply propext;constructor
 .rintro⟨_,_,⟨h1,h2⟩,h⟩;exact⟨h1,_,_,h2,h⟩
 rintro⟨h1,_,_,h2,h⟩;exact⟨_,_,⟨h1,h2⟩,h⟩
theorem aS8 {R:α->qV} {K:List (Nat×Slot)->Option (List (List D))->Prop} :exS (fun sets ob=>∃x,R x sets ob) K=∃x,exS (fun sets ob=>R x sets ob) K:=by
 apply propext;constructor
 .rintro⟨_,_,⟨x,h2⟩,h⟩;exact⟨x,_,_,h2,h⟩
 rintro⟨x,_,_,h2,h⟩;exact⟨_,_,⟨x,h2⟩,h⟩
theorem aS6 {S:qV} {K:List (Nat×Slot)->Option (List (List D))->Prop} :exS (fun sets ob=>R sets ob\/S sets ob) K=(exS (fun sets ob=>R sets ob) K\/exS (fun sets ob=>S sets ob) K):=by
 apply propext;constructor
 .rintro⟨_,_,h1 | h1,h⟩
  .exact .inl ⟨_,_,h1,h⟩
  exact .inr ⟨_,_,h1,h⟩
 rintro(⟨_,_,h1,h⟩ | ⟨_,_,h1,h⟩)
 .exact⟨_,_,.inl h1,h⟩
 exact⟨_,_,.inr h1,h⟩
theorem aXt {K:List (Nat×Slot)->Option (List (List D))->Prop} :exS (fun _ _=>False) K=False:=by
 apply propext;exact⟨fun⟨_,_,h,_⟩=>h,False.elim⟩
attribute [simp] aT1 aUb aPx aS8 aS6 aXt
attribute [simp] aVh Ys Ut isY Hb To yR yA1 yA2 Eo Rg aGp aFa Aj Pv aG5 flY Vg Di aOd aA7 wF wU zJ Kb sX Qf Bool.true_or Bool.false_or
theorem aGt(cs:List D):D.strip (.tup cs)= .tup (cs.map D.s2):=rfl
attribute [simp] aGt D.plain
theorem aU2(n:Nat)(cs:List D):An true n cs=if n<=cs.length then some (.agg (cs.take n))else none:=rfl
theorem aTb(n:Nat)(cs:List D):An false n cs=cs.head?:=rfl
theorem bH(cs:List D)(off:Nat)(ds:List D):eV cs off ds=cs.take off++ds++cs.drop (off+ds.length):=rfl
attribute [simp low] aU2 aTb bH
attribute [simp] Sn Wz aUv aKp aD3 aRj aJv aO5 aEr aN7 aUd
attribute [simp] aG6 aN1 aM8 aTo aXm aXc aU4 aVm aWu aXq aVc aFk aMy aNk aD0 aI0 aLo Ym aHe aHb aHt aL1 aMh aV2 aUm aRv aTw aPr aId aEc pH rK oS Zp Xj Ro aJe Vq aGq aDu Vw Yv
attribute [simp] aPd List.getElem?_cons_zero Option.bind_some aB0 Jg Ix Jj Fq Er aQl aIj aKy aIa aLc aDj aF4 aJl aVr aNh wE aWp aMt
 aOw aJx aAj aPe aP1 aQz aIq aD9 aGc aHw aG3 aGm aYf aXa aUi aUc aTe aU6 aYa aV8 aVl aVk aUq
 aPp aKe aGo aEp aHv aFs aDw aRq aLf aEx aFc aEh aFh aLd aGa Yn aAu aQf aJn aHs aEj
 eE aQ3 aL4 aJy aF7 aVd aR5 aOa aNd aPu aM5 aJj aVi aUg aT4 aU1 aEk aVu aVn aRg aMm aK4 tM jL Ta aQo eL vcX Ga mE sZ uN qM jK flX zW Ml Xn lA xD Ih aP9 Ho Is lY kE nS nK wR wV iF qR Ti vY qN
 uB Hu yY vZ mD qG sM Nq tC xQ mA nG iM xG Az Qk St.cellsAt St.park Slot.plus Slot.isAddr aDb D.ofList
 aFn Yy aQ0 aXf aQa aOf dG aH9 Og aQ1 aTm aLu mG pV kI Jv Kd Ev aNv aGd aFv aE0
end Go.Vm
