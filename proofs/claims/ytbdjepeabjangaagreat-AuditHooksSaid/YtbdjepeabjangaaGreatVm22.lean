import Derived.Test.YtbdjepeabjangaaGreatVm21
set_option linter.all false
namespace Go.Vm
open Go
variable {A B:Prop}{K:St->Prop}{P:Program}{Q:Exit->St->Prop}{R:lL}{a:List D}{after:Array Edge}{all ops ops' r:List Oper}{args:Array Operand}{b want:Bool}{body:Code}{c:Cfg}{d dst:Option Tmp}{f:FuncId}{i j n t:Nat}{k:DK}{ks:List DK}{l l2:List (Nat×Slot)}{loc obj:List (List D)}{op:Op}{pos:String}{s st:St}{ts:Array TypeId}{ty:TypeId}{α:Type}
variable {rr:Option Nat} {dfr:List Deferred}
section
theorem kI {y:Code} (h:dL rr dfr P y Q s):pY rr dfr P y Q .normal s:=h
theorem Bb {y:Code} (h:Q (.exit i) s):pY rr dfr P y Q (.exit i) s:=h
theorem iP (h:Q .normal s):oJ i Q .normal s:=h
theorem yT (h:Q .normal s):oJ i Q (.exit i) s:=by simpa [oJ] using h
theorem Ch {S:α->St} {p:α->Prop} {m:α->Nat} {x:α} (h:Q (.exit i) s):wQ S p m x Q (.exit i) s:=h
def uP(d:D)(A B:Prop):Prop:=match d with
 | .v (.bool t)=>(t=true->A)/\(t=false->B)
 | _=>False
theorem aD (h:∀K':St->Prop,(∀s,lT P c all r s K->K' s)->Le d st/\gK P c d op st K'):lT P c all (⟨d,op,ty,pos,after,none⟩::r) st K:=
 h _ fun _ h=>h
theorem Sk (n:Nat) (h:∀K':St->Prop,(∀s,lT P c all (r.drop n) s K->K' s)->lT P c all (r.take n) st K'):lT P c all r st K:=by
 have go:∀(n:Nat) (r:List Oper) (st:St),lT P c all (r.take n) st (fun s=>lT P c all (r.drop n) s K)->lT P c all r st K:=by
  intro n;induction n with
  | zero=>intro r st h;exact h
  | succ n ih =>
   intro r st h;cases r with
   | nil=>exact h
   | cons o r =>
    simp only [tD,xH] at h;unfold lT at h |-;split at h
    .rename_i hg;have hd:=h.1;refine⟨hd,?_⟩;exact vF (fun s hs=>ih r s hs) h.2
    rename_i j want hg;split at h
    .split at h
     .exact⟨fun hb=>⟨(h.1 hb).1,vF (fun s hs=>ih r s hs) (h.1 hb).2⟩,fun hb=>⟨(h.2 hb).1,ih r _ (h.2 hb).2⟩⟩
     exact h.elim
    exact h.elim
 exact go n r st (h _ fun _ h=>h)
theorem aMn (hg:aY all j=some t)(hs:st.env t= .d (.v (.bool b)))
  (h1:b=want->∀K':St->Prop,(∀s,lT P c all r s K->K' s)->Le d st/\gK P c d op st K') (h2:b= !want->Le d st/\lT P c all r (st.put d .und) K):lT P c all (⟨d,op,ty,pos,after,some (j,want)⟩::r) st K:=by
 rw [Dv];simp only [hg,hs];exact⟨fun hb=>h1 hb _ fun _ h=>h,h2⟩
theorem aH7 (hg:aY all j=some t)(hs:st.env t= .d (.v (.bool b)))(hb:b=want)
  (h1:∀K':St->Prop,(∀s,lT P c all r s K->K' s)->Le d st/\gK P c d op st K'):lT P c all (⟨d,op,ty,pos,after,some (j,want)⟩::r) st K:=
 aMn hg hs (fun _=>h1) fun h=>(by rw [hb] at h;cases want <;> cases h)
theorem Cs (hs:dM l t= .d (.v (.bool b))):St.mk' n l loc obj=St.mk' n ((t,.d (.bool b))::l) loc obj:=by
 unfold St.mk';congr 1;funext u;simp only [dM];split
 .rename_i e;rw [e,hs]
 rfl
theorem aB3 (t:Nat) {s:Slot} (hs:dM l t=s)
  (h:uP s.toD (lT P c all r (St.mk' n ((t,.d (.bool true))::l) loc obj) K) (lT P c all r (St.mk' n ((t,.d (.bool false))::l) loc obj) K)):lT P c all r (St.mk' n l loc obj) K:=by
 unfold uP at h;split at h
 .rename_i b hb;have hs':dM l t= .d (.v (.bool b)):=by
   rw [hs];cases s with
   | d d=>simp only [Slot.toD] at hb;rw [hb]
   | lref n o=>simp [Slot.toD] at hb
  rw [Cs hs'];cases b
  .exact h.2 rfl
  exact h.1 rfl
 exact h.elim
def aIc(P:Program)(c:Cfg)(all r:List Oper)(K:St->Prop):St->Prop:=fun st=>lT P c all r st K
theorem aAq :aIc P c all r K st=lT P c all r st K:=rfl
theorem aF7 :lT P c all (⟨d,op,ty,pos,after,none⟩::r) st K=(Le d st/\gK P c d op st (aIc P c all r K)):=rfl
def Yh(P:Program)(c:Cfg)(all r:List Oper)(ks:List DK)(K:St->Prop):St->Prop:=fun st=>gY P c all r ks st K
theorem Wb :Yh P c all r ks K st=gY P c all r ks st K:=rfl
theorem aAr :gY P c all (⟨d,op,ty,pos,after,none⟩::r) (k::ks) st K=(Le d st/\uD P c d op k st (Yh P c all r ks K)):=rfl
@[congr] theorem aL7 {op:BinOp} {t:TypeId} {x y x' y':Slot} {K:D->Prop} (hx:x=x')(hy:y=y'):rD P op t x y K=rD P op t x' y' K:=by rw [hx,hy]
@[congr] theorem aMp {op:BinOp} {k:IntKind} {a b a' b':Int} {K:D->Prop} (hx:a=a')(hy:b=b'):zS op k a b K=zS op k a' b' K:=by rw [hx,hy]
@[congr] theorem aMi {op:BinOp} {a b a' b':ByteArray} {K:D->Prop} (hx:a=a')(hy:b=b'):zG op a b K=zG op a' b' K:=by rw [hx,hy]
@[congr] theorem aLs {t:TypeId} {b a' b':List D} {K:Bool->Prop} (hx:a=a')(hy:b=b'):rE P t a b K=rE P t a' b' K:=by rw [hx,hy]
@[congr] theorem aM2 {op:UnOp} {x x':D} {K:D->Prop} (hx:x=x'):Ai op x K=Ai op x' K:=by rw [hx]
def sel(b:Bool)(s r:Slot):Slot:=if b=true then s else r
@[congr] theorem aNm {b':Bool} {s r:Slot} (h:b=b'):sel b s r=sel b' s r:=by rw [h]
theorem aHi {s r:Slot} :sel true s r=s:=rfl
theorem aHs {s r:Slot} :sel false s r=r:=rfl
theorem Gd(a:Nat)(s:Slot)(r:List (Nat×Slot))(t:Nat):dM ((a,s)::r) t=sel (t==a) s (dM r t):=by
 simp only [dM,sel,sN]
def gv3(s:Slot)(want:Bool):Option Bool:=zO s want
def gv2(o:Option Tmp)(st:St)(want:Bool):Option Bool:=match o with
 | some t=>gv3 (st.env t) want
 | none=>none
@[congr] theorem aNx {o o':Option Tmp} (h:o=o'):gv2 o st want=gv2 o' st want:=by rw [h]
theorem aAm(t:Tmp)(st:St)(want:Bool):gv2 (some t) st want=gv3 (st.env t) want:=rfl
theorem Yk(b want:Bool):gv3 (.d (.v (.bool b))) want=some b:=rfl
theorem aG1(want:Bool):gv3 (.d (.tup [])) want=some (!want):=rfl
def aDe(all:List Oper)(j:Nat)(st:St)(want:Bool):Option Bool:=match aY all j with
 | some t=>zO (st.env t) want
 | none=>none
theorem aGv(all:List Oper)(j:Nat)(st:St)(want:Bool):aDe all j st want=gv2 (aY all j) st want:=rfl
def Ql(g:Option Bool)(want:Bool)(A B:Prop):Prop:=match g with
 | some b=>(b=want->A)/\(b= !want->B)
 | none=>False
@[congr] theorem aKu {g g':Option Bool} (h:g=g'):Ql g want A B=Ql g' want A B:=by rw [h]
theorem aIb :Ql (some true) true A B=A:=by simp [Ql]
theorem aKo :Ql (some true) false A B=B:=by simp [Ql]
theorem aJn :Ql (some false) true A B=B:=by simp [Ql]
theorem aKi :Ql (some false) false A B=A:=by simp [Ql]
theorem aIp :lT P c all (⟨d,op,ty,pos,after,some (j,want)⟩::r) st K=
  Ql (aDe all j st want) want (Le d st/\gK P c d op st (aIc P c all r K)) (Le d st/\lT P c all r (st.put d .und) K):=by
 rw [Dv];unfold aDe Ql;split
 .rename_i t ht;simp only [ht];split
  .rename_i h;simp [h];exact fun _=>Iff.rfl
  rename_i h;simp [h]
 rename_i h;simp [h]
def Mu(d:D)(A B:Prop):Prop:=match d with
 | .v (.bool t)=>(t=true->A)/\(t=false->B)
 | _=>False
@[congr] theorem aJq {d d':D} (h:d=d'):Mu d A B=Mu d' A B:=by rw [h]
theorem aIr :Mu (.v (.bool true)) A B=A:=by simp [Mu]
theorem aJb :Mu (.v (.bool false)) A B=B:=by simp [Mu]
theorem Sw {c a b:Operand} :uU dst c a b st K=Mu (st.rd c) ((st.rd a).plain=true/\K (st.put dst (.d (st.rd a).strip))) ((st.rd b).plain=true/\K (st.put dst (.d (st.rd b).strip))):=rfl
theorem Jv {K':St->Prop} (hk:∀s,K s->K' s)(h:uD P c dst op k st K):uD P c dst op k st K':=by
 unfold uD at *;cases k with
 | op f=>exact⟨h.1,h.2.1,vF hk h.2.2⟩
 | pure=>
  simp only at *;split at h
  .obtain⟨h1,r,h2,h3⟩:=h;exact⟨h1,r,h2,hk _ h3⟩
  exact h
 | pureC =>
  simp only at *;split at h
  .split at h
   .rename_i hf;obtain⟨h0,h1,r,h2,h3⟩:=h;exact⟨h0,h1,r,h2,hk _ h3⟩
   exact h.elim
  exact h
 | read=>
  simp only at *;split at h
  .obtain⟨h1,r,h2,h3⟩:=h;exact⟨h1,r,h2,hk _ h3⟩
  exact h
 | det=>
  simp only at *;split at h
  .obtain⟨h1,r,σ0,h2,h3⟩:=h;exact⟨h1,r,σ0,h2,hk _ h3⟩
  exact h
 | readT=>
  simp only at *;split at h
  .obtain⟨h1,r,h2,h3⟩:=h;exact⟨h1,r,h2,hk _ h3⟩
  exact h
 | nd=>
  obtain⟨Q,h1,h2⟩:=h;exact⟨Q,h1,fun r σ0 hq=>hk _ (h2 r σ0 hq)⟩
 | detA=>
  simp only at *;split at h
  .obtain⟨h1,r,J,h2,h3⟩:=h;exact⟨h1,r,J,h2,hk _ h3⟩
  exact h
 | pureT=>
  simp only at *;split at h
  .obtain⟨h0,h1,r,h2,h3⟩:=h;exact⟨h0,h1,r,h2,hk _ h3⟩
  exact h
 | detT=>
  simp only at *;split at h
  .obtain⟨h0,h1,r,σ0,h2,h3⟩:=h;exact⟨h0,h1,r,σ0,h2,hk _ h3⟩
  exact h
theorem Cb :gY P c all [] ks st K=K st:=by unfold gY;rfl
theorem aFp :gY P c all (⟨d,op,ty,pos,after,some (j,want)⟩::r) (k::ks) st K=
  (Le d st/\Ql (aDe all j st want) want (uD P c d op k st (Yh P c all r ks K)) (gY P c all r ks (st.put d .und) K)):=by
 conv=>lhs;unfold gY
 show(_/\_)=_
 congr 1;simp only;unfold aDe Ql;split
 .rename_i t ht;simp only [ht];split
  .rename_i h;simp [h];exact fun _=>Iff.rfl
  rename_i h;simp [h]
 rename_i h;simp [h]
theorem bJ (h:∀K':St->Prop,(∀s,gY P c all r ks s K->K' s)->Le d st/\uD P c d op k st K'):gY P c all (⟨d,op,ty,pos,after,none⟩::r) (k::ks) st K:=
 h _ fun _ h=>h
theorem Oq (n:Nat) (hks:n<=ks.length)(h:∀K':St->Prop,(∀s,gY P c all (r.drop n) (ks.drop n) s K->K' s)->gY P c all (r.take n) (ks.take n) st K'):gY P c all r ks st K:=by
 have go : ∀ (n : Nat) (r : List Oper) (ks : List DK) (st : St), n <= ks.length -> gY P c all (r.take n) (ks.take n) st (fun s => gY P c all (r.drop n) (ks.drop n) s K) -> gY P c all r ks st K := by
  intro n;induction n with
  | zero=>intro r ks st _ h;simp only [List.take_zero,pW,Cb] at h;exact h
  | succ n ih =>
   intro r ks st hks h;cases ks with
   | nil=>simp at hks
   | cons k ks =>
    cases r with
    | nil=>simp only [List.take_nil,List.drop_nil,Cb] at h |-;exact h
    | cons o r =>
     simp only [tD,xH] at h;simp only [bU] at hks;unfold gY at h |-;refine⟨h.1,?_⟩;have h2:=h.2;split at h2
     .exact Jv (fun s hs=>ih r ks s (by omega) hs) h2
     split at h2
     .split at h2
      .exact⟨fun hb=>Jv (fun s hs=>ih r ks s (by omega) hs) (h2.1 hb),fun hb=>ih r ks _ (by omega) (h2.2 hb)⟩
      exact h2.elim
     exact h2.elim
 exact go n r ks st hks (h _ fun _ h=>h)
theorem aEm (hg:aY all j=some t)(hs:st.env t= .d (.v (.bool b)))(hb:b=want)
  (h1:∀K':St->Prop,(∀s,gY P c all r ks s K->K' s)->Le d st/\uD P c d op k st K'):gY P c all (⟨d,op,ty,pos,after,some (j,want)⟩::r) (k::ks) st K:=by
 unfold gY;refine⟨(h1 _ fun _ h=>h).1,?_⟩;simp only [hg,hs];exact⟨fun _=>(h1 _ fun _ h=>h).2,fun h=>(by rw [hb] at h;cases want <;> cases h)⟩
theorem Tv (t:Nat) {s:Slot} (hs:dM l t=s)
  (h:uP s.toD (gY P c all r ks (St.mk' n ((t,.d (.bool true))::l) loc obj) K) (gY P c all r ks (St.mk' n ((t,.d (.bool false))::l) loc obj) K)):gY P c all r ks (St.mk' n l loc obj) K:=by
 unfold uP at h;split at h
 .rename_i b hb;have hs':dM l t= .d (.v (.bool b)):=by
   rw [hs];cases s with
   | d d=>simp only [Slot.toD] at hb;rw [hb]
   | lref n o=>simp [Slot.toD] at hb
  rw [Cs hs'];cases b
  .exact h.2 rfl
  exact h.1 rfl
 exact h.elim
def Og:List Nat->List (Nat×Slot)->List (Nat×Slot)
 | _, []=> []
 | W,(t,s)::r=>if W.contains t then Og W r else(t,s)::Og (t::W) r
theorem aFw(n:Nat)(s:Slot):uL n s (.d .any)=True:=by
 unfold uL;split <;> simp_all
theorem aK6(n:Nat)(x:D):uL n (.d x) (.d x)=True:=by
 cases x with
 | sl o es=>cases o <;> simp [uL]
 | _=>simp [uL]
theorem aFm(n:Nat)(es:List D):uL n (.d (.sl true es)) (.d (.sl false es))=True:=by
 unfold uL;simp
theorem aCl(n m o:Nat):uL n (.lref m o) (.lref m o)=(m<n):=by
 unfold uL;simp
def uH(n:Nat)(env:Nat->Slot):List (Nat×Slot)->Prop
 | []=>True
 | (a,s)::r=>uL n (env a) s/\uH n env r
theorem Vo(n:Nat)(env:Nat->Slot):uH n env []=True:=rfl
theorem On(n:Nat)(env:Nat->Slot)(a:Nat)(s:Slot)(r:List (Nat×Slot)):uH n env ((a,s)::r)=(uL n (env a) s/\uH n env r):=rfl
theorem qX {env:Nat->Slot} :∀ {l:List (Nat×Slot)},uH n env l->∀p∈l,uL n (env p.1) p.2
 | [],_,p,hp=>by simp at hp
 | (a,s)::r,h,p,hp=>by
  rcases fQ.1 hp with rfl | hp
  .exact h.1
  exact qX h.2 p hp
theorem bT (hn:st.n=n)(hl:uH loc.length st.env l)(hloc:loc<+:st.loc)(hobj:st.obj=obj):Weak st (St.mk' n l loc obj):=
 Hd hn (qX hl) hloc hobj
theorem bK (F:α->List (Nat×Slot))(W:List Nat)(p:α->Prop)(m:α->Nat)(x0:α) 
  (hl:Og W l=l2) (hF:uH loc.length (dM l) (F x0++l2)) (hp:p x0)
  (h:∀x,p x->dL rr dfr P body (wQ (fun x=>St.mk' n (F x++l2) loc obj) p m x Q) (St.mk' n (F x++l2) loc obj)):dL rr dfr P (.loop body) Q (St.mk' n l loc obj):=
 Jh (fun x=>St.mk' n (F x++l2) loc obj) p m x0 (Hd rfl (qX hF) (List.prefix_refl _) rfl) hp h
theorem qD (F:α->List (Nat×Slot))(G H:α->List (List D))(W:List Nat)(p:α->Prop)(m:α->Nat)(x0:α) 
  (hl:Og W l=l2) (hF:uH (G x0).length (dM l) (F x0++l2)) (hG:G x0=loc) (hH:H x0=obj) (hp:p x0)
  (h:∀x,p x->dL rr dfr P body (wQ (fun x=>St.mk' n (F x++l2) (G x) (H x)) p m x Q) (St.mk' n (F x++l2) (G x) (H x))):dL rr dfr P (.loop body) Q (St.mk' n l loc obj):=
 Jh (fun x=>St.mk' n (F x++l2) (G x) (H x)) p m x0 (Hd rfl (qX hF) (by rw [hG];exact List.prefix_refl _) hH.symm) hp h
theorem eL {S:α->St} {p:α->Prop} {m:α->Nat} {x:α} (y:α)(hp:p y)(hm:m y<m x)(hw:Weak s (S y)):wQ S p m x Q .normal s:=⟨y,hp,hm,hw⟩
def aB2 {α:Type} (S:α->St)(p:α->Prop)(Q:Exit->St->Prop):Exit->St->Prop
 | .normal,s=>∃y,p y/\Weak s (S y)
 | e,s=>Q e s
theorem kO {S:α->St} {p:α->Prop} (y:α)(hp:p y)(hw:Weak s (S y)):aB2 S p Q .normal s:=⟨y,hp,hw⟩
theorem Po(n:Nat):D.strip (.mref n)= .mref n:=rfl
theorem aHd(n:Nat):D.s1 (.mref n)= .mref n:=rfl
theorem aF4(n:Nat):D.s2 (.mref n)= .mref n:=rfl
theorem Px(n:Nat):D.plain (.mref n)=true:=rfl
theorem Nq(n:Nat):D.solid (.mref n)=true:=rfl
theorem Ly(n:Nat):D.ncells (.mref n)=1:=rfl
theorem Pg(n:Nat):D.cells (.mref n)= [.mref n]:=rfl
theorem aCs(kd:TypeDesc)(c:Nat)(kvs:List (Value×Nat×D)):D.strip (.mo kd c kvs)= .mz:=rfl
theorem aMr(kd:TypeDesc)(c:Nat)(kvs:List (Value×Nat×D)):D.s1 (.mo kd c kvs)= .mz:=rfl
theorem aMj(kd:TypeDesc)(c:Nat)(kvs:List (Value×Nat×D)):D.s2 (.mo kd c kvs)= .mz:=rfl
theorem aDk(kd:TypeDesc)(c:Nat)(kvs:List (Value×Nat×D)):D.plain (.mo kd c kvs)=true:=rfl
theorem aDx(kd:TypeDesc)(c:Nat)(kvs:List (Value×Nat×D)):D.solid (.mo kd c kvs)=true:=rfl
theorem Sp(kd:TypeDesc)(c:Nat)(kvs:List (Value×Nat×D)):D.ncells (.mo kd c kvs)=1:=rfl
theorem aCd(kd:TypeDesc)(c:Nat)(kvs:List (Value×Nat×D)):D.cells (.mo kd c kvs)= [.mo kd c kvs]:=rfl
theorem Vi(n a b:Nat)(l:List Nat):D.strip (.mit n a l b)= .any:=rfl
theorem aI3(n a b:Nat)(l:List Nat):D.s1 (.mit n a l b)= .any:=rfl
theorem aKb(n a b:Nat)(l:List Nat):D.s2 (.mit n a l b)= .any:=rfl
theorem Uv(n a b:Nat)(l:List Nat):D.plain (.mit n a l b)=true:=rfl
theorem Uk(n a b:Nat)(l:List Nat):D.solid (.mit n a l b)=false:=rfl
theorem Yn(n c:Nat)(kd:TypeDesc)(kvs:List (Value×Nat×D)):D.strip (.mp n kd c kvs)= .mref n:=rfl
theorem aMk(n c:Nat)(kd:TypeDesc)(kvs:List (Value×Nat×D)):D.s1 (.mp n kd c kvs)= .mref n:=rfl
theorem aMc(n c:Nat)(kd:TypeDesc)(kvs:List (Value×Nat×D)):D.s2 (.mp n kd c kvs)= .mref n:=rfl
theorem Zs(n c:Nat)(kd:TypeDesc)(kvs:List (Value×Nat×D)):D.plain (.mp n kd c kvs)=true:=rfl
theorem Xv(n c:Nat)(kd:TypeDesc)(kvs:List (Value×Nat×D)):D.solid (.mp n kd c kvs)=true:=rfl
theorem Tp(n c:Nat)(kd:TypeDesc)(kvs:List (Value×Nat×D)):D.ncells (.mp n kd c kvs)=1:=rfl
theorem Yq(n c:Nat)(kd:TypeDesc)(kvs:List (Value×Nat×D)):D.cells (.mp n kd c kvs)= [.mp n kd c kvs]:=rfl
theorem Sv(t:TypeId)(d:D):D.strip (.ifc t d)= .ifc t d:=rfl
theorem aJi(t:TypeId)(d:D):D.s1 (.ifc t d)= .ifc t d:=rfl
theorem aIm(t:TypeId)(d:D):D.s2 (.ifc t d)= .ifc t d:=rfl
theorem Tz(t:TypeId)(d:D):D.plain (.ifc t d)=true:=rfl
theorem Wt(t:TypeId)(d:D):D.solid (.ifc t d)=true:=rfl
theorem Ol(t:TypeId)(d:D):D.ncells (.ifc t d)=1:=rfl
theorem Wz(t:TypeId)(d:D):D.cells (.ifc t d)= [.ifc t d]:=rfl
theorem aAa(n:Nat):D.arr (.mref n)=true:=rfl
attribute [simp] aCs aMr aMj aDk aDx Sp aCd Vi aI3 aKb Uv Uk qO vH qW aHl Po aHd aF4 Px Nq Ly Pg Yn aMk aMc Zs Xv Tp Yq Sv aJi aIm Tz Wt Ol Wz aAa
theorem Vt(n a b c:Nat):D.strip (.slo n a b c)= .slo n a b c:=rfl
theorem Xr(n:Nat):D.strip (.xl n)= .xl n:=rfl
theorem aCm(k:Nat)(es:List D):D.strip (.xs k es)= .xl es.length:=rfl
theorem aIq(n a b c:Nat):D.s2 (.slo n a b c)= .slo n a b c:=rfl
theorem aL9(n:Nat):D.s2 (.xl n)= .xl n:=rfl
theorem aMv(k:Nat)(es:List D):D.s2 (.xs k es)= .xl es.length:=rfl
theorem aJx(f:Go.Fn)(a b:List D):D.s2 (.clo f a b)= .clo f a b:=rfl
theorem aKf(n a b c:Nat):D.s1 (.slo n a b c)= .slo n a b c:=rfl
theorem aMe(n:Nat):D.s1 (.xl n)= .xl n:=rfl
theorem aK8(k:Nat)(es:List D):D.s1 (.xs k es)= .xl es.length:=rfl
theorem aIg(f:Go.Fn)(a b:List D):D.s1 (.clo f a b)= .clo f a b:=rfl
theorem Wa(n a b c:Nat):D.plain (.slo n a b c)=true:=rfl
theorem aBw(n:Nat):D.plain (.xl n)=true:=rfl
theorem Yj(k:Nat)(es:List D):D.plain (.xs k es)=true:=rfl
theorem Tt(n a b c:Nat):D.solid (.slo n a b c)=true:=rfl
theorem Zt(n:Nat):D.solid (.xl n)=true:=rfl
theorem aAf(k:Nat)(es:List D):D.solid (.xs k es)=true:=rfl
theorem Ob(n a b c:Nat):D.ncells (.slo n a b c)=1:=rfl
theorem Uh(n:Nat):D.ncells (.xl n)=1:=rfl
theorem Sy(k:Nat)(es:List D):D.ncells (.xs k es)=1:=rfl
theorem Uw(n a b c:Nat):D.cells (.slo n a b c)= [.slo n a b c]:=rfl
theorem aDs(n:Nat):D.cells (.xl n)= [.xl n]:=rfl
theorem aBy(k:Nat)(es:List D):D.cells (.xs k es)= [.xs k es]:=rfl
theorem aLp(x:Value):D.arr (.v x)=true:=rfl
theorem aJd(es:List D):D.arr (.sl false es)=true:=rfl
theorem aF8(cs:List D):D.arr (.agg cs)=cs.all D.flat:=rfl
theorem aKm(x:Value):D.flat (.v x)=true:=rfl
theorem aHf(es:List D):D.flat (.sl false es)=true:=rfl
theorem aDd(n o:Nat):D.flat (.ref n o)=true:=rfl
def sG:List (Nat×List D)->List (List D)->List (List D)
 | [],l=>l
 | (n,c)::r,l=>(sG r l).set n c
theorem eM(l:List (List D)):sG [] l=l:=rfl
theorem dS(n:Nat)(c:List D)(r:List (Nat×List D))(l:List (List D)):sG ((n,c)::r) l=(sG r l).set n c:=rfl
theorem fP (F:α->List (Nat×Slot))(M N:α->List (Nat×List D))(W:List Nat)(p:α->Prop)(m:α->Nat)(x0:α) 
  (hl:Og W l=l2) (hF:uH (sG (M x0) loc).length (dM l) (F x0++l2)) (hG:sG (M x0) loc=loc) (hH:sG (N x0) obj=obj) (hp:p x0)
  (h:∀x,p x->dL rr dfr P body (wQ (fun x=>St.mk' n (F x++l2) (sG (M x) loc) (sG (N x) obj)) p m x Q) (St.mk' n (F x++l2) (sG (M x) loc) (sG (N x) obj))):dL rr dfr P (.loop body) Q (St.mk' n l loc obj):=
 qD F (fun x=>sG (M x) loc) (fun x=>sG (N x) obj) W p m x0 hl hF hG hH hp h
theorem Xb (l:List α)(a:α):(l++ [a])[l.length]?=some a:=by simp
theorem oI (l:List α)(a b:α):(l++ [a]).set l.length b=l++ [b]:=by simp
theorem nX (F:α->List (Nat×Slot))(M N:α->List (Nat×List D))(W:List Nat)(p:α->Prop) {a b:Code} 
  (hl:Og W l=l2) (h1:dL rr dfr P a (aB2 (fun x=>St.mk' n (F x++l2) (sG (M x) loc) (sG (N x) obj)) p Q) (St.mk' n l loc obj))
  (h2:∀x,p x->dL rr dfr P b Q (St.mk' n (F x++l2) (sG (M x) loc) (sG (N x) obj))):dL rr dfr P a (pY rr dfr P b Q) (St.mk' n l loc obj):=by
 subst hl;refine Zp h1 fun e s h=>?_;cases e with
 | normal=>obtain⟨y,hy,hw⟩:=h;exact aC5 hw (h2 y hy)
 | _=>exact h
def wU:List Nat->List (Nat×Slot)->List (Nat×Slot)
 | [],_=> []
 | t::r,l=>(t,dM l t)::wU r l
theorem Wv(l:List (Nat×Slot)):wU [] l= []:=rfl
theorem Bl(t:Nat)(r:List Nat)(l:List (Nat×Slot)):wU (t::r) l=(t,dM l t)::wU r l:=rfl
theorem Ez(l:List (Nat×Slot))(u:Nat):∀K:List Nat,dM (wU K l) u=dM l u\/dM (wU K l) u= .any
 | []=> .inr rfl
 | t::r=>by
  rw [Bl,oM];split
  .rename_i h;subst h;exact .inl rfl
  exact Ez l u r
theorem aAu (K:List Nat) {c:Code} (hl:wU K l=l2)(h:dL rr dfr P c Q (St.mk' n l2 loc obj)):dL rr dfr P c Q (St.mk' n l loc obj):=by
 subst hl;intro w0 g0 w g tmps hf hok hn;refine h w0 g0 w g tmps hf ⟨hok.mem,hok.xlt,fun t=>?_,hok.ll,hok.loc,hok.ol,hok.obj⟩ hn;have hs:=hok.slot t;show SlotOk w g t (dM (wU K l) t) _
 rcases Ez l t K with e | e
 .rw [e];exact hs
 rw [e];exact⟨.any _,.flat _ _ _ rfl⟩
theorem qI (ts k:Nat) {es:List D} {c:Code} (hs:dM l ts= .d (.xs k es))(hk0:0<k)
  (h:∀(cap:Nat) (rest:List D),es.length<=cap->cap<=maxLen->rest.length=(cap - es.length) * k->0<k->(∀d∈es,d.ncells=k/\d.arr=true)->dL rr dfr P c Q (St.mk' n ((ts,.d (.slo obj.length 0 es.length cap))::l) loc (obj++ [es.flatMap D.cells++rest]))):dL rr dfr P c Q (St.mk' n l loc obj):=by
 intro w0 g0 w g tmps hf hok hn;obtain⟨cap,rest,g',a1,a2,a3,a4,a5,_,hfr,hok'⟩:=hok.openX ts k es hs hk0;exact h cap rest a1 a2 a3 a4 a5 w0 g0 w g' tmps (hf.trans hfr) hok' hn
theorem kQ (ts k:Nat) {es:List D} {c:Code} (hs:dM l ts= .d (.xs k es))(hk0:0<k)
  (h:∀(cap:Nat) (rest:List D),es.length<=cap->cap<=maxLen->rest=List.replicate ((cap - es.length) * k) .any->0<k->(∀d∈es,d.ncells=k/\d.arr=true)->dL rr dfr P c Q (St.mk' n ((ts,.d (.slo obj.length 0 es.length cap))::l) loc (obj++ [es.flatMap D.cells++rest]))):dL rr dfr P c Q (St.mk' n l loc obj):=by
 intro w0 g0 w g tmps hf hok hn;obtain⟨cap,rest,g',a1,a2,a3,a4,a5,_,hfr,hok'⟩:=hok.openX2 ts k es hs hk0;exact h cap rest a1 a2 a3 a4 a5 w0 g0 w g' tmps (hf.trans hfr) hok' hn
theorem eQ (ts k m len cap:Nat)(es cs:List D) {c:Code} (hs:dM l ts= .d (.slo m 0 len cap))(hm:obj[m]?=some cs)(hk:0<k)(hcs:cs.length=cap * k)(hl:es.length=len)
  (hes:∀d∈es,d.ncells=k/\d.arr=true) (he:es.flatMap D.cells<+:cs) (h:dL rr dfr P c Q (St.mk' n ((ts,.d (.xs k es))::l) loc (obj.set m []))):dL rr dfr P c Q (St.mk' n l loc obj):=by
 intro w0 g0 w g tmps hf hok hn;obtain⟨g',_,hfr,hok'⟩:=hok.closeX ts k m len cap es cs hs hm hk hcs hl hes he;exact h w0 g0 w g' tmps (hf.trans hfr) hok' hn
theorem aC0 (f:α->D)(l:List α)(k:Nat)(h:k<l.length):(l.map f).getD k .any=f l[k]:=by
 simp [List.getD,h]
theorem Dp (f:α->D)(l:List α)(k:Nat)(h:k<l.length):(l.map f)[k]?=some (f l[k]):=by
 simp [h]
theorem aFi(n:Int):Xk .i64 n=(-9223372036854775808<=n/\n<=9223372036854775807):=by
 unfold Xk;rfl
theorem aJ5(n:Int):Xk .u8 n=(0<=n/\n<=255):=by
 unfold Xk;rfl
end
theorem Xx:Iq []=true:=rfl
theorem Si(r:List (Option Holder)):Iq (none::r)=Iq r:=by simp [Iq]
theorem Tw(h:Holder)(r:List (Option Holder)):Iq (some h::r)=(!r.contains (some h) && Iq r):=by
 simp only [Iq,qK,id,oB,Bool.decide_and,List.contains_eq_mem];congr 1;rw [<- decide_not];congr 1;simp [kV]
theorem Wl:maxLen=9223372036854775807:=rfl
theorem aEi(n:Nat)(l:List (Nat×Slot))(loc obj:List (List D)):({ n:=n,env:=dM l,loc:=loc,obj:=obj } :St)=St.mk' n l loc obj:=rfl
def xS:Slot->Slot
 | .d x=> .d x.strip
 | s=>s
def lB:List Nat->List (Nat×Slot)->List (Nat×Slot)
 | [],l=>l
 | t::r,l=>(t,xS (dM l t))::lB r l
theorem zQ(l:List (Nat×Slot))(u:Nat):∀ts:List Nat,dM (lB ts l) u=if u∈ts then xS (dM l u)else dM l u
 | []=>by simp [lB]
 | t::r=>by
  rw [lB,oM,zQ l u r];by_cases h:u=t
  .subst h;simp
  simp [h]
theorem mN(l:List (Nat×Slot))(ts:List (Option Nat)):fF ts (dM l)=dM (lB (ts.filterMap id) l):=by
 funext u;rw [zQ];by_cases h:some u∈ts
 .have h1:ts.contains (some u)=true:=by simpa using h
  have h2:u∈ts.filterMap id:=by simpa using h
  simp only [fF,h1,aJ,aR h2,xS];split <;> simp_all
 have h1:ts.contains (some u)=false:=by simpa using h
 have h2:¬u∈ts.filterMap id:=by simpa using h
 simp only [fF,h1,aG h2];rfl
theorem Pj {d:Nat} {args:List Operand} :lC P (some d) f args (St.mk' n l loc obj) K=
  ((args.filterMap bR).Nodup/\(∀x∈args,uJ ((St.mk' n l loc obj).rdS x)=true/\((St.mk' n l loc obj).rd x).plain=true)/\
   Ct P f (args.map (rH (St.mk' n l loc obj))) obj (fun r σ'=>K (St.mk' n ((d,.d r)::lB (args.filterMap bR) l) loc σ'))):=by
 unfold lC;have e:(args.map bR).filterMap id=args.filterMap bR:=by rw [yM];rfl
 simp only [Ao,Aj,An,Qj,mN,e];rfl
theorem Kk(l:List (Nat×Slot)):lB [] l=l:=rfl
theorem Hk(t:Nat)(r:List Nat)(l:List (Nat×Slot)):lB (t::r) l=(t,xS (dM l t))::lB r l:=rfl
theorem Yo(x:D):xS (.d x)= .d x.strip:=rfl
theorem Kh(a b:Nat):xS (.lref a b)= .lref a b:=rfl
theorem Wi:List.filterMap bR []= []:=rfl
theorem Vp(t:Tmp)(r:List Operand):List.filterMap bR (.tmp t::r)=t::List.filterMap bR r:=rfl
theorem Ks(v:Value)(r:List Operand):List.filterMap bR (.const v::r)=List.filterMap bR r:=rfl
theorem Nb(v:FuncId)(r:List Operand):List.filterMap bR (.func v::r)=List.filterMap bR r:=rfl
theorem Hl {d:Nat} :
  uD P c (some d) (.call ⟨.value (.func f),args,ts⟩) .pureT (St.mk' n l loc obj) K=
  ((args.toList.filterMap bR).Nodup/\(∀x∈args.toList,uJ ((St.mk' n l loc obj).rdS x)=true/\((St.mk' n l loc obj).rd x).plain=true)/\
   ∃r,(∀σ,Ct P f (args.toList.map (rH (St.mk' n l loc obj))) σ fun r' σ'=>r'=r/\σ'=σ)/\K (St.mk' n ((d,.d r)::lB (args.toList.filterMap bR) l) loc obj)):=by
 have e:(args.toList.map bR).filterMap id=args.toList.filterMap bR:=by rw [yM];rfl
 simp only [uD,Ao,Aj,An,Qj,mN,e];rfl
theorem Ki {d:Nat} :
  uD P c (some d) (.call ⟨.value (.func f),args,ts⟩) .detT (St.mk' n l loc obj) K=
  ((args.toList.filterMap bR).Nodup/\(∀x∈args.toList,uJ ((St.mk' n l loc obj).rdS x)=true/\((St.mk' n l loc obj).rd x).plain=true)/\
   ∃r σ0,(Ct P f (args.toList.map (rH (St.mk' n l loc obj))) obj fun r' σ'=>r'=r/\σ'=σ0)/\K (St.mk' n ((d,.d r)::lB (args.toList.filterMap bR) l) loc σ0)):=by
 have e:(args.toList.map bR).filterMap id=args.toList.filterMap bR:=by rw [yM];rfl
 simp only [uD,Ao,Aj,An,Qj,mN,e];rfl
theorem aJ6 {f:Fl} :uD P c d op (.op f) st K=(iY op=false/\lJ c d st op=f/\gK P c d op st K):=rfl
theorem Xw :uD P c d (.call ⟨.value (.func f),args,ts⟩) .pure st K=
  (jS args.toList st/\∃r,(∀σ,Ct P f (fY args.toList st) σ fun r' σ'=>r'=r/\σ'=σ)/\K (st.put d (.d r))):=rfl
def aLm(P:Program)(dst:Option Tmp)(d:D)(args:List Operand)(st:St)(K:St->Prop):Prop:=match d with
 | .clo (.func fid) first caps=>(∀d∈first++caps,d.plain=true)/\jS args st/\∃r,(∀σ,Ct P fid (first.map D.strip++fY args st++caps.map D.strip) σ fun r' σ'=>r'=r/\σ'=σ)/\K (st.put dst (.d r))
 | _=>False
theorem Vd {f:Operand} :uD P c d (.call ⟨.value f,args,ts⟩) .pureC st K=aLm P d (st.rd f) args.toList st K:=rfl
theorem aGo {fid:FuncId} {first caps:List D} {args:List Operand} :aLm P dst (.clo (.func fid) first caps) args st K=((∀d∈first++caps,d.plain=true)/\jS args st/\∃r,(∀σ,Ct P fid (first.map D.strip++fY args st++caps.map D.strip) σ fun r' σ'=>r'=r/\σ'=σ)/\K (st.put dst (.d r))):=rfl
theorem aDt :uD P c d (.call ⟨.value (.func f),args,ts⟩) .read st K=
  (jS args.toList st/\∃r,(Ct P f (fY args.toList st) st.obj fun r' σ'=>r'=r/\σ'=st.obj)/\K (st.put d (.d r))):=rfl
theorem aH6 :uD P c d (.call ⟨.value (.func f),args,ts⟩) .nd st K=
  ∃Q,(jS args.toList st/\Ct P f (fY args.toList st) st.obj Q/\∃r σ0,Q r σ0)/\∀r σ0,Q r σ0->K (({ st with obj:=σ0 } :St).put d (.d r)):=rfl
theorem Xg :uD P c d (.call ⟨.value (.func f),args,ts⟩) .readT st K=
  (jS args.toList st/\∃r,(∀J,Ct P f (fY args.toList st) (st.obj++J) fun r' σ'=>r'=r/\σ'=st.obj++J)/\K (st.put d (.d r))):=rfl
theorem aBo :uD P c d (.call ⟨.value (.func f),args,ts⟩) .detA st K=
  (jS args.toList st/\∃r J,(Ct P f (fY args.toList st) st.obj fun r' σ'=>r'=r/\σ'=st.obj++J)/\K (({ st with obj:=st.obj++J } :St).put d (.d r))):=rfl
theorem aEd :uD P c d (.call ⟨.value (.func f),args,ts⟩) .det st K=
  (jS args.toList st/\∃r σ0,(Ct P f (fY args.toList st) st.obj fun r' σ'=>r'=r/\σ'=σ0)/\K (({ st with obj:=σ0 } :St).put d (.d r))):=rfl
theorem Rp {a b:Code} {s:Slot} (hs:dM l t=s)
  (h:uP s.toD (dL rr dfr P a Q (St.mk' n ((t,.d (.bool true))::l) loc obj)) (dL rr dfr P b Q (St.mk' n ((t,.d (.bool false))::l) loc obj))):dL rr dfr P (.cond (.tmp t) a b) Q (St.mk' n l loc obj):=by
 unfold uP at h;split at h
 .rename_i v hv;have hs':dM l t= .d (.v (.bool v)):=by
   rw [hs];cases s with
   | d d=>simp only [Slot.toD] at hv;rw [hv]
   | lref n o=>simp [Slot.toD] at hv
  rw [Cs hs'];cases v with
  | true=>exact cJ (t:=true) (by simp [St.rd,St.rdS,oM,St.mk']) (fun _=>h.1 rfl) (fun h=>by cases h)
  | false=>exact cJ (t:=false) (by simp [St.rd,St.rdS,oM,St.mk']) (fun h=>by cases h) (fun _=>h.2 rfl)
 exact h.elim
def oP (o : Oper) : Oper := ⟨o.dst, o.op, 0, "", #[], o.guard⟩
theorem mH:List.map oP []= []:=rfl
theorem kS (d : Option Tmp) (op : Op) (ty : TypeId) (pos : String) (after : Array Edge) (g : Option (Nat × Bool)) (r : List Oper) : List.map oP (⟨d, op, ty, pos, after, g⟩ :: r) = ⟨d, op, 0, "", #[], g⟩ :: List.map oP r := rfl
theorem Ax :∀(r:List Oper) (st:St),lT P c all (r.map oP) st K=lT P c all r st K
 | [],_=>rfl
 | o :: r, st => by
  have ih:(fun st'=>lT P c all (r.map oP) st' K)=fun st'=>lT P c all r st' K:=funext fun st'=>Ax r st';show lT P c all (oP o::r.map oP) st K=_
  unfold lT;simp only [oP,ih];split
  .rfl
  split
  .split
   .rw [Ax r];rfl
   rfl
  rfl
theorem xI :∀(r:List Oper) (ks:List DK) (st:St),gY P c all (r.map oP) ks st K=gY P c all r ks st K
 | [],_,_=>rfl
 | _::_, [],_=>rfl
 | o :: r, k :: ks, st => by
  have ih:(fun st'=>gY P c all (r.map oP) ks st' K)=fun st'=>gY P c all r ks st' K:=funext fun st'=>xI r ks st';show gY P c all (oP o::r.map oP) (k::ks) st K=_
  unfold gY;simp only [oP,ih];congr 1;split
  .rfl
  split
  .split
   .rw [xI r]
   rfl
  rfl
theorem pC {id:Nat} (he:ops.map oP=ops')(h:∀all:List Oper,(∀j,aY all j=aY ops j)->∀K:St->Prop,(∀s,Q .normal s->K s)->lT P c all ops' st K):dL rr dfr P (.region id ops.toArray false) Q st:=
 Pi fun K hK=>by
  have:=h ops (fun _=>rfl) K hK
  rwa [<- he,Ax] at this
theorem Dw {id:Nat} (ks:List DK) (hm:P.follows .mixedOrders=true)(hok:Bu c ops ks=true)(he:ops.map oP=ops')
  (h:∀all:List Oper,(∀j,aY all j=aY ops j)->∀K:St->Prop,(∀s,Q .normal s->K s)->gY P c all ops' ks st K):dL rr dfr P (.region id ops.toArray true) Q st:=
 aD4 ks hm hok fun K hK=>by
  have:=h ops (fun _=>rfl) K hK
  rwa [<- he,xI] at this
def Ov:D->Prop
 | .v (.slice none 0 0)=>True
 | _=>False
def zD(x y:D):Prop:=y=x\/(x.plain=true/\y=x.strip)\/(Ov x/\(y= .sl false []\/y= .sl true []))
theorem Nc:Ov (.v (.slice none 0 0))=True:=rfl
def kF:List D->List D->Prop
 | [], []=>True
 | a::r,b::q=>zD a b/\kF r q
 | _,_=>False
theorem eV {b:List D} (h:a=b):kF a b:=by
 subst h;induction a with
 | nil=>trivial
 | cons x r ih=>exact⟨.inl rfl,ih⟩
theorem Br:∀ {a b:List D},kF a b->a.length=b.length
 | [], [],_=>rfl
 | _::_,_::_,h=>by simp [Br h.2]
 | [],_::_,h=>h.elim
 | _::_, [],h=>h.elim
theorem Aw:∀ {a b:List D},kF a b->∀(i:Nat) (y:D),b[i]?=some y->∃x,a[i]?=some x/\zD x y
 | x::_,_::_,h,0,y,hy=>by simp at hy;subst hy;exact⟨x,rfl,h.1⟩
 | _::_,_::_,h,i+1,y,hy=>by simpa using Aw h.2 i y (by simpa using hy)
 | [], [],_,_,_,hy=>by simp at hy
 | [],_::_,h,_,_,_=>h.elim
 | _::_, [],h,_,_,_=>h.elim
theorem Ct.of_le {a':List D} {σ σ':List (List D)} {Q:D->List (List D)->Prop} (h:Ct P f a σ Q)(e:kF a' a)(e2:σ'=σ):Ct P f a' σ' Q:=by
 subst e2;refine⟨h.1,fun w g vs hs hb ho=>h.2 w g vs (by rw [hs,Br e]) hb ⟨ho.mem,ho.xlt,fun t=>?_,ho.ll,ho.loc,ho.ol,ho.obj⟩⟩;have hsl:=ho.slot t;simp only [St.ofArgs] at hsl |-;unfold eP at hsl |-;cases hy:a[t]? with
 | none=>exact⟨.any _,.flat _ _ _ rfl⟩
 | some y =>
  obtain⟨x,hx,hle⟩:=Aw e t y hy;rw [hx] at hsl;rcases hle with rfl | ⟨hp,rfl⟩ | ⟨hn,hy⟩
  .exact hsl
  .exact nB hsl.1 hp t
  have hxn:x= .v (.slice none 0 0):=by
   unfold Ov at hn;split at hn
   .rfl
   exact hn.elim
  subst hxn;obtain⟨hr,_⟩:=hsl;have hv:=hr.vEq;rcases hy with rfl | rfl
  .exact⟨by rw [hv];exact .nil _,.flat _ _ _ rfl⟩
  exact⟨by rw [hv];exact .nil _,.sl _ _ _ (.inl ⟨_,_,hv⟩)⟩
theorem vN:∀(sets:List (Nat×Slot)) (l:List (Nat×Slot)),eR sets (dM l)=dM (sets.reverseAux l)
 | [],l=>rfl
 | (a,s)::r,l=>by
  show eR r (fun u=>if u=a then s else dM l u)=_
  have:(fun u=>if u=a then s else dM l u)=dM ((a,s)::l):=by funext u;rw [oM]
  rw [this,vN r];rfl
theorem aJr(n:Nat)(l:List (Nat×Slot))(loc obj:List (List D))(sets:List (Nat×Slot))(ob:Option (List (List D))):(St.mk' n l loc obj).upd ⟨sets,none,ob⟩=St.mk' n (sets.reverseAux l) loc (ob.getD obj):=by
 show({ n:=n,env:=eR sets (dM l),loc:=loc,obj:=ob.getD obj } :St)=_
 rw [vN];rfl
theorem Ml(l:List (Nat×Slot)):List.reverseAux [] l=l:=rfl
theorem Jw(a:Nat×Slot)(r l:List (Nat×Slot)):List.reverseAux (a::r) l=List.reverseAux r (a::l):=rfl
def Xi(R:lL)(K:List (Nat×Slot)->Option (List (List D))->Prop):Prop:=∃sets ob,R sets ob/\K sets ob
@[congr] theorem aNf {R':lL} {K:List (Nat×Slot)->Option (List (List D))->Prop} (h:R=R'):Xi R K=Xi R' K:=by rw [h]
theorem aJf {alt:Bool} :vcY P alt dst op st K=Xi (fun sets ob=>yR P alt dst op st.rdS (if(flY alt op).rO=true then st.obj else []) sets ob) (fun sets ob=>K (st.upd ⟨sets,none,ob⟩)):=rfl
theorem aIh {S:List (Nat×Slot)} {O:Option (List (List D))} {K:List (Nat×Slot)->Option (List (List D))->Prop} :Xi (fun sets ob=>sets=S/\ob=O) K=K S O:=by
 apply propext;constructor
 .rintro⟨_,_,⟨rfl,rfl⟩,h⟩;exact h
 intro h;exact⟨_,_,⟨rfl,rfl⟩,h⟩
theorem aG3 {C:Prop} {K:List (Nat×Slot)->Option (List (List D))->Prop} :Xi (fun sets ob=>C/\R sets ob) K=(C/\Xi (fun sets ob=>R sets ob) K):=by
 apply propext;constructor
 .rintro⟨_,_,⟨h1,h2⟩,h⟩;exact⟨h1,_,_,h2,h⟩
 rintro⟨h1,_,_,h2,h⟩;exact⟨_,_,⟨h1,h2⟩,h⟩
theorem aKq {R:α->lL} {K:List (Nat×Slot)->Option (List (List D))->Prop} :Xi (fun sets ob=>∃x,R x sets ob) K=∃x,Xi (fun sets ob=>R x sets ob) K:=by
 apply propext;constructor
 .rintro⟨_,_,⟨x,h2⟩,h⟩;exact⟨x,_,_,h2,h⟩
 rintro⟨x,_,_,h2,h⟩;exact⟨_,_,⟨x,h2⟩,h⟩
theorem aJ4 {S:lL} {K:List (Nat×Slot)->Option (List (List D))->Prop} :Xi (fun sets ob=>R sets ob\/S sets ob) K=(Xi (fun sets ob=>R sets ob) K\/Xi (fun sets ob=>S sets ob) K):=by
 apply propext;constructor
 .rintro⟨_,_,h1 | h1,h⟩
  .exact .inl ⟨_,_,h1,h⟩
  exact .inr ⟨_,_,h1,h⟩
 rintro(⟨_,_,h1,h⟩ | ⟨_,_,h1,h⟩)
 .exact⟨_,_,.inl h1,h⟩
 exact⟨_,_,.inr h1,h⟩
theorem aLw {K:List (Nat×Slot)->Option (List (List D))->Prop} :Xi (fun _ _=>False) K=False:=by
 apply propext;exact⟨fun⟨_,_,h,_⟩=>h,False.elim⟩
attribute [simp] aJf aIh aG3 aKq aJ4 aLw
attribute [simp] aJr Ml Jw isY yH Ia yR yA1 yA2 xR Ge Sh Wd sT Eb Sm flY Jm wE aBe Nc rA qT tU Bo oW Fc Ue bnE Bool.true_or Bool.false_or
theorem Sz(cs:List D):D.strip (.tup cs)= .tup (cs.map D.s2):=rfl
attribute [simp] Sz D.plain
theorem aH8(n:Nat)(cs:List D):sH true n cs=if n<=cs.length then some (.agg (cs.take n))else none:=rfl
theorem aIa(n:Nat)(cs:List D):sH false n cs=cs.head?:=rfl
theorem bG(cs:List D)(off:Nat)(ds:List D):dE cs off ds=cs.take off++ds++cs.drop (off+ds.length):=rfl
attribute [simp low] aH8 aIa bG
attribute [simp] Hl Ki aJ6 Xw Vd aGo aDt aEd Xg aBo aH6
attribute [simp] Vt Xr aCm aIq aL9 aMv aJx aKf aMe aK8 aIg Wa aBw Yj Tt Zt aAf Ob Uh Sy Uw aDs aBy aLp aJd aF8 aKm aHf aDd Xb oI eM dS Pj Kk Hk Yo Kh Wi Vp Ks Nb
attribute [simp] aEi List.getElem?_cons_zero Option.bind_some Qj Ao Aj An Gd Dz aGc aC6 aAz Yb aBp Sd Va aA5 aKk aDw tF aK7 aDz
 aF9 aDr Nm aEx aFq aFy aAy Tk Te Tu Ve Uy aNu aLj aI1 aKg aKl aI0 aNg aL1 aJs aKp aJ7
 aFa aCy Ww Ud Uz Ua Xh aGn Xy Um Tf Vw Ut Yg Wf Ng Pm aFr aDq Tl Td
 fJ aF7 aAq aAr Wb aIp aGv aAm Yk aG1 aHi aHs aIb aKo aJn aKi Sw aIr aJb aFp Xs Yw oL gK Ij aGh cY Vc xQ iV oT qH lP gF flX tP Ba Lk iD rD zS aG0 zG Ai iW gV jN qY jQ qQ qZ eY lV Hi qU lO
 pA zJ sQ qS iU lY nE Da oF rM jH jS fY rH uJ Fx St.cellsAt St.park Slot.plus Slot.isAddr Qu D.ofList
 Vo On aFw aK6 aFm aCl Og aC0 Dp aFi aJ5 Xp iY lJ hP Cb Ci xB Xx Si Tw Wl
end Go.Vm
