import Derived.Test.YtbgfljpnhhdkoaaGreatVm21
namespace Go.Vm
open Go
set_option linter.all false
variable {rr:Option Nat} {dfr:List Deferred}
section
variable {P:Program}
theorem aA {y:Code} {Q:Exit→St→Prop} {s:St} (h:dO rr dfr P y Q s):Qx rr dfr P y Q .normal s:=h
theorem bB {y:Code} {Q:Exit→St→Prop} {s:St} {i:Nat} (h:Q (.exit i) s):Qx rr dfr P y Q (.exit i) s:=h
theorem aJ {y:Code} {Q:Exit→St→Prop} {s:St} (h:Q .ret s):Qx rr dfr P y Q .ret s:=h
theorem aK {i:Nat} {Q:Exit→St→Prop} {s:St} (h:Q .normal s):vR i Q .normal s:=h
theorem aX {i:Nat} {Q:Exit→St→Prop} {s:St} (h:Q .normal s):vR i Q (.exit i) s:=by simpa [vR] using h
theorem aQ {i:Nat} {Q:Exit→St→Prop} {s:St} (h:Q .ret s):vR i Q .ret s:=h
theorem bD {α:Type} {S:α→St} {p:α→Prop} {m:α→Nat} {x:α} {Q:Exit→St→Prop} {s:St} {i:Nat} (h:Q (.exit i) s):xG S p m x Q (.exit i) s:=h
theorem fD {α:Type} {S:α→St} {p:α→Prop} {m:α→Nat} {x:α} {Q:Exit→St→Prop} {s:St} (h:Q .ret s):xG S p m x Q .ret s:=h
def sX(d:D)(A B:Prop):Prop:=match d with
 | .v (.bool t)=>(t=true→A)∧(t=false→B)
 | _=>False
theorem aD {c:Cfg} {all r:List Oper} {d:Option Tmp} {op:Op} {ty:TypeId} {pos:String} {after:Array Edge} {st:St} {K:St→Prop} (h:∀K':St→Prop,(∀s,lH P c all r s K→K' s)→Nr d st∧fG P c d op st K'):lH P c all (⟨d,op,ty,pos,after,none⟩::r) st K:=
 h _ fun _ h=>h
theorem bZ {c:Cfg} {all:List Oper} (n:Nat) {r:List Oper} {st:St} {K:St→Prop} (h:∀K':St→Prop,(∀s,lH P c all (r.drop n) s K→K' s)→lH P c all (r.take n) st K'):lH P c all r st K:=by
 have go:∀(n:Nat) (r:List Oper) (st:St),lH P c all (r.take n) st (fun s=>lH P c all (r.drop n) s K)→lH P c all r st K:=by
  intro n;induction n with
  | zero=>intro r st h;exact h
  | succ n ih =>
   intro r st h;cases r with
   | nil=>exact h
   | cons o r =>
    simp only [List.take_succ_cons,List.drop_succ_cons] at h;unfold lH at h ⊢;split at h
    ·rename_i hg;have hd:=h.1;refine⟨hd,?_⟩;exact sJ (fun s hs=>ih r s hs) h.2
    rename_i j want hg;split at h
    ·split at h
     ·exact⟨fun hb=>⟨(h.1 hb).1,sJ (fun s hs=>ih r s hs) (h.1 hb).2⟩,fun hb=>⟨(h.2 hb).1,ih r _ (h.2 hb).2⟩⟩
     exact h.elim
    exact h.elim
 exact go n r st (h _ fun _ h=>h)
theorem aKp {c:Cfg} {all r:List Oper} {d:Option Tmp} {op:Op} {ty:TypeId} {pos:String} {after:Array Edge} {j t:Nat} {b want:Bool} {st:St} {K:St→Prop} (hg:aR all j=some t)(hs:st.env t= .d (.v (.bool b)))
  (h1:b=want→∀K':St→Prop,(∀s,lH P c all r s K→K' s)→Nr d st∧fG P c d op st K') (h2:b= !want→Nr d st∧lH P c all r (st.put d .und) K):lH P c all (⟨d,op,ty,pos,after,some (j,want)⟩::r) st K:=by
 rw [Da];simp only [hg,hs];exact⟨fun hb=>h1 hb _ fun _ h=>h,h2⟩
theorem aId {c:Cfg} {all r:List Oper} {d:Option Tmp} {op:Op} {ty:TypeId} {pos:String} {after:Array Edge} {j t:Nat} {b want:Bool} {st:St} {K:St→Prop} (hg:aR all j=some t)(hs:st.env t= .d (.v (.bool b)))(hb:b=want)
  (h1:∀K':St→Prop,(∀s,lH P c all r s K→K' s)→Nr d st∧fG P c d op st K'):lH P c all (⟨d,op,ty,pos,after,some (j,want)⟩::r) st K:=
 aKp hg hs (fun _=>h1) fun h=>(by rw [hb] at h;cases want <;> cases h)
theorem yT {n t:Nat} {l:List (Nat×Slot)} {loc obj:List (List D)} {b:Bool} (hs:cQ l t= .d (.v (.bool b))):St.mk' n l loc obj=St.mk' n ((t,.d (.bool b))::l) loc obj:=by
 unfold St.mk';congr 1;funext u;simp only [cQ];split
 ·rename_i e;rw [e,hs]
 rfl
theorem aU {c:Cfg} {all r:List Oper} {n:Nat} {l:List (Nat×Slot)} {loc obj:List (List D)} {K:St→Prop} (t:Nat) {s:Slot} (hs:cQ l t=s)
  (h:sX s.toD (lH P c all r (St.mk' n ((t,.d (.bool true))::l) loc obj) K) (lH P c all r (St.mk' n ((t,.d (.bool false))::l) loc obj) K)):lH P c all r (St.mk' n l loc obj) K:=by
 unfold sX at h;split at h
 ·rename_i b hb;have hs':cQ l t= .d (.v (.bool b)):=by
   rw [hs];cases s with
   | d d=>simp only [Slot.toD] at hb;rw [hb]
   | lref n o=>simp [Slot.toD] at hb
  rw [yT hs'];cases b
  ·exact h.2 rfl
  exact h.1 rfl
 exact h.elim
def aIf(P:Program)(c:Cfg)(all r:List Oper)(K:St→Prop):St→Prop:=fun st=>lH P c all r st K
theorem Zi {c:Cfg} {all r:List Oper} {K:St→Prop} {st:St} :aIf P c all r K st=lH P c all r st K:=rfl
theorem aDo {c:Cfg} {all r:List Oper} {d:Option Tmp} {op:Op} {ty:TypeId} {pos:String} {after:Array Edge} {st:St} {K:St→Prop} :lH P c all (⟨d,op,ty,pos,after,none⟩::r) st K=(Nr d st∧fG P c d op st (aIf P c all r K)):=rfl
def Zy(P:Program)(c:Cfg)(all r:List Oper)(ks:List DK)(K:St→Prop):St→Prop:=fun st=>gY P c all r ks st K
theorem Vc {c:Cfg} {all r:List Oper} {ks:List DK} {K:St→Prop} {st:St} :Zy P c all r ks K st=gY P c all r ks st K:=rfl
theorem Yx {c:Cfg} {all r:List Oper} {d:Option Tmp} {op:Op} {ty:TypeId} {pos:String} {after:Array Edge} {k:DK} {ks:List DK} {st:St} {K:St→Prop} :gY P c all (⟨d,op,ty,pos,after,none⟩::r) (k::ks) st K=(Nr d st∧sK P c d op k st (Zy P c all r ks K)):=rfl
@[congr] theorem aK2 {op:BinOp} {t:TypeId} {x y x' y':Slot} {K:D→Prop} (hx:x=x')(hy:y=y'):pL P op t x y K=pL P op t x' y' K:=by rw [hx,hy]
@[congr] theorem aJ7 {op:BinOp} {k:IntKind} {a b a' b':Int} {K:D→Prop} (hx:a=a')(hy:b=b'):xS op k a b K=xS op k a' b' K:=by rw [hx,hy]
@[congr] theorem aLd {op:BinOp} {a b a' b':ByteArray} {K:D→Prop} (hx:a=a')(hy:b=b'):xE op a b K=xE op a' b' K:=by rw [hx,hy]
@[congr] theorem aLi {t:TypeId} {a b a' b':List D} {K:Bool→Prop} (hx:a=a')(hy:b=b'):tT P t a b K=tT P t a' b' K:=by rw [hx,hy]
@[congr] theorem aL6 {op:UnOp} {x x':D} {K:D→Prop} (hx:x=x'):xZ op x K=xZ op x' K:=by rw [hx]
def sel(b:Bool)(s r:Slot):Slot:=if b=true then s else r
@[congr] theorem aNx {b b':Bool} {s r:Slot} (h:b=b'):sel b s r=sel b' s r:=by rw [h]
theorem aCd {s r:Slot} :sel true s r=s:=rfl
theorem aAr {s r:Slot} :sel false s r=r:=rfl
theorem vX(a:Nat)(s:Slot)(r:List (Nat×Slot))(t:Nat):cQ ((a,s)::r) t=sel (t==a) s (cQ r t):=by
 simp only [cQ,sel,beq_iff_eq]
def gv3(s:Slot)(want:Bool):Option Bool:=wX s want
def gv2(o:Option Tmp)(st:St)(want:Bool):Option Bool:=match o with
 | some t=>gv3 (st.env t) want
 | none=>none
@[congr] theorem aM4 {o o':Option Tmp} {st:St} {want:Bool} (h:o=o'):gv2 o st want=gv2 o' st want:=by rw [h]
theorem aC0(t:Tmp)(st:St)(want:Bool):gv2 (some t) st want=gv3 (st.env t) want:=rfl
theorem aAe(b want:Bool):gv3 (.d (.v (.bool b))) want=some b:=rfl
theorem aFj(want:Bool):gv3 (.d (.tup [])) want=some (!want):=rfl
def aB8(all:List Oper)(j:Nat)(st:St)(want:Bool):Option Bool:=match aR all j with
 | some t=>wX (st.env t) want
 | none=>none
theorem aEq(all:List Oper)(j:Nat)(st:St)(want:Bool):aB8 all j st want=gv2 (aR all j) st want:=rfl
def Pm(g:Option Bool)(want:Bool)(A B:Prop):Prop:=match g with
 | some b=>(b=want→A)∧(b= !want→B)
 | none=>False
@[congr] theorem aJx {g g':Option Bool} {want:Bool} {A B:Prop} (h:g=g'):Pm g want A B=Pm g' want A B:=by rw [h]
theorem aI4 {A B:Prop} :Pm (some true) true A B=A:=by simp [Pm]
theorem aJi {A B:Prop} :Pm (some true) false A B=B:=by simp [Pm]
theorem aJd {A B:Prop} :Pm (some false) true A B=B:=by simp [Pm]
theorem aIm {A B:Prop} :Pm (some false) false A B=A:=by simp [Pm]
theorem aHw {c:Cfg} {all r:List Oper} {d:Option Tmp} {op:Op} {ty:TypeId} {pos:String} {after:Array Edge} {j:Nat} {want:Bool} {st:St} {K:St→Prop} :lH P c all (⟨d,op,ty,pos,after,some (j,want)⟩::r) st K=
  Pm (aB8 all j st want) want (Nr d st∧fG P c d op st (aIf P c all r K)) (Nr d st∧lH P c all r (st.put d .und) K):=by
 rw [Da];unfold aB8 Pm;split
 ·rename_i t ht;simp only [ht];split
  ·rename_i h;simp [h];exact fun _=>Iff.rfl
  rename_i h;simp [h]
 rename_i h;simp [h]
def Ob(d:D)(A B:Prop):Prop:=match d with
 | .v (.bool t)=>(t=true→A)∧(t=false→B)
 | _=>False
@[congr] theorem aIs {d d':D} {A B:Prop} (h:d=d'):Ob d A B=Ob d' A B:=by rw [h]
theorem aJq {A B:Prop} :Ob (.v (.bool true)) A B=A:=by simp [Ob]
theorem aI1 {A B:Prop} :Ob (.v (.bool false)) A B=B:=by simp [Ob]
theorem Rt {dst:Option Tmp} {c a b:Operand} {st:St} {K:St→Prop} :sW dst c a b st K=Ob (st.rd c) ((st.rd a).plain=true∧K (st.put dst (.d (st.rd a).strip))) ((st.rd b).plain=true∧K (st.put dst (.d (st.rd b).strip))):=rfl
theorem Hq {c:Cfg} {dst:Option Tmp} {op:Op} {k:DK} {st:St} {K K':St→Prop} (hk:∀s,K s→K' s)(h:sK P c dst op k st K):sK P c dst op k st K':=by
 unfold sK at *;cases k with
 | op f=>exact⟨h.1,h.2.1,sJ hk h.2.2⟩
 | pure=>
  simp only at *;split at h
  ·obtain⟨h1,r,h2,h3⟩:=h;exact⟨h1,r,h2,hk _ h3⟩
  exact h
 | pureC =>
  simp only at *;split at h
  ·split at h
   ·rename_i hf;obtain⟨h0,h1,r,h2,h3⟩:=h;exact⟨h0,h1,r,h2,hk _ h3⟩
   exact h.elim
  exact h
 | read=>
  simp only at *;split at h
  ·obtain⟨h1,r,h2,h3⟩:=h;exact⟨h1,r,h2,hk _ h3⟩
  exact h
 | det=>
  simp only at *;split at h
  ·obtain⟨h1,r,σ0,h2,h3⟩:=h;exact⟨h1,r,σ0,h2,hk _ h3⟩
  exact h
 | readT=>
  simp only at *;split at h
  ·obtain⟨h1,r,h2,h3⟩:=h;exact⟨h1,r,h2,hk _ h3⟩
  exact h
 | nd=>
  obtain⟨Q,h1,h2⟩:=h;exact⟨Q,h1,fun r σ0 hq=>hk _ (h2 r σ0 hq)⟩
 | detA=>
  simp only at *;split at h
  ·obtain⟨h1,r,J,h2,h3⟩:=h;exact⟨h1,r,J,h2,hk _ h3⟩
  exact h
 | pureT=>
  simp only at *;split at h
  ·obtain⟨h0,h1,r,h2,h3⟩:=h;exact⟨h0,h1,r,h2,hk _ h3⟩
  exact h
 | detT=>
  simp only at *;split at h
  ·obtain⟨h0,h1,r,σ0,h2,h3⟩:=h;exact⟨h0,h1,r,σ0,h2,hk _ h3⟩
  exact h
theorem yV {c:Cfg} {all:List Oper} {ks:List DK} {st:St} {K:St→Prop} :gY P c all [] ks st K=K st:=by unfold gY;rfl
theorem aF0 {c:Cfg} {all r:List Oper} {d:Option Tmp} {op:Op} {ty:TypeId} {pos:String} {after:Array Edge} {j:Nat} {want:Bool} {k:DK} {ks:List DK} {st:St} {K:St→Prop} :gY P c all (⟨d,op,ty,pos,after,some (j,want)⟩::r) (k::ks) st K=
  (Nr d st∧Pm (aB8 all j st want) want (sK P c d op k st (Zy P c all r ks K)) (gY P c all r ks (st.put d .und) K)):=by
 conv=>lhs;unfold gY
 show(_∧_)=_
 congr 1;simp only;unfold aB8 Pm;split
 ·rename_i t ht;simp only [ht];split
  ·rename_i h;simp [h];exact fun _=>Iff.rfl
  rename_i h;simp [h]
 rename_i h;simp [h]
theorem dR {c:Cfg} {all r:List Oper} {d:Option Tmp} {op:Op} {ty:TypeId} {pos:String} {after:Array Edge} {k:DK} {ks:List DK} {st:St} {K:St→Prop} (h:∀K':St→Prop,(∀s,gY P c all r ks s K→K' s)→Nr d st∧sK P c d op k st K'):gY P c all (⟨d,op,ty,pos,after,none⟩::r) (k::ks) st K:=
 h _ fun _ h=>h
theorem Ld {c:Cfg} {all:List Oper} (n:Nat) {r:List Oper} {ks:List DK} {st:St} {K:St→Prop} (hks:n≤ks.length)(h:∀K':St→Prop,(∀s,gY P c all (r.drop n) (ks.drop n) s K→K' s)→gY P c all (r.take n) (ks.take n) st K'):gY P c all r ks st K:=by
 have go : ∀ (n : Nat) (r : List Oper) (ks : List DK) (st : St), n ≤ ks.length → gY P c all (r.take n) (ks.take n) st (fun s => gY P c all (r.drop n) (ks.drop n) s K) → gY P c all r ks st K := by
  intro n;induction n with
  | zero=>intro r ks st _ h;simp only [List.take_zero,List.drop_zero,yV] at h;exact h
  | succ n ih =>
   intro r ks st hks h;cases ks with
   | nil=>simp at hks
   | cons k ks =>
    cases r with
    | nil=>simp only [List.take_nil,List.drop_nil,yV] at h ⊢;exact h
    | cons o r =>
     simp only [List.take_succ_cons,List.drop_succ_cons] at h;simp only [List.length_cons] at hks;unfold gY at h ⊢;refine⟨h.1,?_⟩;have h2:=h.2;split at h2
     ·exact Hq (fun s hs=>ih r ks s (by omega) hs) h2
     split at h2
     ·split at h2
      ·exact⟨fun hb=>Hq (fun s hs=>ih r ks s (by omega) hs) (h2.1 hb),fun hb=>ih r ks _ (by omega) (h2.2 hb)⟩
      exact h2.elim
     exact h2.elim
 exact go n r ks st hks (h _ fun _ h=>h)
theorem rC {c:Cfg} {all r:List Oper} {ks:List DK} {n:Nat} {l:List (Nat×Slot)} {loc obj:List (List D)} {K:St→Prop} (t:Nat) {s:Slot} (hs:cQ l t=s)
  (h:sX s.toD (gY P c all r ks (St.mk' n ((t,.d (.bool true))::l) loc obj) K) (gY P c all r ks (St.mk' n ((t,.d (.bool false))::l) loc obj) K)):gY P c all r ks (St.mk' n l loc obj) K:=by
 unfold sX at h;split at h
 ·rename_i b hb;have hs':cQ l t= .d (.v (.bool b)):=by
   rw [hs];cases s with
   | d d=>simp only [Slot.toD] at hb;rw [hb]
   | lref n o=>simp [Slot.toD] at hb
  rw [yT hs'];cases b
  ·exact h.2 rfl
  exact h.1 rfl
 exact h.elim
def bX:List Nat→List (Nat×Slot)→List (Nat×Slot)
 | _, []=> []
 | W,(t,s)::r=>if W.contains t then bX W r else(t,s)::bX (t::W) r
theorem aD2(n:Nat)(s:Slot):Hg n s (.d .any)=True:=by
 unfold Hg;split <;> simp_all
theorem aKr(n:Nat)(x:D):Hg n (.d x) (.d x)=True:=by
 cases x with
 | sl o es=>cases o <;> simp [Hg]
 | _=>simp [Hg]
theorem aDu(n:Nat)(es:List D):Hg n (.d (.sl true es)) (.d (.sl false es))=True:=by
 unfold Hg;simp
theorem Zu(n m o:Nat):Hg n (.lref m o) (.lref m o)=(m<n):=by
 unfold Hg;simp
def rX(n:Nat)(env:Nat→Slot):List (Nat×Slot)→Prop
 | []=>True
 | (a,s)::r=>Hg n (env a) s∧rX n env r
theorem Ss(n:Nat)(env:Nat→Slot):rX n env []=True:=rfl
theorem Ln(n:Nat)(env:Nat→Slot)(a:Nat)(s:Slot)(r:List (Nat×Slot)):rX n env ((a,s)::r)=(Hg n (env a) s∧rX n env r):=rfl
theorem oI {n:Nat} {env:Nat→Slot} :∀ {l:List (Nat×Slot)},rX n env l→∀p∈l,Hg n (env p.1) p.2
 | [],_,p,hp=>by simp at hp
 | (a,s)::r,h,p,hp=>by
  rcases List.mem_cons.1 hp with rfl | hp
  ·exact h.1
  exact oI h.2 p hp
theorem dD {st:St} {n:Nat} {l:List (Nat×Slot)} {loc obj:List (List D)} (hn:st.n=n)(hl:rX loc.length st.env l)(hloc:loc<+:st.loc)(hobj:st.obj=obj):Weak st (St.mk' n l loc obj):=
 Fd hn (oI hl) hloc hobj
theorem bI {α:Type} {n:Nat} {l l2:List (Nat×Slot)} {loc obj:List (List D)} (F:α→List (Nat×Slot))(W:List Nat)(p:α→Prop)(m:α→Nat)(x0:α) {body:Code} {Q:Exit→St→Prop}
  (hl:bX W l=l2) (hF:rX loc.length (cQ l) (F x0++l2)) (hp:p x0)
  (h:∀x,p x→dO rr dfr P body (xG (fun x=>St.mk' n (F x++l2) loc obj) p m x Q) (St.mk' n (F x++l2) loc obj)):dO rr dfr P (.loop body) Q (St.mk' n l loc obj):=
 Iv (fun x=>St.mk' n (F x++l2) loc obj) p m x0 (Fd rfl (oI hF) (List.prefix_refl _) rfl) hp h
theorem jR {α:Type} {n:Nat} {l l2:List (Nat×Slot)} {loc obj:List (List D)} (F:α→List (Nat×Slot))(G H:α→List (List D))(W:List Nat)(p:α→Prop)(m:α→Nat)(x0:α) {body:Code} {Q:Exit→St→Prop}
  (hl:bX W l=l2) (hF:rX (G x0).length (cQ l) (F x0++l2)) (hG:G x0=loc) (hH:H x0=obj) (hp:p x0)
  (h:∀x,p x→dO rr dfr P body (xG (fun x=>St.mk' n (F x++l2) (G x) (H x)) p m x Q) (St.mk' n (F x++l2) (G x) (H x))):dO rr dfr P (.loop body) Q (St.mk' n l loc obj):=
 Iv (fun x=>St.mk' n (F x++l2) (G x) (H x)) p m x0 (Fd rfl (oI hF) (by rw [hG];exact List.prefix_refl _) hH.symm) hp h
theorem dU {α:Type} {S:α→St} {p:α→Prop} {m:α→Nat} {x:α} {Q:Exit→St→Prop} {s:St} (y:α)(hp:p y)(hm:m y<m x)(hw:Weak s (S y)):xG S p m x Q .normal s:=⟨y,hp,hm,hw⟩
theorem Nf(n:Nat):D.strip (.mref n)= .mref n:=rfl
theorem aGa(n:Nat):D.s1 (.mref n)= .mref n:=rfl
theorem aEt(n:Nat):D.s2 (.mref n)= .mref n:=rfl
theorem Me(n:Nat):D.plain (.mref n)=true:=rfl
theorem Ma(n:Nat):D.solid (.mref n)=true:=rfl
theorem Im(n:Nat):D.ncells (.mref n)=1:=rfl
theorem Lv(n:Nat):D.cells (.mref n)= [.mref n]:=rfl
theorem aA4(kd:TypeDesc)(c:Nat)(kvs:List (Value×Nat×D)):D.strip (.mo kd c kvs)= .mz:=rfl
theorem aKq(kd:TypeDesc)(c:Nat)(kvs:List (Value×Nat×D)):D.s1 (.mo kd c kvs)= .mz:=rfl
theorem aJ9(kd:TypeDesc)(c:Nat)(kvs:List (Value×Nat×D)):D.s2 (.mo kd c kvs)= .mz:=rfl
theorem Yg(kd:TypeDesc)(c:Nat)(kvs:List (Value×Nat×D)):D.plain (.mo kd c kvs)=true:=rfl
theorem aB2(kd:TypeDesc)(c:Nat)(kvs:List (Value×Nat×D)):D.solid (.mo kd c kvs)=true:=rfl
theorem Va(kd:TypeDesc)(c:Nat)(kvs:List (Value×Nat×D)):D.ncells (.mo kd c kvs)=1:=rfl
theorem aBn(kd:TypeDesc)(c:Nat)(kvs:List (Value×Nat×D)):D.cells (.mo kd c kvs)= [.mo kd c kvs]:=rfl
theorem Se(n a b:Nat)(l:List Nat):D.strip (.mit n a l b)= .any:=rfl
theorem aH7(n a b:Nat)(l:List Nat):D.s1 (.mit n a l b)= .any:=rfl
theorem aHc(n a b:Nat)(l:List Nat):D.s2 (.mit n a l b)= .any:=rfl
theorem Vh(n a b:Nat)(l:List Nat):D.plain (.mit n a l b)=true:=rfl
theorem Sp(n a b:Nat)(l:List Nat):D.solid (.mit n a l b)=false:=rfl
theorem aCs(n c:Nat)(kd:TypeDesc)(kvs:List (Value×Nat×D)):D.strip (.mp n kd c kvs)= .mref n:=rfl
theorem aK9(n c:Nat)(kd:TypeDesc)(kvs:List (Value×Nat×D)):D.s1 (.mp n kd c kvs)= .mref n:=rfl
theorem aLf(n c:Nat)(kd:TypeDesc)(kvs:List (Value×Nat×D)):D.s2 (.mp n kd c kvs)= .mref n:=rfl
theorem Yj(n c:Nat)(kd:TypeDesc)(kvs:List (Value×Nat×D)):D.plain (.mp n kd c kvs)=true:=rfl
theorem aDa(n c:Nat)(kd:TypeDesc)(kvs:List (Value×Nat×D)):D.solid (.mp n kd c kvs)=true:=rfl
theorem Vl(n c:Nat)(kd:TypeDesc)(kvs:List (Value×Nat×D)):D.ncells (.mp n kd c kvs)=1:=rfl
theorem aAc(n c:Nat)(kd:TypeDesc)(kvs:List (Value×Nat×D)):D.cells (.mp n kd c kvs)= [.mp n kd c kvs]:=rfl
theorem Tu(t:TypeId)(d:D):D.strip (.ifc t d)= .ifc t d:=rfl
theorem aH8(t:TypeId)(d:D):D.s1 (.ifc t d)= .ifc t d:=rfl
theorem aHm(t:TypeId)(d:D):D.s2 (.ifc t d)= .ifc t d:=rfl
theorem Rn(t:TypeId)(d:D):D.plain (.ifc t d)=true:=rfl
theorem Tf(t:TypeId)(d:D):D.solid (.ifc t d)=true:=rfl
theorem Mv(t:TypeId)(d:D):D.ncells (.ifc t d)=1:=rfl
theorem Tb(t:TypeId)(d:D):D.cells (.ifc t d)= [.ifc t d]:=rfl
theorem aAj(n:Nat):D.arr (.mref n)=true:=rfl
attribute [simp] aA4 aKq aJ9 Yg aB2 Va aBn Se aH7 aHc Vh Sp oL sH oH aGt Nf aGa aEt Me Ma Im Lv aCs aK9 aLf Yj aDa Vl aAc Tu aH8 aHm Rn Tf Mv Tb aAj
theorem Ru(n a b c:Nat):D.strip (.slo n a b c)= .slo n a b c:=rfl
theorem Wl(n:Nat):D.strip (.xl n)= .xl n:=rfl
theorem aCv(k:Nat)(es:List D):D.strip (.xs k es)= .xl es.length:=rfl
theorem aH0(n a b c:Nat):D.s2 (.slo n a b c)= .slo n a b c:=rfl
theorem aLg(n:Nat):D.s2 (.xl n)= .xl n:=rfl
theorem aKs(k:Nat)(es:List D):D.s2 (.xs k es)= .xl es.length:=rfl
theorem aH6(f:Go.Fn)(a b:List D):D.s2 (.clo f a b)= .clo f a b:=rfl
theorem aG9(n a b c:Nat):D.s1 (.slo n a b c)= .slo n a b c:=rfl
theorem aKf(n:Nat):D.s1 (.xl n)= .xl n:=rfl
theorem aJ3(k:Nat)(es:List D):D.s1 (.xs k es)= .xl es.length:=rfl
theorem aJf(f:Go.Fn)(a b:List D):D.s1 (.clo f a b)= .clo f a b:=rfl
theorem Vo(n a b c:Nat):D.plain (.slo n a b c)=true:=rfl
theorem Zh(n:Nat):D.plain (.xl n)=true:=rfl
theorem aC5(k:Nat)(es:List D):D.plain (.xs k es)=true:=rfl
theorem Td(n a b c:Nat):D.solid (.slo n a b c)=true:=rfl
theorem aC9(n:Nat):D.solid (.xl n)=true:=rfl
theorem aBi(k:Nat)(es:List D):D.solid (.xs k es)=true:=rfl
theorem Ov(n a b c:Nat):D.ncells (.slo n a b c)=1:=rfl
theorem Uu(n:Nat):D.ncells (.xl n)=1:=rfl
theorem Vg(k:Nat)(es:List D):D.ncells (.xs k es)=1:=rfl
theorem Ul(n a b c:Nat):D.cells (.slo n a b c)= [.slo n a b c]:=rfl
theorem aBa(n:Nat):D.cells (.xl n)= [.xl n]:=rfl
theorem aA1(k:Nat)(es:List D):D.cells (.xs k es)= [.xs k es]:=rfl
theorem aKb(x:Value):D.arr (.v x)=true:=rfl
theorem aJa(es:List D):D.arr (.sl false es)=true:=rfl
theorem aGj(cs:List D):D.arr (.agg cs)=cs.all D.flat:=rfl
theorem aI8(x:Value):D.flat (.v x)=true:=rfl
theorem aEd(es:List D):D.flat (.sl false es)=true:=rfl
theorem Yl(n o:Nat):D.flat (.ref n o)=true:=rfl
def vH:List (Nat×List D)→List (List D)→List (List D)
 | [],l=>l
 | (n,c)::r,l=>(vH r l).set n c
theorem nT(l:List (List D)):vH [] l=l:=rfl
theorem mD(n:Nat)(c:List D)(r:List (Nat×List D))(l:List (List D)):vH ((n,c)::r) l=(vH r l).set n c:=rfl
theorem oB {P:Program} {α:Type} {n:Nat} {l l2:List (Nat×Slot)} {loc obj:List (List D)} (F:α→List (Nat×Slot))(M N:α→List (Nat×List D))(W:List Nat)(p:α→Prop)(m:α→Nat)(x0:α) {body:Code} {Q:Exit→St→Prop}
  (hl:bX W l=l2) (hF:rX (vH (M x0) loc).length (cQ l) (F x0++l2)) (hG:vH (M x0) loc=loc) (hH:vH (N x0) obj=obj) (hp:p x0)
  (h:∀x,p x→dO rr dfr P body (xG (fun x=>St.mk' n (F x++l2) (vH (M x) loc) (vH (N x) obj)) p m x Q) (St.mk' n (F x++l2) (vH (M x) loc) (vH (N x) obj))):dO rr dfr P (.loop body) Q (St.mk' n l loc obj):=
 jR F (fun x=>vH (M x) loc) (fun x=>vH (N x) obj) W p m x0 hl hF hG hH hp h
theorem Ry {α:Type} (l:List α)(a:α):(l++ [a])[l.length]?=some a:=by simp
theorem jZ {α:Type} (l:List α)(a b:α):(l++ [a]).set l.length b=l++ [b]:=by simp
def qM:List Nat→List (Nat×Slot)→List (Nat×Slot)
 | [],_=> []
 | t::r,l=>(t,cQ l t)::qM r l
theorem Ea(l:List (Nat×Slot)):qM [] l= []:=rfl
theorem sP(t:Nat)(r:List Nat)(l:List (Nat×Slot)):qM (t::r) l=(t,cQ l t)::qM r l:=rfl
theorem wQ(l:List (Nat×Slot))(u:Nat):∀K:List Nat,cQ (qM K l) u=cQ l u∨cQ (qM K l) u= .any
 | []=> .inr rfl
 | t::r=>by
  rw [sP,mT];split
  ·rename_i h;subst h;exact .inl rfl
  exact wQ l u r
theorem aCc {P:Program} (K:List Nat) {l2:List (Nat×Slot)} {c:Code} {n:Nat} {l:List (Nat×Slot)} {loc obj:List (List D)} {Q:Exit→St→Prop} (hl:qM K l=l2)(h:dO rr dfr P c Q (St.mk' n l2 loc obj)):dO rr dfr P c Q (St.mk' n l loc obj):=by
 subst hl;intro w0 g0 w g tmps hf hok hn;refine h w0 g0 w g tmps hf ⟨hok.mem,hok.xlt,fun t=>?_,hok.ll,hok.loc,hok.ol,hok.obj⟩ hn;have hs:=hok.slot t;show SlotOk w g t (cQ (qM K l) t) _
 rcases wQ l t K with e | e
 ·rw [e];exact hs
 rw [e];exact⟨.any _,.flat _ _ _ rfl⟩
theorem kR {P:Program} (ts k:Nat) {es:List D} {c:Code} {n:Nat} {l:List (Nat×Slot)} {loc obj:List (List D)} {Q:Exit→St→Prop} (hs:cQ l ts= .d (.xs k es))(hk0:0<k)
  (h:∀(cap:Nat) (rest:List D),es.length≤cap→cap≤maxLen→rest.length=(cap - es.length) * k→0<k→(∀d∈es,d.ncells=k∧d.arr=true)→dO rr dfr P c Q (St.mk' n ((ts,.d (.slo obj.length 0 es.length cap))::l) loc (obj++ [es.flatMap D.cells++rest]))):dO rr dfr P c Q (St.mk' n l loc obj):=by
 intro w0 g0 w g tmps hf hok hn;obtain⟨cap,rest,g',a1,a2,a3,a4,a5,_,hfr,hok'⟩:=hok.openX ts k es hs hk0;exact h cap rest a1 a2 a3 a4 a5 w0 g0 w g' tmps (hf.trans hfr) hok' hn
theorem gE {P:Program} (ts k:Nat) {es:List D} {c:Code} {n:Nat} {l:List (Nat×Slot)} {loc obj:List (List D)} {Q:Exit→St→Prop} (hs:cQ l ts= .d (.xs k es))(hk0:0<k)
  (h:∀(cap:Nat) (rest:List D),es.length≤cap→cap≤maxLen→rest=List.replicate ((cap - es.length) * k) .any→0<k→(∀d∈es,d.ncells=k∧d.arr=true)→dO rr dfr P c Q (St.mk' n ((ts,.d (.slo obj.length 0 es.length cap))::l) loc (obj++ [es.flatMap D.cells++rest]))):dO rr dfr P c Q (St.mk' n l loc obj):=by
 intro w0 g0 w g tmps hf hok hn;obtain⟨cap,rest,g',a1,a2,a3,a4,a5,_,hfr,hok'⟩:=hok.openX2 ts k es hs hk0;exact h cap rest a1 a2 a3 a4 a5 w0 g0 w g' tmps (hf.trans hfr) hok' hn
theorem cV {P:Program} (ts k m len cap:Nat)(es cs:List D) {c:Code} {n:Nat} {l:List (Nat×Slot)} {loc obj:List (List D)} {Q:Exit→St→Prop} (hs:cQ l ts= .d (.slo m 0 len cap))(hm:obj[m]?=some cs)(hk:0<k)(hcs:cs.length=cap * k)(hl:es.length=len)
  (hes:∀d∈es,d.ncells=k∧d.arr=true) (he:es.flatMap D.cells<+:cs) (h:dO rr dfr P c Q (St.mk' n ((ts,.d (.xs k es))::l) loc (obj.set m []))):dO rr dfr P c Q (St.mk' n l loc obj):=by
 intro w0 g0 w g tmps hf hok hn;obtain⟨g',_,hfr,hok'⟩:=hok.closeX ts k m len cap es cs hs hm hk hcs hl hes he;exact h w0 g0 w g' tmps (hf.trans hfr) hok' hn
theorem Xg {α:Type} (f:α→D)(l:List α)(k:Nat)(h:k<l.length):(l.map f).getD k .any=f l[k]:=by
 simp [List.getD,h]
theorem Bu {α:Type} (f:α→D)(l:List α)(k:Nat)(h:k<l.length):(l.map f)[k]?=some (f l[k]):=by
 simp [h]
theorem aDx(n:Int):Vv .i64 n=(-9223372036854775808≤n∧n≤9223372036854775807):=by
 unfold Vv;rfl
theorem aJh(n:Int):Vv .u8 n=(0≤n∧n≤255):=by
 unfold Vv;rfl
end
theorem aAa:Fh []=true:=rfl
theorem Uc(r:List (Option Holder)):Fh (none::r)=Fh r:=by simp [Fh]
theorem Sf(h:Holder)(r:List (Option Holder)):Fh (some h::r)=(!r.contains (some h) && Fh r):=by
 simp only [Fh,List.filterMap_cons,id,List.nodup_cons,Bool.decide_and,List.contains_eq_mem];congr 1;rw [← decide_not];congr 1;simp [List.mem_filterMap]
theorem Tw:maxLen=9223372036854775807:=rfl
theorem aEh(n:Nat)(l:List (Nat×Slot))(loc obj:List (List D)):({ n:=n,env:=cQ l,loc:=loc,obj:=obj } :St)=St.mk' n l loc obj:=rfl
def vN:Slot→Slot
 | .d x=> .d x.strip
 | s=>s
def kD:List Nat→List (Nat×Slot)→List (Nat×Slot)
 | [],l=>l
 | t::r,l=>(t,vN (cQ l t))::kD r l
theorem wW(l:List (Nat×Slot))(u:Nat):∀ts:List Nat,cQ (kD ts l) u=if u∈ts then vN (cQ l u)else cQ l u
 | []=>by simp [kD]
 | t::r=>by
  rw [kD,mT,wW l u r];by_cases h:u=t
  ·subst h;simp
  simp [h]
theorem lK(l:List (Nat×Slot))(ts:List (Option Nat)):eK ts (cQ l)=cQ (kD (ts.filterMap id) l):=by
 funext u;rw [wW];by_cases h:some u∈ts
 ·have h1:ts.contains (some u)=true:=by simpa using h
  have h2:u∈ts.filterMap id:=by simpa using h
  simp only [eK,h1,if_true,if_pos h2,vN];split <;> simp_all
 have h1:ts.contains (some u)=false:=by simpa using h
 have h2:¬u∈ts.filterMap id:=by simpa using h
 simp only [eK,h1,if_neg h2];rfl
theorem Oj {P:Program} {d:Nat} {f:FuncId} {args:List Operand} {n:Nat} {l:List (Nat×Slot)} {loc obj:List (List D)} {K:St→Prop} :kB P (some d) f args (St.mk' n l loc obj) K=
  ((args.filterMap bP).Nodup∧(∀x∈args,sB ((St.mk' n l loc obj).rdS x)=true∧((St.mk' n l loc obj).rd x).plain=true)∧
   Ct P f (args.map (pO (St.mk' n l loc obj))) obj (fun r σ'=>K (St.mk' n ((d,.d r)::kD (args.filterMap bP) l) loc σ'))):=by
 unfold kB;have e:(args.map bP).filterMap id=args.filterMap bP:=by rw [List.filterMap_map];rfl
 simp only [yB,yH,yA,Px,lK,e];rfl
theorem Hx(l:List (Nat×Slot)):kD [] l=l:=rfl
theorem Gk(t:Nat)(r:List Nat)(l:List (Nat×Slot)):kD (t::r) l=(t,vN (cQ l t))::kD r l:=rfl
theorem aCp(x:D):vN (.d x)= .d x.strip:=rfl
theorem Iq(a b:Nat):vN (.lref a b)= .lref a b:=rfl
theorem Rr:List.filterMap bP []= []:=rfl
theorem Re(t:Tmp)(r:List Operand):List.filterMap bP (.tmp t::r)=t::List.filterMap bP r:=rfl
theorem Ka(v:Value)(r:List Operand):List.filterMap bP (.const v::r)=List.filterMap bP r:=rfl
theorem Nq(v:FuncId)(r:List Operand):List.filterMap bP (.func v::r)=List.filterMap bP r:=rfl
theorem Ft {P:Program} {c:Cfg} {d:Nat} {f:FuncId} {args:Array Operand} {ts:Array TypeId} {n:Nat} {l:List (Nat×Slot)} {loc obj:List (List D)} {K:St→Prop} :
  sK P c (some d) (.call ⟨.value (.func f),args,ts⟩) .pureT (St.mk' n l loc obj) K=
  ((args.toList.filterMap bP).Nodup∧(∀x∈args.toList,sB ((St.mk' n l loc obj).rdS x)=true∧((St.mk' n l loc obj).rd x).plain=true)∧
   ∃r,(∀σ,Ct P f (args.toList.map (pO (St.mk' n l loc obj))) σ fun r' σ'=>r'=r∧σ'=σ)∧K (St.mk' n ((d,.d r)::kD (args.toList.filterMap bP) l) loc obj)):=by
 have e:(args.toList.map bP).filterMap id=args.toList.filterMap bP:=by rw [List.filterMap_map];rfl
 simp only [sK,yB,yH,yA,Px,lK,e];rfl
theorem Jd {P:Program} {c:Cfg} {d:Nat} {f:FuncId} {args:Array Operand} {ts:Array TypeId} {n:Nat} {l:List (Nat×Slot)} {loc obj:List (List D)} {K:St→Prop} :
  sK P c (some d) (.call ⟨.value (.func f),args,ts⟩) .detT (St.mk' n l loc obj) K=
  ((args.toList.filterMap bP).Nodup∧(∀x∈args.toList,sB ((St.mk' n l loc obj).rdS x)=true∧((St.mk' n l loc obj).rd x).plain=true)∧
   ∃r σ0,(Ct P f (args.toList.map (pO (St.mk' n l loc obj))) obj fun r' σ'=>r'=r∧σ'=σ0)∧K (St.mk' n ((d,.d r)::kD (args.toList.filterMap bP) l) loc σ0)):=by
 have e:(args.toList.map bP).filterMap id=args.toList.filterMap bP:=by rw [List.filterMap_map];rfl
 simp only [sK,yB,yH,yA,Px,lK,e];rfl
theorem aIj {P:Program} {c:Cfg} {d:Option Tmp} {op:Op} {f:Fl} {st:St} {K:St→Prop} :sK P c d op (.op f) st K=(gX op=false∧kG c d st op=f∧fG P c d op st K):=rfl
theorem aB4 {P:Program} {c:Cfg} {d:Option Tmp} {f:FuncId} {args:Array Operand} {ts:Array TypeId} {st:St} {K:St→Prop} :sK P c d (.call ⟨.value (.func f),args,ts⟩) .pure st K=
  (iD args.toList st∧∃r,(∀σ,Ct P f (eF args.toList st) σ fun r' σ'=>r'=r∧σ'=σ)∧K (st.put d (.d r))):=rfl
def aKg(P:Program)(dst:Option Tmp)(d:D)(args:List Operand)(st:St)(K:St→Prop):Prop:=match d with
 | .clo (.func fid) first caps=>(∀d∈first++caps,d.plain=true)∧iD args st∧∃r,(∀σ,Ct P fid (first.map D.strip++eF args st++caps.map D.strip) σ fun r' σ'=>r'=r∧σ'=σ)∧K (st.put dst (.d r))
 | _=>False
theorem Uz {P:Program} {c:Cfg} {d:Option Tmp} {f:Operand} {args:Array Operand} {ts:Array TypeId} {st:St} {K:St→Prop} :sK P c d (.call ⟨.value f,args,ts⟩) .pureC st K=aKg P d (st.rd f) args.toList st K:=rfl
theorem aDj {P:Program} {dst:Option Tmp} {fid:FuncId} {first caps:List D} {args:List Operand} {st:St} {K:St→Prop} :aKg P dst (.clo (.func fid) first caps) args st K=((∀d∈first++caps,d.plain=true)∧iD args st∧∃r,(∀σ,Ct P fid (first.map D.strip++eF args st++caps.map D.strip) σ fun r' σ'=>r'=r∧σ'=σ)∧K (st.put dst (.d r))):=rfl
theorem aCh {P:Program} {c:Cfg} {d:Option Tmp} {f:FuncId} {args:Array Operand} {ts:Array TypeId} {st:St} {K:St→Prop} :sK P c d (.call ⟨.value (.func f),args,ts⟩) .read st K=
  (iD args.toList st∧∃r,(Ct P f (eF args.toList st) st.obj fun r' σ'=>r'=r∧σ'=st.obj)∧K (st.put d (.d r))):=rfl
theorem aHd {P:Program} {c:Cfg} {d:Option Tmp} {f:FuncId} {args:Array Operand} {ts:Array TypeId} {st:St} {K:St→Prop} :sK P c d (.call ⟨.value (.func f),args,ts⟩) .nd st K=
  ∃Q,(iD args.toList st∧Ct P f (eF args.toList st) st.obj Q∧∃r σ0,Q r σ0)∧∀r σ0,Q r σ0→K (({ st with obj:=σ0 } :St).put d (.d r)):=rfl
theorem Vi {P:Program} {c:Cfg} {d:Option Tmp} {f:FuncId} {args:Array Operand} {ts:Array TypeId} {st:St} {K:St→Prop} :sK P c d (.call ⟨.value (.func f),args,ts⟩) .readT st K=
  (iD args.toList st∧∃r,(∀J,Ct P f (eF args.toList st) (st.obj++J) fun r' σ'=>r'=r∧σ'=st.obj++J)∧K (st.put d (.d r))):=rfl
theorem aA3 {P:Program} {c:Cfg} {d:Option Tmp} {f:FuncId} {args:Array Operand} {ts:Array TypeId} {st:St} {K:St→Prop} :sK P c d (.call ⟨.value (.func f),args,ts⟩) .detA st K=
  (iD args.toList st∧∃r J,(Ct P f (eF args.toList st) st.obj fun r' σ'=>r'=r∧σ'=st.obj++J)∧K (({ st with obj:=st.obj++J } :St).put d (.d r))):=rfl
theorem aGf {P:Program} {c:Cfg} {d:Option Tmp} {f:FuncId} {args:Array Operand} {ts:Array TypeId} {st:St} {K:St→Prop} :sK P c d (.call ⟨.value (.func f),args,ts⟩) .det st K=
  (iD args.toList st∧∃r σ0,(Ct P f (eF args.toList st) st.obj fun r' σ'=>r'=r∧σ'=σ0)∧K (({ st with obj:=σ0 } :St).put d (.d r))):=rfl
theorem aFz {P:Program} {t:Nat} {a b:Code} {s:Slot} {n:Nat} {l:List (Nat×Slot)} {loc obj:List (List D)} {Q:Exit→St→Prop} (hs:cQ l t=s)
  (h:sX s.toD (dO rr dfr P a Q (St.mk' n ((t,.d (.bool true))::l) loc obj)) (dO rr dfr P b Q (St.mk' n ((t,.d (.bool false))::l) loc obj))):dO rr dfr P (.cond (.tmp t) a b) Q (St.mk' n l loc obj):=by
 unfold sX at h;split at h
 ·rename_i v hv;have hs':cQ l t= .d (.v (.bool v)):=by
   rw [hs];cases s with
   | d d=>simp only [Slot.toD] at hv;rw [hv]
   | lref n o=>simp [Slot.toD] at hv
  rw [yT hs'];cases v with
  | true=>exact bM (t:=true) (by simp [St.rd,St.rdS,mT,St.mk']) (fun _=>h.1 rfl) (fun h=>by cases h)
  | false=>exact bM (t:=false) (by simp [St.rd,St.rdS,mT,St.mk']) (fun h=>by cases h) (fun _=>h.2 rfl)
 exact h.elim
def mJ (o : Oper) : Oper := ⟨o.dst, o.op, 0, "", #[], o.guard⟩
theorem lB:List.map mJ []= []:=rfl
theorem jV (d : Option Tmp) (op : Op) (ty : TypeId) (pos : String) (after : Array Edge) (g : Option (Nat × Bool)) (r : List Oper) : List.map mJ (⟨d, op, ty, pos, after, g⟩ :: r) = ⟨d, op, 0, "", #[], g⟩ :: List.map mJ r := rfl
theorem Af {P:Program} {c:Cfg} {all:List Oper} {K:St→Prop} :∀(r:List Oper) (st:St),lH P c all (r.map mJ) st K=lH P c all r st K
 | [],_=>rfl
 | o :: r, st => by
  have ih:(fun st'=>lH P c all (r.map mJ) st' K)=fun st'=>lH P c all r st' K:=funext fun st'=>Af r st';show lH P c all (mJ o::r.map mJ) st K=_
  unfold lH;simp only [mJ,ih];split
  ·rfl
  split
  ·split
   ·rw [Af r];rfl
   rfl
  rfl
theorem vO {P:Program} {c:Cfg} {all:List Oper} {K:St→Prop} :∀(r:List Oper) (ks:List DK) (st:St),gY P c all (r.map mJ) ks st K=gY P c all r ks st K
 | [],_,_=>rfl
 | _::_, [],_=>rfl
 | o :: r, k :: ks, st => by
  have ih:(fun st'=>gY P c all (r.map mJ) ks st' K)=fun st'=>gY P c all r ks st' K:=funext fun st'=>vO r ks st';show gY P c all (mJ o::r.map mJ) (k::ks) st K=_
  unfold gY;simp only [mJ,ih];congr 1;split
  ·rfl
  split
  ·split
   ·rw [vO r]
   rfl
  rfl
theorem nC {P:Program} {c:Cfg} {id:Nat} {ops ops':List Oper} {Q:Exit→St→Prop} {st:St} (he:ops.map mJ=ops')(h:∀all:List Oper,(∀j,aR all j=aR ops j)→∀K:St→Prop,(∀s,Q .normal s→K s)→lH P c all ops' st K):dO rr dfr P (.region id ops.toArray false) Q st:=
 Nc fun K hK=>by
  have:=h ops (fun _=>rfl) K hK
  rwa [← he,Af] at this
theorem Dc {P:Program} {c:Cfg} {id:Nat} {ops ops':List Oper} (ks:List DK) {Q:Exit→St→Prop} {st:St} (hm:P.follows .mixedOrders=true)(hok:Bj c ops ks=true)(he:ops.map mJ=ops')
  (h:∀all:List Oper,(∀j,aR all j=aR ops j)→∀K:St→Prop,(∀s,Q .normal s→K s)→gY P c all ops' ks st K):dO rr dfr P (.region id ops.toArray true) Q st:=
 Xd ks hm hok fun K hK=>by
  have:=h ops (fun _=>rfl) K hK
  rwa [← he,vO] at this
def Md:D→Prop
 | .v (.slice none 0 0)=>True
 | _=>False
def Bt(x y:D):Prop:=y=x∨(x.plain=true∧y=x.strip)∨(Md x∧(y= .sl false []∨y= .sl true []))
theorem Lf:Md (.v (.slice none 0 0))=True:=rfl
def jN:List D→List D→Prop
 | [], []=>True
 | a::r,b::q=>Bt a b∧jN r q
 | _,_=>False
theorem eW {a b:List D} (h:a=b):jN a b:=by
 subst h;induction a with
 | nil=>trivial
 | cons x r ih=>exact⟨.inl rfl,ih⟩
theorem Ak:∀ {a b:List D},jN a b→a.length=b.length
 | [], [],_=>rfl
 | _::_,_::_,h=>by simp [Ak h.2]
 | [],_::_,h=>h.elim
 | _::_, [],h=>h.elim
theorem Bm:∀ {a b:List D},jN a b→∀(i:Nat) (y:D),b[i]?=some y→∃x,a[i]?=some x∧Bt x y
 | x::_,_::_,h,0,y,hy=>by simp at hy;subst hy;exact⟨x,rfl,h.1⟩
 | _::_,_::_,h,i+1,y,hy=>by simpa using Bm h.2 i y (by simpa using hy)
 | [], [],_,_,_,hy=>by simp at hy
 | [],_::_,h,_,_,_=>h.elim
 | _::_, [],h,_,_,_=>h.elim
theorem Ct.of_le {P:Program} {f:FuncId} {a a':List D} {σ σ':List (List D)} {Q:D→List (List D)→Prop} (h:Ct P f a σ Q)(e:jN a' a)(e2:σ'=σ):Ct P f a' σ' Q:=by
 subst e2;refine⟨h.1,fun w g vs hs hb ho=>h.2 w g vs (by rw [hs,Ak e]) hb ⟨ho.mem,ho.xlt,fun t=>?_,ho.ll,ho.loc,ho.ol,ho.obj⟩⟩;have hsl:=ho.slot t;simp only [St.ofArgs] at hsl ⊢;unfold eA at hsl ⊢;cases hy:a[t]? with
 | none=>exact⟨.any _,.flat _ _ _ rfl⟩
 | some y =>
  obtain⟨x,hx,hle⟩:=Bm e t y hy;rw [hx] at hsl;rcases hle with rfl | ⟨hp,rfl⟩ | ⟨hn,hy⟩
  ·exact hsl
  ·exact lX hsl.1 hp t
  have hxn:x= .v (.slice none 0 0):=by
   unfold Md at hn;split at hn
   ·rfl
   exact hn.elim
  subst hxn;obtain⟨hr,_⟩:=hsl;have hv:=hr.vEq;rcases hy with rfl | rfl
  ·exact⟨by rw [hv];exact .nil _,.flat _ _ _ rfl⟩
  exact⟨by rw [hv];exact .nil _,.sl _ _ _ (.inl ⟨_,_,hv⟩)⟩
theorem tE:∀(sets:List (Nat×Slot)) (l:List (Nat×Slot)),dX sets (cQ l)=cQ (sets.reverseAux l)
 | [],l=>rfl
 | (a,s)::r,l=>by
  show dX r (fun u=>if u=a then s else cQ l u)=_
  have:(fun u=>if u=a then s else cQ l u)=cQ ((a,s)::l):=by funext u;rw [mT]
  rw [this,tE r];rfl
theorem aJo(n:Nat)(l:List (Nat×Slot))(loc obj:List (List D))(sets:List (Nat×Slot))(ob:Option (List (List D))):(St.mk' n l loc obj).upd ⟨sets,none,ob⟩=St.mk' n (sets.reverseAux l) loc (ob.getD obj):=by
 show({ n:=n,env:=dX sets (cQ l),loc:=loc,obj:=ob.getD obj } :St)=_
 rw [tE];rfl
theorem Ml(l:List (Nat×Slot)):List.reverseAux [] l=l:=rfl
theorem Ip(a:Nat×Slot)(r l:List (Nat×Slot)):List.reverseAux (a::r) l=List.reverseAux r (a::l):=rfl
def Vu(R:jG)(K:List (Nat×Slot)→Option (List (List D))→Prop):Prop:=∃sets ob,R sets ob∧K sets ob
@[congr] theorem aMh {R R':jG} {K:List (Nat×Slot)→Option (List (List D))→Prop} (h:R=R'):Vu R K=Vu R' K:=by rw [h]
theorem aIx {P:Program} {alt:Bool} {dst:Option Tmp} {op:Op} {st:St} {K:St→Prop} :vcY P alt dst op st K=Vu (fun sets ob=>yR P alt dst op st.rdS (if(flY alt op).rO=true then st.obj else []) sets ob) (fun sets ob=>K (st.upd ⟨sets,none,ob⟩)):=rfl
theorem aIq {S:List (Nat×Slot)} {O:Option (List (List D))} {K:List (Nat×Slot)→Option (List (List D))→Prop} :Vu (fun sets ob=>sets=S∧ob=O) K=K S O:=by
 apply propext;constructor
 ·rintro⟨_,_,⟨rfl,rfl⟩,h⟩;exact h
 intro h;exact⟨_,_,⟨rfl,rfl⟩,h⟩
theorem aD0 {C:Prop} {R:jG} {K:List (Nat×Slot)→Option (List (List D))→Prop} :Vu (fun sets ob=>C∧R sets ob) K=(C∧Vu (fun sets ob=>R sets ob) K):=by
 apply propext;constructor
 ·rintro⟨_,_,⟨h1,h2⟩,h⟩;exact⟨h1,_,_,h2,h⟩
 rintro⟨h1,_,_,h2,h⟩;exact⟨_,_,⟨h1,h2⟩,h⟩
theorem aHz {α:Type} {R:α→jG} {K:List (Nat×Slot)→Option (List (List D))→Prop} :Vu (fun sets ob=>∃x,R x sets ob) K=∃x,Vu (fun sets ob=>R x sets ob) K:=by
 apply propext;constructor
 ·rintro⟨_,_,⟨x,h2⟩,h⟩;exact⟨x,_,_,h2,h⟩
 rintro⟨x,_,_,h2,h⟩;exact⟨_,_,⟨x,h2⟩,h⟩
theorem aJu {R S:jG} {K:List (Nat×Slot)→Option (List (List D))→Prop} :Vu (fun sets ob=>R sets ob∨S sets ob) K=(Vu (fun sets ob=>R sets ob) K∨Vu (fun sets ob=>S sets ob) K):=by
 apply propext;constructor
 ·rintro⟨_,_,h1 | h1,h⟩
  ·exact .inl ⟨_,_,h1,h⟩
  exact .inr ⟨_,_,h1,h⟩
 rintro(⟨_,_,h1,h⟩ | ⟨_,_,h1,h⟩)
 ·exact⟨_,_,.inl h1,h⟩
 exact⟨_,_,.inr h1,h⟩
theorem aJ8 {K:List (Nat×Slot)→Option (List (List D))→Prop} :Vu (fun _ _=>False) K=False:=by
 apply propext;exact⟨fun⟨_,_,h,_⟩=>h,False.elim⟩
attribute [simp] aIx aIq aD0 aHz aJu aJ8
attribute [simp] aJo Ml Ip isY wC Ff yR yA1 yA2 wK Cn Us Ug rE Ed Um flY Km uQ aCx Lf oG oW rH Bo mQ wJ rQ wG rN Eb Dp nW Bool.true_or Bool.false_or
theorem Uq(cs:List D):D.strip (.tup cs)= .tup (cs.map D.s2):=rfl
attribute [simp] Uq D.plain
theorem aIo(n:Nat)(cs:List D):qZ true n cs=if n≤cs.length then some (.agg (cs.take n))else none:=rfl
theorem aJp(n:Nat)(cs:List D):qZ false n cs=cs.head?:=rfl
theorem aT(cs:List D)(off:Nat)(ds:List D):cW cs off ds=cs.take off++ds++cs.drop (off+ds.length):=rfl
attribute [simp low] aIo aJp aT
attribute [simp] Ft Jd aIj aB4 Uz aDj aCh aGf Vi aA3 aHd
attribute [simp] Ru Wl aCv aH0 aLg aKs aH6 aG9 aKf aJ3 aJf Vo Zh aC5 Td aC9 aBi Ov Uu Vg Ul aBa aA1 aKb aJa aGj aI8 aEd Yl Ry jZ nT mD Oj Hx Gk aCp Iq Rr Re Ka Nq
attribute [simp] aEh List.getElem?_cons_zero Option.bind_some Px yB yH yA vX vF aDr aCj aBs Wt aBw Ps Tq Ys aJv aA8 rM aKj Zs
 aGk Vx Oi aE1 aE6 aF8 Wg Tc Rh Tx Rm Vb aNl aK5 aI0 aHq aHh aJg aMx aKw aH9 aJt aIy
 aEz Xr Vq Sq Sa Tz Ux aDy Zv Rz Rf Ua Rv Yf Si Np Mr aGd aB6 Rd Su
 dV aDo Zi Yx Vc aHw aEq aC0 aAe aFj aCd aAr aI4 aJi aJd aIm Rt aJq aI1 aF0 aA2 Xt aN fG Gm aF7 cN Uh uX gO mK nX kP fA flX rF zA Kh gD pL xS aFd xE xZ gN fV iQ pC iJ pF oX eI kM Gq pB kQ
 nG xL rG oK gP jU mB Ao mO pR iE iD eF pO sB Cv St.cellsAt St.park Slot.plus Slot.isAddr Qt D.ofList
 Ss Ln aD2 aKr aDu Zu bX Xg Bu aDx aJh Zd gX kG fY yV Ax uW aAa Uc Sf Tw
end Go.Vm
