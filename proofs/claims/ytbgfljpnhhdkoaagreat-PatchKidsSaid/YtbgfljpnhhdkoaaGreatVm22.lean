import Derived.Test.YtbgfljpnhhdkoaaGreatVm21
namespace Go.Vm
open Go
set_option linter.all false
variable {rr:Option Nat} {dfr:List Deferred}
section
variable {P:Program}
theorem aA {y:Code} {Q:Exit→St→Prop} {s:St} (h:dH rr dfr P y Q s):Qc rr dfr P y Q .normal s:=h
theorem aX {y:Code} {Q:Exit→St→Prop} {s:St} {i:Nat} (h:Q (.exit i) s):Qc rr dfr P y Q (.exit i) s:=h
theorem aI {y:Code} {Q:Exit→St→Prop} {s:St} (h:Q .ret s):Qc rr dfr P y Q .ret s:=h
theorem aH {i:Nat} {Q:Exit→St→Prop} {s:St} (h:Q .normal s):vP i Q .normal s:=h
theorem aR {i:Nat} {Q:Exit→St→Prop} {s:St} (h:Q .normal s):vP i Q (.exit i) s:=by simpa [vP] using h
theorem aP {i:Nat} {Q:Exit→St→Prop} {s:St} (h:Q .ret s):vP i Q .ret s:=h
theorem aZ {α:Type} {S:α→St} {p:α→Prop} {m:α→Nat} {x:α} {Q:Exit→St→Prop} {s:St} {i:Nat} (h:Q (.exit i) s):tX S p m x Q (.exit i) s:=h
theorem dF {α:Type} {S:α→St} {p:α→Prop} {m:α→Nat} {x:α} {Q:Exit→St→Prop} {s:St} (h:Q .ret s):tX S p m x Q .ret s:=h
def sW(d:D)(A B:Prop):Prop:=match d with
 | .v (.bool t)=>(t=true→A)∧(t=false→B)
 | _=>False
theorem aE {c:Cfg} {all r:List Oper} {d:Option Tmp} {op:Op} {ty:TypeId} {pos:String} {after:Array Edge} {st:St} {K:St→Prop} (h:∀K':St→Prop,(∀s,lI P c all r s K→K' s)→Jj d st∧fD P c d op st K'):lI P c all (⟨d,op,ty,pos,after,none⟩::r) st K:=
 h _ fun _ h=>h
theorem bZ {c:Cfg} {all:List Oper} (n:Nat) {r:List Oper} {st:St} {K:St→Prop} (h:∀K':St→Prop,(∀s,lI P c all (r.drop n) s K→K' s)→lI P c all (r.take n) st K'):lI P c all r st K:=by
 have go:∀(n:Nat) (r:List Oper) (st:St),lI P c all (r.take n) st (fun s=>lI P c all (r.drop n) s K)→lI P c all r st K:=by
  intro n;induction n with
  | zero=>intro r st h;exact h
  | succ n ih =>
   intro r st h;cases r with
   | nil=>exact h
   | cons o r =>
    simp only [List.take_succ_cons,List.drop_succ_cons] at h;unfold lI at h ⊢;split at h
    ·rename_i hg;have hd:=h.1;refine⟨hd,?_⟩;exact sJ (fun s hs=>ih r s hs) h.2
    rename_i j want hg;split at h
    ·split at h
     ·exact⟨fun hb=>⟨(h.1 hb).1,sJ (fun s hs=>ih r s hs) (h.1 hb).2⟩,fun hb=>⟨(h.2 hb).1,ih r _ (h.2 hb).2⟩⟩
     exact h.elim
    exact h.elim
 exact go n r st (h _ fun _ h=>h)
theorem aKg {c:Cfg} {all r:List Oper} {d:Option Tmp} {op:Op} {ty:TypeId} {pos:String} {after:Array Edge} {j t:Nat} {b want:Bool} {st:St} {K:St→Prop} (hg:aO all j=some t)(hs:st.env t= .d (.v (.bool b)))
  (h1:b=want→∀K':St→Prop,(∀s,lI P c all r s K→K' s)→Jj d st∧fD P c d op st K') (h2:b= !want→Jj d st∧lI P c all r (st.put d .und) K):lI P c all (⟨d,op,ty,pos,after,some (j,want)⟩::r) st K:=by
 rw [Cu];simp only [hg,hs];exact⟨fun hb=>h1 hb _ fun _ h=>h,h2⟩
theorem aIo {c:Cfg} {all r:List Oper} {d:Option Tmp} {op:Op} {ty:TypeId} {pos:String} {after:Array Edge} {j t:Nat} {b want:Bool} {st:St} {K:St→Prop} (hg:aO all j=some t)(hs:st.env t= .d (.v (.bool b)))(hb:b=want)
  (h1:∀K':St→Prop,(∀s,lI P c all r s K→K' s)→Jj d st∧fD P c d op st K'):lI P c all (⟨d,op,ty,pos,after,some (j,want)⟩::r) st K:=
 aKg hg hs (fun _=>h1) fun h=>(by rw [hb] at h;cases want <;> cases h)
theorem Bb {n t:Nat} {l:List (Nat×Slot)} {loc obj:List (List D)} {b:Bool} (hs:cM l t= .d (.v (.bool b))):St.mk' n l loc obj=St.mk' n ((t,.d (.bool b))::l) loc obj:=by
 unfold St.mk';congr 1;funext u;simp only [cM];split
 ·rename_i e;rw [e,hs]
 rfl
theorem aS {c:Cfg} {all r:List Oper} {n:Nat} {l:List (Nat×Slot)} {loc obj:List (List D)} {K:St→Prop} (t:Nat) {s:Slot} (hs:cM l t=s)
  (h:sW s.toD (lI P c all r (St.mk' n ((t,.d (.bool true))::l) loc obj) K) (lI P c all r (St.mk' n ((t,.d (.bool false))::l) loc obj) K)):lI P c all r (St.mk' n l loc obj) K:=by
 unfold sW at h;split at h
 ·rename_i b hb;have hs':cM l t= .d (.v (.bool b)):=by
   rw [hs];cases s with
   | d d=>simp only [Slot.toD] at hb;rw [hb]
   | lref n o=>simp [Slot.toD] at hb
  rw [Bb hs'];cases b
  ·exact h.2 rfl
  exact h.1 rfl
 exact h.elim
def aJg(P:Program)(c:Cfg)(all r:List Oper)(K:St→Prop):St→Prop:=fun st=>lI P c all r st K
theorem aDq {c:Cfg} {all r:List Oper} {K:St→Prop} {st:St} :aJg P c all r K st=lI P c all r st K:=rfl
theorem aEv {c:Cfg} {all r:List Oper} {d:Option Tmp} {op:Op} {ty:TypeId} {pos:String} {after:Array Edge} {st:St} {K:St→Prop} :lI P c all (⟨d,op,ty,pos,after,none⟩::r) st K=(Jj d st∧fD P c d op st (aJg P c all r K)):=rfl
def Yx(P:Program)(c:Cfg)(all r:List Oper)(ks:List DK)(K:St→Prop):St→Prop:=fun st=>fZ P c all r ks st K
theorem Uh {c:Cfg} {all r:List Oper} {ks:List DK} {K:St→Prop} {st:St} :Yx P c all r ks K st=fZ P c all r ks st K:=rfl
theorem Xd {c:Cfg} {all r:List Oper} {d:Option Tmp} {op:Op} {ty:TypeId} {pos:String} {after:Array Edge} {k:DK} {ks:List DK} {st:St} {K:St→Prop} :fZ P c all (⟨d,op,ty,pos,after,none⟩::r) (k::ks) st K=(Jj d st∧rU P c d op k st (Yx P c all r ks K)):=rfl
@[congr] theorem aK9 {op:BinOp} {t:TypeId} {x y x' y':Slot} {K:D→Prop} (hx:x=x')(hy:y=y'):pH P op t x y K=pH P op t x' y' K:=by rw [hx,hy]
@[congr] theorem aLg {op:BinOp} {k:IntKind} {a b a' b':Int} {K:D→Prop} (hx:a=a')(hy:b=b'):xE op k a b K=xE op k a' b' K:=by rw [hx,hy]
@[congr] theorem aKl {op:BinOp} {a b a' b':ByteArray} {K:D→Prop} (hx:a=a')(hy:b=b'):xJ op a b K=xJ op a' b' K:=by rw [hx,hy]
@[congr] theorem aK2 {t:TypeId} {a b a' b':List D} {K:Bool→Prop} (hx:a=a')(hy:b=b'):tN P t a b K=tN P t a' b' K:=by rw [hx,hy]
@[congr] theorem aL2 {op:UnOp} {x x':D} {K:D→Prop} (hx:x=x'):xZ op x K=xZ op x' K:=by rw [hx]
def sel(b:Bool)(s r:Slot):Slot:=if b=true then s else r
@[congr] theorem aNx {b b':Bool} {s r:Slot} (h:b=b'):sel b s r=sel b' s r:=by rw [h]
theorem Xf {s r:Slot} :sel true s r=s:=rfl
theorem aAr {s r:Slot} :sel false s r=r:=rfl
theorem wA(a:Nat)(s:Slot)(r:List (Nat×Slot))(t:Nat):cM ((a,s)::r) t=sel (t==a) s (cM r t):=by
 simp only [cM,sel,beq_iff_eq]
def gv3(s:Slot)(want:Bool):Option Bool:=xW s want
def gv2(o:Option Tmp)(st:St)(want:Bool):Option Bool:=match o with
 | some t=>gv3 (st.env t) want
 | none=>none
@[congr] theorem aMp {o o':Option Tmp} {st:St} {want:Bool} (h:o=o'):gv2 o st want=gv2 o' st want:=by rw [h]
theorem aCb(t:Tmp)(st:St)(want:Bool):gv2 (some t) st want=gv3 (st.env t) want:=rfl
theorem aB9(b want:Bool):gv3 (.d (.v (.bool b))) want=some b:=rfl
theorem aD3(want:Bool):gv3 (.d (.tup [])) want=some (!want):=rfl
def Zf(all:List Oper)(j:Nat)(st:St)(want:Bool):Option Bool:=match aO all j with
 | some t=>xW (st.env t) want
 | none=>none
theorem aFx(all:List Oper)(j:Nat)(st:St)(want:Bool):Zf all j st want=gv2 (aO all j) st want:=rfl
def Qj(g:Option Bool)(want:Bool)(A B:Prop):Prop:=match g with
 | some b=>(b=want→A)∧(b= !want→B)
 | none=>False
@[congr] theorem aJ4 {g g':Option Bool} {want:Bool} {A B:Prop} (h:g=g'):Qj g want A B=Qj g' want A B:=by rw [h]
theorem aJv {A B:Prop} :Qj (some true) true A B=A:=by simp [Qj]
theorem aJp {A B:Prop} :Qj (some true) false A B=B:=by simp [Qj]
theorem aHw {A B:Prop} :Qj (some false) true A B=B:=by simp [Qj]
theorem aIr {A B:Prop} :Qj (some false) false A B=A:=by simp [Qj]
theorem aHr {c:Cfg} {all r:List Oper} {d:Option Tmp} {op:Op} {ty:TypeId} {pos:String} {after:Array Edge} {j:Nat} {want:Bool} {st:St} {K:St→Prop} :lI P c all (⟨d,op,ty,pos,after,some (j,want)⟩::r) st K=
  Qj (Zf all j st want) want (Jj d st∧fD P c d op st (aJg P c all r K)) (Jj d st∧lI P c all r (st.put d .und) K):=by
 rw [Cu];unfold Zf Qj;split
 ·rename_i t ht;simp only [ht];split
  ·rename_i h;simp [h];exact fun _=>Iff.rfl
  rename_i h;simp [h]
 rename_i h;simp [h]
def Ml(d:D)(A B:Prop):Prop:=match d with
 | .v (.bool t)=>(t=true→A)∧(t=false→B)
 | _=>False
@[congr] theorem aIa {d d':D} {A B:Prop} (h:d=d'):Ml d A B=Ml d' A B:=by rw [h]
theorem aH7 {A B:Prop} :Ml (.v (.bool true)) A B=A:=by simp [Ml]
theorem aJm {A B:Prop} :Ml (.v (.bool false)) A B=B:=by simp [Ml]
theorem Ss {dst:Option Tmp} {c a b:Operand} {st:St} {K:St→Prop} :sM dst c a b st K=Ml (st.rd c) ((st.rd a).plain=true∧K (st.put dst (.d (st.rd a).strip))) ((st.rd b).plain=true∧K (st.put dst (.d (st.rd b).strip))):=rfl
theorem Hy {c:Cfg} {dst:Option Tmp} {op:Op} {k:DK} {st:St} {K K':St→Prop} (hk:∀s,K s→K' s)(h:rU P c dst op k st K):rU P c dst op k st K':=by
 unfold rU at *;cases k with
 | op f=>exact⟨h.1,h.2.1,sJ hk h.2.2⟩
 | pure=>
  simp only at *;split at h
  ·obtain⟨h1,r,h2,h3⟩:=h;exact⟨h1,r,h2,hk _ h3⟩
  exact h
 | pureC =>
  simp only at *;split at h
  ·split at h
   ·rename_i hf;obtain⟨h0,h1,r,h2,h3⟩:=h;exact⟨h0,h1,r,h2,hk _ h3⟩
   exact h.elim
  exact h
 | read=>
  simp only at *;split at h
  ·obtain⟨h1,r,h2,h3⟩:=h;exact⟨h1,r,h2,hk _ h3⟩
  exact h
 | det=>
  simp only at *;split at h
  ·obtain⟨h1,r,σ0,h2,h3⟩:=h;exact⟨h1,r,σ0,h2,hk _ h3⟩
  exact h
 | readT=>
  simp only at *;split at h
  ·obtain⟨h1,r,h2,h3⟩:=h;exact⟨h1,r,h2,hk _ h3⟩
  exact h
 | nd=>
  obtain⟨Q,h1,h2⟩:=h;exact⟨Q,h1,fun r σ0 hq=>hk _ (h2 r σ0 hq)⟩
 | detA=>
  simp only at *;split at h
  ·obtain⟨h1,r,J,h2,h3⟩:=h;exact⟨h1,r,J,h2,hk _ h3⟩
  exact h
 | pureT=>
  simp only at *;split at h
  ·obtain⟨h0,h1,r,h2,h3⟩:=h;exact⟨h0,h1,r,h2,hk _ h3⟩
  exact h
 | detT=>
  simp only at *;split at h
  ·obtain⟨h0,h1,r,σ0,h2,h3⟩:=h;exact⟨h0,h1,r,σ0,h2,hk _ h3⟩
  exact h
theorem zE {c:Cfg} {all:List Oper} {ks:List DK} {st:St} {K:St→Prop} :fZ P c all [] ks st K=K st:=by unfold fZ;rfl
theorem aGf {c:Cfg} {all r:List Oper} {d:Option Tmp} {op:Op} {ty:TypeId} {pos:String} {after:Array Edge} {j:Nat} {want:Bool} {k:DK} {ks:List DK} {st:St} {K:St→Prop} :fZ P c all (⟨d,op,ty,pos,after,some (j,want)⟩::r) (k::ks) st K=
  (Jj d st∧Qj (Zf all j st want) want (rU P c d op k st (Yx P c all r ks K)) (fZ P c all r ks (st.put d .und) K)):=by
 conv=>lhs;unfold fZ
 show(_∧_)=_
 congr 1;simp only;unfold Zf Qj;split
 ·rename_i t ht;simp only [ht];split
  ·rename_i h;simp [h];exact fun _=>Iff.rfl
  rename_i h;simp [h]
 rename_i h;simp [h]
theorem dI {c:Cfg} {all r:List Oper} {d:Option Tmp} {op:Op} {ty:TypeId} {pos:String} {after:Array Edge} {k:DK} {ks:List DK} {st:St} {K:St→Prop} (h:∀K':St→Prop,(∀s,fZ P c all r ks s K→K' s)→Jj d st∧rU P c d op k st K'):fZ P c all (⟨d,op,ty,pos,after,none⟩::r) (k::ks) st K:=
 h _ fun _ h=>h
theorem Ny {c:Cfg} {all:List Oper} (n:Nat) {r:List Oper} {ks:List DK} {st:St} {K:St→Prop} (hks:n≤ks.length)(h:∀K':St→Prop,(∀s,fZ P c all (r.drop n) (ks.drop n) s K→K' s)→fZ P c all (r.take n) (ks.take n) st K'):fZ P c all r ks st K:=by
 have go : ∀ (n : Nat) (r : List Oper) (ks : List DK) (st : St), n ≤ ks.length → fZ P c all (r.take n) (ks.take n) st (fun s => fZ P c all (r.drop n) (ks.drop n) s K) → fZ P c all r ks st K := by
  intro n;induction n with
  | zero=>intro r ks st _ h;simp only [List.take_zero,List.drop_zero,zE] at h;exact h
  | succ n ih =>
   intro r ks st hks h;cases ks with
   | nil=>simp at hks
   | cons k ks =>
    cases r with
    | nil=>simp only [List.take_nil,List.drop_nil,zE] at h ⊢;exact h
    | cons o r =>
     simp only [List.take_succ_cons,List.drop_succ_cons] at h;simp only [List.length_cons] at hks;unfold fZ at h ⊢;refine⟨h.1,?_⟩;have h2:=h.2;split at h2
     ·exact Hy (fun s hs=>ih r ks s (by omega) hs) h2
     split at h2
     ·split at h2
      ·exact⟨fun hb=>Hy (fun s hs=>ih r ks s (by omega) hs) (h2.1 hb),fun hb=>ih r ks _ (by omega) (h2.2 hb)⟩
      exact h2.elim
     exact h2.elim
 exact go n r ks st hks (h _ fun _ h=>h)
theorem aEk {c:Cfg} {all r:List Oper} {d:Option Tmp} {op:Op} {ty:TypeId} {pos:String} {after:Array Edge} {j t:Nat} {b want:Bool} {k:DK} {ks:List DK} {st:St} {K:St→Prop} (hg:aO all j=some t)(hs:st.env t= .d (.v (.bool b)))(hb:b=want)
  (h1:∀K':St→Prop,(∀s,fZ P c all r ks s K→K' s)→Jj d st∧rU P c d op k st K'):fZ P c all (⟨d,op,ty,pos,after,some (j,want)⟩::r) (k::ks) st K:=by
 unfold fZ;refine⟨(h1 _ fun _ h=>h).1,?_⟩;simp only [hg,hs];exact⟨fun _=>(h1 _ fun _ h=>h).2,fun h=>(by rw [hb] at h;cases want <;> cases h)⟩
theorem dU {c:Cfg} {all r:List Oper} {ks:List DK} {n:Nat} {l:List (Nat×Slot)} {loc obj:List (List D)} {K:St→Prop} (t:Nat) {s:Slot} (hs:cM l t=s)
  (h:sW s.toD (fZ P c all r ks (St.mk' n ((t,.d (.bool true))::l) loc obj) K) (fZ P c all r ks (St.mk' n ((t,.d (.bool false))::l) loc obj) K)):fZ P c all r ks (St.mk' n l loc obj) K:=by
 unfold sW at h;split at h
 ·rename_i b hb;have hs':cM l t= .d (.v (.bool b)):=by
   rw [hs];cases s with
   | d d=>simp only [Slot.toD] at hb;rw [hb]
   | lref n o=>simp [Slot.toD] at hb
  rw [Bb hs'];cases b
  ·exact h.2 rfl
  exact h.1 rfl
 exact h.elim
def bY:List Nat→List (Nat×Slot)→List (Nat×Slot)
 | _, []=> []
 | W,(t,s)::r=>if W.contains t then bY W r else(t,s)::bY (t::W) r
theorem aGr(n:Nat)(s:Slot):Cc n s (.d .any)=True:=by
 unfold Cc;split <;> simp_all
theorem aLd(n:Nat)(x:D):Cc n (.d x) (.d x)=True:=by
 cases x with
 | sl o es=>cases o <;> simp [Cc]
 | _=>simp [Cc]
theorem aGw(n:Nat)(es:List D):Cc n (.d (.sl true es)) (.d (.sl false es))=True:=by
 unfold Cc;simp
theorem Xz(n m o:Nat):Cc n (.lref m o) (.lref m o)=(m<n):=by
 unfold Cc;simp
def qV(n:Nat)(env:Nat→Slot):List (Nat×Slot)→Prop
 | []=>True
 | (a,s)::r=>Cc n (env a) s∧qV n env r
theorem Td(n:Nat)(env:Nat→Slot):qV n env []=True:=rfl
theorem Ot(n:Nat)(env:Nat→Slot)(a:Nat)(s:Slot)(r:List (Nat×Slot)):qV n env ((a,s)::r)=(Cc n (env a) s∧qV n env r):=rfl
theorem mG {n:Nat} {env:Nat→Slot} :∀ {l:List (Nat×Slot)},qV n env l→∀p∈l,Cc n (env p.1) p.2
 | [],_,p,hp=>by simp at hp
 | (a,s)::r,h,p,hp=>by
  rcases List.mem_cons.1 hp with rfl | hp
  ·exact h.1
  exact mG h.2 p hp
theorem dC {st:St} {n:Nat} {l:List (Nat×Slot)} {loc obj:List (List D)} (hn:st.n=n)(hl:qV loc.length st.env l)(hloc:loc<+:st.loc)(hobj:st.obj=obj):Weak st (St.mk' n l loc obj):=
 yQ hn (mG hl) hloc hobj
theorem bA {α:Type} {n:Nat} {l l2:List (Nat×Slot)} {loc obj:List (List D)} (F:α→List (Nat×Slot))(W:List Nat)(p:α→Prop)(m:α→Nat)(x0:α) {body:Code} {Q:Exit→St→Prop}
  (hl:bY W l=l2) (hF:qV loc.length (cM l) (F x0++l2)) (hp:p x0)
  (h:∀x,p x→dH rr dfr P body (tX (fun x=>St.mk' n (F x++l2) loc obj) p m x Q) (St.mk' n (F x++l2) loc obj)):dH rr dfr P (.loop body) Q (St.mk' n l loc obj):=
 At (fun x=>St.mk' n (F x++l2) loc obj) p m x0 (yQ rfl (mG hF) (List.prefix_refl _) rfl) hp h
theorem Tn {α:Type} {n:Nat} {l l2:List (Nat×Slot)} {loc obj:List (List D)} (F:α→List (Nat×Slot))(G:α→List (List D))(W:List Nat)(p:α→Prop)(m:α→Nat)(x0:α) {body:Code} {Q:Exit→St→Prop}
  (hl:bY W l=l2) (hF:qV (G x0).length (cM l) (F x0++l2)) (hG:G x0=loc) (hp:p x0)
  (h:∀x,p x→dH rr dfr P body (tX (fun x=>St.mk' n (F x++l2) (G x) obj) p m x Q) (St.mk' n (F x++l2) (G x) obj)):dH rr dfr P (.loop body) Q (St.mk' n l loc obj):=
 At (fun x=>St.mk' n (F x++l2) (G x) obj) p m x0 (yQ rfl (mG hF) (by rw [hG];exact List.prefix_refl _) rfl) hp h
theorem jT {α:Type} {n:Nat} {l l2:List (Nat×Slot)} {loc obj:List (List D)} (F:α→List (Nat×Slot))(G H:α→List (List D))(W:List Nat)(p:α→Prop)(m:α→Nat)(x0:α) {body:Code} {Q:Exit→St→Prop}
  (hl:bY W l=l2) (hF:qV (G x0).length (cM l) (F x0++l2)) (hG:G x0=loc) (hH:H x0=obj) (hp:p x0)
  (h:∀x,p x→dH rr dfr P body (tX (fun x=>St.mk' n (F x++l2) (G x) (H x)) p m x Q) (St.mk' n (F x++l2) (G x) (H x))):dH rr dfr P (.loop body) Q (St.mk' n l loc obj):=
 At (fun x=>St.mk' n (F x++l2) (G x) (H x)) p m x0 (yQ rfl (mG hF) (by rw [hG];exact List.prefix_refl _) hH.symm) hp h
theorem dT {α:Type} {S:α→St} {p:α→Prop} {m:α→Nat} {x:α} {Q:Exit→St→Prop} {s:St} (y:α)(hp:p y)(hm:m y<m x)(hw:Weak s (S y)):tX S p m x Q .normal s:=⟨y,hp,hm,hw⟩
theorem Md(n:Nat):D.strip (.mref n)= .mref n:=rfl
theorem aGt(n:Nat):D.s1 (.mref n)= .mref n:=rfl
theorem aF9(n:Nat):D.s2 (.mref n)= .mref n:=rfl
theorem Lh(n:Nat):D.plain (.mref n)=true:=rfl
theorem Ob(n:Nat):D.solid (.mref n)=true:=rfl
theorem Hz(n:Nat):D.ncells (.mref n)=1:=rfl
theorem Nl(n:Nat):D.cells (.mref n)= [.mref n]:=rfl
theorem Zh(kd:TypeDesc)(c:Nat)(kvs:List (Value×Nat×D)):D.strip (.mo kd c kvs)= .mz:=rfl
theorem aKv(kd:TypeDesc)(c:Nat)(kvs:List (Value×Nat×D)):D.s1 (.mo kd c kvs)= .mz:=rfl
theorem aKs(kd:TypeDesc)(c:Nat)(kvs:List (Value×Nat×D)):D.s2 (.mo kd c kvs)= .mz:=rfl
theorem Wv(kd:TypeDesc)(c:Nat)(kvs:List (Value×Nat×D)):D.plain (.mo kd c kvs)=true:=rfl
theorem aAe(kd:TypeDesc)(c:Nat)(kvs:List (Value×Nat×D)):D.solid (.mo kd c kvs)=true:=rfl
theorem Ts(kd:TypeDesc)(c:Nat)(kvs:List (Value×Nat×D)):D.ncells (.mo kd c kvs)=1:=rfl
theorem Xx(kd:TypeDesc)(c:Nat)(kvs:List (Value×Nat×D)):D.cells (.mo kd c kvs)= [.mo kd c kvs]:=rfl
theorem Te(n a b:Nat)(l:List Nat):D.strip (.mit n a l b)= .any:=rfl
theorem aIz(n a b:Nat)(l:List Nat):D.s1 (.mit n a l b)= .any:=rfl
theorem aHj(n a b:Nat)(l:List Nat):D.s2 (.mit n a l b)= .any:=rfl
theorem Uv(n a b:Nat)(l:List Nat):D.plain (.mit n a l b)=true:=rfl
theorem Ul(n a b:Nat)(l:List Nat):D.solid (.mit n a l b)=false:=rfl
theorem Xh(n c:Nat)(kd:TypeDesc)(kvs:List (Value×Nat×D)):D.strip (.mp n kd c kvs)= .mref n:=rfl
theorem aKb(n c:Nat)(kd:TypeDesc)(kvs:List (Value×Nat×D)):D.s1 (.mp n kd c kvs)= .mref n:=rfl
theorem aK5(n c:Nat)(kd:TypeDesc)(kvs:List (Value×Nat×D)):D.s2 (.mp n kd c kvs)= .mref n:=rfl
theorem aAq(n c:Nat)(kd:TypeDesc)(kvs:List (Value×Nat×D)):D.plain (.mp n kd c kvs)=true:=rfl
theorem Wy(n c:Nat)(kd:TypeDesc)(kvs:List (Value×Nat×D)):D.solid (.mp n kd c kvs)=true:=rfl
theorem Tv(n c:Nat)(kd:TypeDesc)(kvs:List (Value×Nat×D)):D.ncells (.mp n kd c kvs)=1:=rfl
theorem aCw(n c:Nat)(kd:TypeDesc)(kvs:List (Value×Nat×D)):D.cells (.mp n kd c kvs)= [.mp n kd c kvs]:=rfl
theorem Tm(t:TypeId)(d:D):D.strip (.ifc t d)= .ifc t d:=rfl
theorem aIj(t:TypeId)(d:D):D.s1 (.ifc t d)= .ifc t d:=rfl
theorem aHm(t:TypeId)(d:D):D.s2 (.ifc t d)= .ifc t d:=rfl
theorem Sa(t:TypeId)(d:D):D.plain (.ifc t d)=true:=rfl
theorem Vh(t:TypeId)(d:D):D.solid (.ifc t d)=true:=rfl
theorem Oq(t:TypeId)(d:D):D.ncells (.ifc t d)=1:=rfl
theorem Vy(t:TypeId)(d:D):D.cells (.ifc t d)= [.ifc t d]:=rfl
theorem aA7(n:Nat):D.arr (.mref n)=true:=rfl
attribute [simp] Zh aKv aKs Wv aAe Ts Xx Te aIz aHj Uv Ul oU sU oN aG2 Md aGt aF9 Lh Ob Hz Nl Xh aKb aK5 aAq Wy Tv aCw Tm aIj aHm Sa Vh Oq Vy aA7
theorem Ui(n a b c:Nat):D.strip (.slo n a b c)= .slo n a b c:=rfl
theorem Zu(n:Nat):D.strip (.xl n)= .xl n:=rfl
theorem aA3(k:Nat)(es:List D):D.strip (.xs k es)= .xl es.length:=rfl
theorem aHq(n a b c:Nat):D.s2 (.slo n a b c)= .slo n a b c:=rfl
theorem aKu(n:Nat):D.s2 (.xl n)= .xl n:=rfl
theorem aKe(k:Nat)(es:List D):D.s2 (.xs k es)= .xl es.length:=rfl
theorem aJd(f:Go.Fn)(a b:List D):D.s2 (.clo f a b)= .clo f a b:=rfl
theorem aH8(n a b c:Nat):D.s1 (.slo n a b c)= .slo n a b c:=rfl
theorem aKj(n:Nat):D.s1 (.xl n)= .xl n:=rfl
theorem aKy(k:Nat)(es:List D):D.s1 (.xs k es)= .xl es.length:=rfl
theorem aH1(f:Go.Fn)(a b:List D):D.s1 (.clo f a b)= .clo f a b:=rfl
theorem Tx(n a b c:Nat):D.plain (.slo n a b c)=true:=rfl
theorem aDt(n:Nat):D.plain (.xl n)=true:=rfl
theorem aAf(k:Nat)(es:List D):D.plain (.xs k es)=true:=rfl
theorem Va(n a b c:Nat):D.solid (.slo n a b c)=true:=rfl
theorem aC9(n:Nat):D.solid (.xl n)=true:=rfl
theorem aB7(k:Nat)(es:List D):D.solid (.xs k es)=true:=rfl
theorem Mi(n a b c:Nat):D.ncells (.slo n a b c)=1:=rfl
theorem Wg(n:Nat):D.ncells (.xl n)=1:=rfl
theorem Ua(k:Nat)(es:List D):D.ncells (.xs k es)=1:=rfl
theorem Uy(n a b c:Nat):D.cells (.slo n a b c)= [.slo n a b c]:=rfl
theorem aDn(n:Nat):D.cells (.xl n)= [.xl n]:=rfl
theorem aCy(k:Nat)(es:List D):D.cells (.xs k es)= [.xs k es]:=rfl
theorem aKh(x:Value):D.arr (.v x)=true:=rfl
theorem aHk(es:List D):D.arr (.sl false es)=true:=rfl
theorem aF6(cs:List D):D.arr (.agg cs)=cs.all D.flat:=rfl
theorem aIp(x:Value):D.flat (.v x)=true:=rfl
theorem aE5(es:List D):D.flat (.sl false es)=true:=rfl
theorem Xe(n o:Nat):D.flat (.ref n o)=true:=rfl
def vG:List (Nat×List D)→List (List D)→List (List D)
 | [],l=>l
 | (n,c)::r,l=>(vG r l).set n c
theorem nU(l:List (List D)):vG [] l=l:=rfl
theorem mB(n:Nat)(c:List D)(r:List (Nat×List D))(l:List (List D)):vG ((n,c)::r) l=(vG r l).set n c:=rfl
theorem nS {P:Program} {α:Type} {n:Nat} {l l2:List (Nat×Slot)} {loc obj:List (List D)} (F:α→List (Nat×Slot))(M N:α→List (Nat×List D))(W:List Nat)(p:α→Prop)(m:α→Nat)(x0:α) {body:Code} {Q:Exit→St→Prop}
  (hl:bY W l=l2) (hF:qV (vG (M x0) loc).length (cM l) (F x0++l2)) (hG:vG (M x0) loc=loc) (hH:vG (N x0) obj=obj) (hp:p x0)
  (h:∀x,p x→dH rr dfr P body (tX (fun x=>St.mk' n (F x++l2) (vG (M x) loc) (vG (N x) obj)) p m x Q) (St.mk' n (F x++l2) (vG (M x) loc) (vG (N x) obj))):dH rr dfr P (.loop body) Q (St.mk' n l loc obj):=
 jT F (fun x=>vG (M x) loc) (fun x=>vG (N x) obj) W p m x0 hl hF hG hH hp h
theorem Vs {α:Type} (l:List α)(a:α):(l++ [a])[l.length]?=some a:=by simp
theorem kG {α:Type} (l:List α)(a b:α):(l++ [a]).set l.length b=l++ [b]:=by simp
def qQ:List Nat→List (Nat×Slot)→List (Nat×Slot)
 | [],_=> []
 | t::r,l=>(t,cM l t)::qQ r l
theorem Dt(l:List (Nat×Slot)):qQ [] l= []:=rfl
theorem sT(t:Nat)(r:List Nat)(l:List (Nat×Slot)):qQ (t::r) l=(t,cM l t)::qQ r l:=rfl
theorem wK(l:List (Nat×Slot))(u:Nat):∀K:List Nat,cM (qQ K l) u=cM l u∨cM (qQ K l) u= .any
 | []=> .inr rfl
 | t::r=>by
  rw [sT,mH];split
  ·rename_i h;subst h;exact .inl rfl
  exact wK l u r
theorem Zr {P:Program} (K:List Nat) {l2:List (Nat×Slot)} {c:Code} {n:Nat} {l:List (Nat×Slot)} {loc obj:List (List D)} {Q:Exit→St→Prop} (hl:qQ K l=l2)(h:dH rr dfr P c Q (St.mk' n l2 loc obj)):dH rr dfr P c Q (St.mk' n l loc obj):=by
 subst hl;intro w0 g0 w g tmps hf hok hn;refine h w0 g0 w g tmps hf ⟨hok.mem,hok.xlt,fun t=>?_,hok.ll,hok.loc,hok.ol,hok.obj⟩ hn;have hs:=hok.slot t;show SlotOk w g t (cM (qQ K l) t) _
 rcases wK l t K with e | e
 ·rw [e];exact hs
 rw [e];exact⟨.any _,.flat _ _ _ rfl⟩
theorem kR {P:Program} (ts k:Nat) {es:List D} {c:Code} {n:Nat} {l:List (Nat×Slot)} {loc obj:List (List D)} {Q:Exit→St→Prop} (hs:cM l ts= .d (.xs k es))(hk0:0<k)
  (h:∀(cap:Nat) (rest:List D),es.length≤cap→cap≤maxLen→rest.length=(cap - es.length) * k→0<k→(∀d∈es,d.ncells=k∧d.arr=true)→dH rr dfr P c Q (St.mk' n ((ts,.d (.slo obj.length 0 es.length cap))::l) loc (obj++ [es.flatMap D.cells++rest]))):dH rr dfr P c Q (St.mk' n l loc obj):=by
 intro w0 g0 w g tmps hf hok hn;obtain⟨cap,rest,g',a1,a2,a3,a4,a5,_,hfr,hok'⟩:=hok.openX ts k es hs hk0;exact h cap rest a1 a2 a3 a4 a5 w0 g0 w g' tmps (hf.trans hfr) hok' hn
theorem fY {P:Program} (ts k:Nat) {es:List D} {c:Code} {n:Nat} {l:List (Nat×Slot)} {loc obj:List (List D)} {Q:Exit→St→Prop} (hs:cM l ts= .d (.xs k es))(hk0:0<k)
  (h:∀(cap:Nat) (rest:List D),es.length≤cap→cap≤maxLen→rest=List.replicate ((cap - es.length) * k) .any→0<k→(∀d∈es,d.ncells=k∧d.arr=true)→dH rr dfr P c Q (St.mk' n ((ts,.d (.slo obj.length 0 es.length cap))::l) loc (obj++ [es.flatMap D.cells++rest]))):dH rr dfr P c Q (St.mk' n l loc obj):=by
 intro w0 g0 w g tmps hf hok hn;obtain⟨cap,rest,g',a1,a2,a3,a4,a5,_,hfr,hok'⟩:=hok.openX2 ts k es hs hk0;exact h cap rest a1 a2 a3 a4 a5 w0 g0 w g' tmps (hf.trans hfr) hok' hn
theorem cT {P:Program} (ts k m len cap:Nat)(es cs:List D) {c:Code} {n:Nat} {l:List (Nat×Slot)} {loc obj:List (List D)} {Q:Exit→St→Prop} (hs:cM l ts= .d (.slo m 0 len cap))(hm:obj[m]?=some cs)(hk:0<k)(hcs:cs.length=cap * k)(hl:es.length=len)
  (hes:∀d∈es,d.ncells=k∧d.arr=true) (he:es.flatMap D.cells<+:cs) (h:dH rr dfr P c Q (St.mk' n ((ts,.d (.xs k es))::l) loc (obj.set m []))):dH rr dfr P c Q (St.mk' n l loc obj):=by
 intro w0 g0 w g tmps hf hok hn;obtain⟨g',_,hfr,hok'⟩:=hok.closeX ts k m len cap es cs hs hm hk hcs hl hes he;exact h w0 g0 w g' tmps (hf.trans hfr) hok' hn
theorem Yu {α:Type} (f:α→D)(l:List α)(k:Nat)(h:k<l.length):(l.map f).getD k .any=f l[k]:=by
 simp [List.getD,h]
theorem Ci {α:Type} (f:α→D)(l:List α)(k:Nat)(h:k<l.length):(l.map f)[k]?=some (f l[k]):=by
 simp [h]
theorem aEt(n:Int):Wp .i64 n=(-9223372036854775808≤n∧n≤9223372036854775807):=by
 unfold Wp;rfl
theorem aH0(n:Int):Wp .u8 n=(0≤n∧n≤255):=by
 unfold Wp;rfl
end
theorem aDp:Gv []=true:=rfl
theorem Vu(r:List (Option Holder)):Gv (none::r)=Gv r:=by simp [Gv]
theorem Rx(h:Holder)(r:List (Option Holder)):Gv (some h::r)=(!r.contains (some h) && Gv r):=by
 simp only [Gv,List.filterMap_cons,id,List.nodup_cons,Bool.decide_and,List.contains_eq_mem];congr 1;rw [← decide_not];congr 1;simp [List.mem_filterMap]
theorem Tj:maxLen=9223372036854775807:=rfl
theorem aD5(n:Nat)(l:List (Nat×Slot))(loc obj:List (List D)):({ n:=n,env:=cM l,loc:=loc,obj:=obj } :St)=St.mk' n l loc obj:=rfl
def vU:Slot→Slot
 | .d x=> .d x.strip
 | s=>s
def kF:List Nat→List (Nat×Slot)→List (Nat×Slot)
 | [],l=>l
 | t::r,l=>(t,vU (cM l t))::kF r l
theorem xO(l:List (Nat×Slot))(u:Nat):∀ts:List Nat,cM (kF ts l) u=if u∈ts then vU (cM l u)else cM l u
 | []=>by simp [kF]
 | t::r=>by
  rw [kF,mH,xO l u r];by_cases h:u=t
  ·subst h;simp
  simp [h]
theorem lJ(l:List (Nat×Slot))(ts:List (Option Nat)):eJ ts (cM l)=cM (kF (ts.filterMap id) l):=by
 funext u;rw [xO];by_cases h:some u∈ts
 ·have h1:ts.contains (some u)=true:=by simpa using h
  have h2:u∈ts.filterMap id:=by simpa using h
  simp only [eJ,h1,if_true,if_pos h2,vU];split <;> simp_all
 have h1:ts.contains (some u)=false:=by simpa using h
 have h2:¬u∈ts.filterMap id:=by simpa using h
 simp only [eJ,h1,if_neg h2];rfl
theorem Mf {P:Program} {d:Nat} {f:FuncId} {args:List Operand} {n:Nat} {l:List (Nat×Slot)} {loc obj:List (List D)} {K:St→Prop} :kB P (some d) f args (St.mk' n l loc obj) K=
  ((args.filterMap bO).Nodup∧(∀x∈args,sA ((St.mk' n l loc obj).rdS x)=true∧((St.mk' n l loc obj).rd x).plain=true)∧
   Ct P f (args.map (pL (St.mk' n l loc obj))) obj (fun r σ'=>K (St.mk' n ((d,.d r)::kF (args.filterMap bO) l) loc σ'))):=by
 unfold kB;have e:(args.map bO).filterMap id=args.filterMap bO:=by rw [List.filterMap_map];rfl
 simp only [yT,yI,yN,Pe,lJ,e];rfl
theorem Jt(l:List (Nat×Slot)):kF [] l=l:=rfl
theorem Fx(t:Nat)(r:List Nat)(l:List (Nat×Slot)):kF (t::r) l=(t,vU (cM l t))::kF r l:=rfl
theorem aDh(x:D):vU (.d x)= .d x.strip:=rfl
theorem Ig(a b:Nat):vU (.lref a b)= .lref a b:=rfl
theorem Wo:List.filterMap bO []= []:=rfl
theorem Sx(t:Tmp)(r:List Operand):List.filterMap bO (.tmp t::r)=t::List.filterMap bO r:=rfl
theorem In(v:Value)(r:List Operand):List.filterMap bO (.const v::r)=List.filterMap bO r:=rfl
theorem On(v:FuncId)(r:List Operand):List.filterMap bO (.func v::r)=List.filterMap bO r:=rfl
theorem Hh {P:Program} {c:Cfg} {d:Nat} {f:FuncId} {args:Array Operand} {ts:Array TypeId} {n:Nat} {l:List (Nat×Slot)} {loc obj:List (List D)} {K:St→Prop} :
  rU P c (some d) (.call ⟨.value (.func f),args,ts⟩) .pureT (St.mk' n l loc obj) K=
  ((args.toList.filterMap bO).Nodup∧(∀x∈args.toList,sA ((St.mk' n l loc obj).rdS x)=true∧((St.mk' n l loc obj).rd x).plain=true)∧
   ∃r,(∀σ,Ct P f (args.toList.map (pL (St.mk' n l loc obj))) σ fun r' σ'=>r'=r∧σ'=σ)∧K (St.mk' n ((d,.d r)::kF (args.toList.filterMap bO) l) loc obj)):=by
 have e:(args.toList.map bO).filterMap id=args.toList.filterMap bO:=by rw [List.filterMap_map];rfl
 simp only [rU,yT,yI,yN,Pe,lJ,e];rfl
theorem Lb {P:Program} {c:Cfg} {d:Nat} {f:FuncId} {args:Array Operand} {ts:Array TypeId} {n:Nat} {l:List (Nat×Slot)} {loc obj:List (List D)} {K:St→Prop} :
  rU P c (some d) (.call ⟨.value (.func f),args,ts⟩) .detT (St.mk' n l loc obj) K=
  ((args.toList.filterMap bO).Nodup∧(∀x∈args.toList,sA ((St.mk' n l loc obj).rdS x)=true∧((St.mk' n l loc obj).rd x).plain=true)∧
   ∃r σ0,(Ct P f (args.toList.map (pL (St.mk' n l loc obj))) obj fun r' σ'=>r'=r∧σ'=σ0)∧K (St.mk' n ((d,.d r)::kF (args.toList.filterMap bO) l) loc σ0)):=by
 have e:(args.toList.map bO).filterMap id=args.toList.filterMap bO:=by rw [List.filterMap_map];rfl
 simp only [rU,yT,yI,yN,Pe,lJ,e];rfl
theorem aIf {P:Program} {c:Cfg} {d:Option Tmp} {op:Op} {f:Fl} {st:St} {K:St→Prop} :rU P c d op (.op f) st K=(gU op=false∧kI c d st op=f∧fD P c d op st K):=rfl
theorem Yh {P:Program} {c:Cfg} {d:Option Tmp} {f:FuncId} {args:Array Operand} {ts:Array TypeId} {st:St} {K:St→Prop} :rU P c d (.call ⟨.value (.func f),args,ts⟩) .pure st K=
  (iC args.toList st∧∃r,(∀σ,Ct P f (eF args.toList st) σ fun r' σ'=>r'=r∧σ'=σ)∧K (st.put d (.d r))):=rfl
def aKc(P:Program)(dst:Option Tmp)(d:D)(args:List Operand)(st:St)(K:St→Prop):Prop:=match d with
 | .clo (.func fid) first caps=>(∀d∈first++caps,d.plain=true)∧iC args st∧∃r,(∀σ,Ct P fid (first.map D.strip++eF args st++caps.map D.strip) σ fun r' σ'=>r'=r∧σ'=σ)∧K (st.put dst (.d r))
 | _=>False
theorem Rp {P:Program} {c:Cfg} {d:Option Tmp} {f:Operand} {args:Array Operand} {ts:Array TypeId} {st:St} {K:St→Prop} :rU P c d (.call ⟨.value f,args,ts⟩) .pureC st K=aKc P d (st.rd f) args.toList st K:=rfl
theorem aEr {P:Program} {dst:Option Tmp} {fid:FuncId} {first caps:List D} {args:List Operand} {st:St} {K:St→Prop} :aKc P dst (.clo (.func fid) first caps) args st K=((∀d∈first++caps,d.plain=true)∧iC args st∧∃r,(∀σ,Ct P fid (first.map D.strip++eF args st++caps.map D.strip) σ fun r' σ'=>r'=r∧σ'=σ)∧K (st.put dst (.d r))):=rfl
theorem Ww {P:Program} {c:Cfg} {d:Option Tmp} {f:FuncId} {args:Array Operand} {ts:Array TypeId} {st:St} {K:St→Prop} :rU P c d (.call ⟨.value (.func f),args,ts⟩) .read st K=
  (iC args.toList st∧∃r,(Ct P f (eF args.toList st) st.obj fun r' σ'=>r'=r∧σ'=st.obj)∧K (st.put d (.d r))):=rfl
theorem aHp {P:Program} {c:Cfg} {d:Option Tmp} {f:FuncId} {args:Array Operand} {ts:Array TypeId} {st:St} {K:St→Prop} :rU P c d (.call ⟨.value (.func f),args,ts⟩) .nd st K=
  ∃Q,(iC args.toList st∧Ct P f (eF args.toList st) st.obj Q∧∃r σ0,Q r σ0)∧∀r σ0,Q r σ0→K (({ st with obj:=σ0 } :St).put d (.d r)):=rfl
theorem Tg {P:Program} {c:Cfg} {d:Option Tmp} {f:FuncId} {args:Array Operand} {ts:Array TypeId} {st:St} {K:St→Prop} :rU P c d (.call ⟨.value (.func f),args,ts⟩) .readT st K=
  (iC args.toList st∧∃r,(∀J,Ct P f (eF args.toList st) (st.obj++J) fun r' σ'=>r'=r∧σ'=st.obj++J)∧K (st.put d (.d r))):=rfl
theorem aAu {P:Program} {c:Cfg} {d:Option Tmp} {f:FuncId} {args:Array Operand} {ts:Array TypeId} {st:St} {K:St→Prop} :rU P c d (.call ⟨.value (.func f),args,ts⟩) .detA st K=
  (iC args.toList st∧∃r J,(Ct P f (eF args.toList st) st.obj fun r' σ'=>r'=r∧σ'=st.obj++J)∧K (({ st with obj:=st.obj++J } :St).put d (.d r))):=rfl
theorem aEo {P:Program} {c:Cfg} {d:Option Tmp} {f:FuncId} {args:Array Operand} {ts:Array TypeId} {st:St} {K:St→Prop} :rU P c d (.call ⟨.value (.func f),args,ts⟩) .det st K=
  (iC args.toList st∧∃r σ0,(Ct P f (eF args.toList st) st.obj fun r' σ'=>r'=r∧σ'=σ0)∧K (({ st with obj:=σ0 } :St).put d (.d r))):=rfl
theorem aE9 {P:Program} {t:Nat} {a b:Code} {s:Slot} {n:Nat} {l:List (Nat×Slot)} {loc obj:List (List D)} {Q:Exit→St→Prop} (hs:cM l t=s)
  (h:sW s.toD (dH rr dfr P a Q (St.mk' n ((t,.d (.bool true))::l) loc obj)) (dH rr dfr P b Q (St.mk' n ((t,.d (.bool false))::l) loc obj))):dH rr dfr P (.cond (.tmp t) a b) Q (St.mk' n l loc obj):=by
 unfold sW at h;split at h
 ·rename_i v hv;have hs':cM l t= .d (.v (.bool v)):=by
   rw [hs];cases s with
   | d d=>simp only [Slot.toD] at hv;rw [hv]
   | lref n o=>simp [Slot.toD] at hv
  rw [Bb hs'];cases v with
  | true=>exact bD (t:=true) (by simp [St.rd,St.rdS,mH,St.mk']) (fun _=>h.1 rfl) (fun h=>by cases h)
  | false=>exact bD (t:=false) (by simp [St.rd,St.rdS,mH,St.mk']) (fun h=>by cases h) (fun _=>h.2 rfl)
 exact h.elim
def mK (o : Oper) : Oper := ⟨o.dst, o.op, 0, "", #[], o.guard⟩
theorem lB:List.map mK []= []:=rfl
theorem jW (d : Option Tmp) (op : Op) (ty : TypeId) (pos : String) (after : Array Edge) (g : Option (Nat × Bool)) (r : List Oper) : List.map mK (⟨d, op, ty, pos, after, g⟩ :: r) = ⟨d, op, 0, "", #[], g⟩ :: List.map mK r := rfl
theorem Ay {P:Program} {c:Cfg} {all:List Oper} {K:St→Prop} :∀(r:List Oper) (st:St),lI P c all (r.map mK) st K=lI P c all r st K
 | [],_=>rfl
 | o :: r, st => by
  have ih:(fun st'=>lI P c all (r.map mK) st' K)=fun st'=>lI P c all r st' K:=funext fun st'=>Ay r st';show lI P c all (mK o::r.map mK) st K=_
  unfold lI;simp only [mK,ih];split
  ·rfl
  split
  ·split
   ·rw [Ay r];rfl
   rfl
  rfl
theorem vO {P:Program} {c:Cfg} {all:List Oper} {K:St→Prop} :∀(r:List Oper) (ks:List DK) (st:St),fZ P c all (r.map mK) ks st K=fZ P c all r ks st K
 | [],_,_=>rfl
 | _::_, [],_=>rfl
 | o :: r, k :: ks, st => by
  have ih:(fun st'=>fZ P c all (r.map mK) ks st' K)=fun st'=>fZ P c all r ks st' K:=funext fun st'=>vO r ks st';show fZ P c all (mK o::r.map mK) (k::ks) st K=_
  unfold fZ;simp only [mK,ih];congr 1;split
  ·rfl
  split
  ·split
   ·rw [vO r]
   rfl
  rfl
theorem nH {P:Program} {c:Cfg} {id:Nat} {ops ops':List Oper} {Q:Exit→St→Prop} {st:St} (he:ops.map mK=ops')(h:∀all:List Oper,(∀j,aO all j=aO ops j)→∀K:St→Prop,(∀s,Q .normal s→K s)→lI P c all ops' st K):dH rr dfr P (.region id ops.toArray false) Q st:=
 Oz fun K hK=>by
  have:=h ops (fun _=>rfl) K hK
  rwa [← he,Ay] at this
theorem Eu {P:Program} {c:Cfg} {id:Nat} {ops ops':List Oper} (ks:List DK) {Q:Exit→St→Prop} {st:St} (hm:P.follows .mixedOrders=true)(hok:Br c ops ks=true)(he:ops.map mK=ops')
  (h:∀all:List Oper,(∀j,aO all j=aO ops j)→∀K:St→Prop,(∀s,Q .normal s→K s)→fZ P c all ops' ks st K):dH rr dfr P (.region id ops.toArray true) Q st:=
 aCs ks hm hok fun K hK=>by
  have:=h ops (fun _=>rfl) K hK
  rwa [← he,vO] at this
def No:D→Prop
 | .v (.slice none 0 0)=>True
 | _=>False
def Am(x y:D):Prop:=y=x∨(x.plain=true∧y=x.strip)∨(No x∧(y= .sl false []∨y= .sl true []))
theorem Oh:No (.v (.slice none 0 0))=True:=rfl
def jP:List D→List D→Prop
 | [], []=>True
 | a::r,b::q=>Am a b∧jP r q
 | _,_=>False
theorem eY {a b:List D} (h:a=b):jP a b:=by
 subst h;induction a with
 | nil=>trivial
 | cons x r ih=>exact⟨.inl rfl,ih⟩
theorem Ar:∀ {a b:List D},jP a b→a.length=b.length
 | [], [],_=>rfl
 | _::_,_::_,h=>by simp [Ar h.2]
 | [],_::_,h=>h.elim
 | _::_, [],h=>h.elim
theorem Aw:∀ {a b:List D},jP a b→∀(i:Nat) (y:D),b[i]?=some y→∃x,a[i]?=some x∧Am x y
 | x::_,_::_,h,0,y,hy=>by simp at hy;subst hy;exact⟨x,rfl,h.1⟩
 | _::_,_::_,h,i+1,y,hy=>by simpa using Aw h.2 i y (by simpa using hy)
 | [], [],_,_,_,hy=>by simp at hy
 | [],_::_,h,_,_,_=>h.elim
 | _::_, [],h,_,_,_=>h.elim
theorem Ct.of_le {P:Program} {f:FuncId} {a a':List D} {σ σ':List (List D)} {Q:D→List (List D)→Prop} (h:Ct P f a σ Q)(e:jP a' a)(e2:σ'=σ):Ct P f a' σ' Q:=by
 subst e2;refine⟨h.1,fun w g vs hs hb ho=>h.2 w g vs (by rw [hs,Ar e]) hb ⟨ho.mem,ho.xlt,fun t=>?_,ho.ll,ho.loc,ho.ol,ho.obj⟩⟩;have hsl:=ho.slot t;simp only [St.ofArgs] at hsl ⊢;unfold eC at hsl ⊢;cases hy:a[t]? with
 | none=>exact⟨.any _,.flat _ _ _ rfl⟩
 | some y =>
  obtain⟨x,hx,hle⟩:=Aw e t y hy;rw [hx] at hsl;rcases hle with rfl | ⟨hp,rfl⟩ | ⟨hn,hy⟩
  ·exact hsl
  ·exact lP hsl.1 hp t
  have hxn:x= .v (.slice none 0 0):=by
   unfold No at hn;split at hn
   ·rfl
   exact hn.elim
  subst hxn;obtain⟨hr,_⟩:=hsl;have hv:=hr.vEq;rcases hy with rfl | rfl
  ·exact⟨by rw [hv];exact .nil _,.flat _ _ _ rfl⟩
  exact⟨by rw [hv];exact .nil _,.sl _ _ _ (.inl ⟨_,_,hv⟩)⟩
theorem uK:∀(sets:List (Nat×Slot)) (l:List (Nat×Slot)),dX sets (cM l)=cM (sets.reverseAux l)
 | [],l=>rfl
 | (a,s)::r,l=>by
  show dX r (fun u=>if u=a then s else cM l u)=_
  have:(fun u=>if u=a then s else cM l u)=cM ((a,s)::l):=by funext u;rw [mH]
  rw [this,uK r];rfl
theorem aHy(n:Nat)(l:List (Nat×Slot))(loc obj:List (List D))(sets:List (Nat×Slot))(ob:Option (List (List D))):(St.mk' n l loc obj).upd ⟨sets,none,ob⟩=St.mk' n (sets.reverseAux l) loc (ob.getD obj):=by
 show({ n:=n,env:=dX sets (cM l),loc:=loc,obj:=ob.getD obj } :St)=_
 rw [uK];rfl
theorem Mq(l:List (Nat×Slot)):List.reverseAux [] l=l:=rfl
theorem Hv(a:Nat×Slot)(r l:List (Nat×Slot)):List.reverseAux (a::r) l=List.reverseAux r (a::l):=rfl
def Ws(R:jH)(K:List (Nat×Slot)→Option (List (List D))→Prop):Prop:=∃sets ob,R sets ob∧K sets ob
@[congr] theorem aNc {R R':jH} {K:List (Nat×Slot)→Option (List (List D))→Prop} (h:R=R'):Ws R K=Ws R' K:=by rw [h]
theorem aHt {P:Program} {alt:Bool} {dst:Option Tmp} {op:Op} {st:St} {K:St→Prop} :vcY P alt dst op st K=Ws (fun sets ob=>yR P alt dst op st.rdS (if(Ye alt op).rO=true then st.obj else []) sets ob) (fun sets ob=>K (st.upd ⟨sets,none,ob⟩)):=rfl
theorem aI4 {S:List (Nat×Slot)} {O:Option (List (List D))} {K:List (Nat×Slot)→Option (List (List D))→Prop} :Ws (fun sets ob=>sets=S∧ob=O) K=K S O:=by
 apply propext;constructor
 ·rintro⟨_,_,⟨rfl,rfl⟩,h⟩;exact h
 intro h;exact⟨_,_,⟨rfl,rfl⟩,h⟩
theorem aEj {C:Prop} {R:jH} {K:List (Nat×Slot)→Option (List (List D))→Prop} :Ws (fun sets ob=>C∧R sets ob) K=(C∧Ws (fun sets ob=>R sets ob) K):=by
 apply propext;constructor
 ·rintro⟨_,_,⟨h1,h2⟩,h⟩;exact⟨h1,_,_,h2,h⟩
 rintro⟨h1,_,_,h2,h⟩;exact⟨_,_,⟨h1,h2⟩,h⟩
theorem aJi {α:Type} {R:α→jH} {K:List (Nat×Slot)→Option (List (List D))→Prop} :Ws (fun sets ob=>∃x,R x sets ob) K=∃x,Ws (fun sets ob=>R x sets ob) K:=by
 apply propext;constructor
 ·rintro⟨_,_,⟨x,h2⟩,h⟩;exact⟨x,_,_,h2,h⟩
 rintro⟨x,_,_,h2,h⟩;exact⟨_,_,⟨x,h2⟩,h⟩
theorem aHl {R S:jH} {K:List (Nat×Slot)→Option (List (List D))→Prop} :Ws (fun sets ob=>R sets ob∨S sets ob) K=(Ws (fun sets ob=>R sets ob) K∨Ws (fun sets ob=>S sets ob) K):=by
 apply propext;constructor
 ·rintro⟨_,_,h1 | h1,h⟩
  ·exact .inl ⟨_,_,h1,h⟩
  exact .inr ⟨_,_,h1,h⟩
 rintro(⟨_,_,h1,h⟩ | ⟨_,_,h1,h⟩)
 ·exact⟨_,_,.inl h1,h⟩
 exact⟨_,_,.inr h1,h⟩
theorem aKw {K:List (Nat×Slot)→Option (List (List D))→Prop} :Ws (fun _ _=>False) K=False:=by
 apply propext;exact⟨fun⟨_,_,h,_⟩=>h,False.elim⟩
attribute [simp] aHt aI4 aEj aJi aHl aKw
attribute [simp] aHy Mq Hv isY wP Ez yR yA1 yA2 wJ Dg Rw Tq qZ Cw Rv Ye Km tL Yg Oh oT oZ rN zC mO vC rM vR rC Dy Dk nN Bool.true_or Bool.false_or
theorem Ro(cs:List D):D.strip (.tup cs)= .tup (cs.map D.s2):=rfl
attribute [simp] Ro D.plain
theorem aJz(n:Nat)(cs:List D):rI true n cs=if n≤cs.length then some (.agg (cs.take n))else none:=rfl
theorem aJj(n:Nat)(cs:List D):rI false n cs=cs.head?:=rfl
theorem aV(cs:List D)(off:Nat)(ds:List D):cU cs off ds=cs.take off++ds++cs.drop (off+ds.length):=rfl
attribute [simp low] aJz aJj aV
attribute [simp] Hh Lb aIf Yh Rp aEr Ww aEo Tg aAu aHp
attribute [simp] Ui Zu aA3 aHq aKu aKe aJd aH8 aKj aKy aH1 Tx aDt aAf Va aC9 aB7 Mi Wg Ua Uy aDn aCy aKh aHk aF6 aIp aE5 Xe Vs kG nU mB Mf Jt Fx aDh Ig Wo Sx In On
attribute [simp] aD5 List.getElem?_cons_zero Option.bind_some Pe yT yI yN wA wY aEh aBa Ya aA1 aAh Qk Sn Ym aJb Yn rE aK1 aAa
 aGj aDa Oj aGn aGe aEl Yw Ve Rr We Ux Ut aMs aK4 aJt aI0 aHi aJ0 aMj aK6 aJl aJs aIk
 aFd aA8 Rm Uj Uk Tt Tc aGu aB0 Sj Uw Sw Vr aAx Tl Og Ms aF5 aBz Vc Ug
 dP aEv aDq Xd Uh aHr aFx aCb aB9 aD3 Xf aAr aJv aJp aHw aIr Ss aH7 aJm aGf aBj aCg aN fD Fk aFs cL Vi vX gM mM oB kM eZ flX rP zI Kq gA pH xE aEe xJ xZ gQ fN iN oF iV oK oL eI kL Gs oV kO
 nG xB rH oE gN jU mE zH mP qL iD iC eF pL sA Di St.cellsAt St.park Slot.plus Slot.isAddr Po D.ofList
 Td Ot aGr aLd aGw Xz bY Yu Ci aEt aH0 aB5 gU kI fT zE Ag wM aDp Vu Rx Tj
end Go.Vm
