import Derived.Test.YtbgfljpnhhdkoaaGreatVm21
namespace Go.Vm
open Go
set_option linter.all false
variable {rr:Option Nat} {dfr:List Deferred}
section
variable {P:Program}
theorem aA {y:Code} {Q:Exit→St→Prop} {s:St} (h:dI rr dfr P y Q s):Oj rr dfr P y Q .normal s:=h
theorem aZ {y:Code} {Q:Exit→St→Prop} {s:St} {i:Nat} (h:Q (.exit i) s):Oj rr dfr P y Q (.exit i) s:=h
theorem aI {y:Code} {Q:Exit→St→Prop} {s:St} (h:Q .ret s):Oj rr dfr P y Q .ret s:=h
theorem aL {i:Nat} {Q:Exit→St→Prop} {s:St} (h:Q .normal s):uP i Q .normal s:=h
theorem aW {i:Nat} {Q:Exit→St→Prop} {s:St} (h:Q .normal s):uP i Q (.exit i) s:=by simpa [uP] using h
theorem aQ {i:Nat} {Q:Exit→St→Prop} {s:St} (h:Q .ret s):uP i Q .ret s:=h
theorem bB {α:Type} {S:α→St} {p:α→Prop} {m:α→Nat} {x:α} {Q:Exit→St→Prop} {s:St} {i:Nat} (h:Q (.exit i) s):sU S p m x Q (.exit i) s:=h
theorem eH {α:Type} {S:α→St} {p:α→Prop} {m:α→Nat} {x:α} {Q:Exit→St→Prop} {s:St} (h:Q .ret s):sU S p m x Q .ret s:=h
def rW(d:D)(A B:Prop):Prop:=match d with
 | .v (.bool t)=>(t=true→A)∧(t=false→B)
 | _=>False
theorem aD {c:Cfg} {all r:List Oper} {d:Option Tmp} {op:Op} {ty:TypeId} {pos:String} {after:Array Edge} {st:St} {K:St→Prop} (h:∀K':St→Prop,(∀s,lE P c all r s K→K' s)→Ki d st∧fA P c d op st K'):lE P c all (⟨d,op,ty,pos,after,none⟩::r) st K:=
 h _ fun _ h=>h
theorem bF {c:Cfg} {all:List Oper} (n:Nat) {r:List Oper} {st:St} {K:St→Prop} (h:∀K':St→Prop,(∀s,lE P c all (r.drop n) s K→K' s)→lE P c all (r.take n) st K'):lE P c all r st K:=by
 have go:∀(n:Nat) (r:List Oper) (st:St),lE P c all (r.take n) st (fun s=>lE P c all (r.drop n) s K)→lE P c all r st K:=by
  intro n;induction n with
  | zero=>intro r st h;exact h
  | succ n ih =>
   intro r st h;cases r with
   | nil=>exact h
   | cons o r =>
    simp only [List.take_succ_cons,List.drop_succ_cons] at h;unfold lE at h ⊢;split at h
    ·rename_i hg;have hd:=h.1;refine⟨hd,?_⟩;exact sK (fun s hs=>ih r s hs) h.2
    rename_i j want hg;split at h
    ·split at h
     ·exact⟨fun hb=>⟨(h.1 hb).1,sK (fun s hs=>ih r s hs) (h.1 hb).2⟩,fun hb=>⟨(h.2 hb).1,ih r _ (h.2 hb).2⟩⟩
     exact h.elim
    exact h.elim
 exact go n r st (h _ fun _ h=>h)
theorem aJg {c:Cfg} {all r:List Oper} {d:Option Tmp} {op:Op} {ty:TypeId} {pos:String} {after:Array Edge} {j t:Nat} {b want:Bool} {st:St} {K:St→Prop} (hg:aN all j=some t)(hs:st.env t= .d (.v (.bool b)))
  (h1:b=want→∀K':St→Prop,(∀s,lE P c all r s K→K' s)→Ki d st∧fA P c d op st K') (h2:b= !want→Ki d st∧lE P c all r (st.put d .und) K):lE P c all (⟨d,op,ty,pos,after,some (j,want)⟩::r) st K:=by
 rw [Eb];simp only [hg,hs];exact⟨fun hb=>h1 hb _ fun _ h=>h,h2⟩
theorem aG6 {c:Cfg} {all r:List Oper} {d:Option Tmp} {op:Op} {ty:TypeId} {pos:String} {after:Array Edge} {j t:Nat} {b want:Bool} {st:St} {K:St→Prop} (hg:aN all j=some t)(hs:st.env t= .d (.v (.bool b)))(hb:b=want)
  (h1:∀K':St→Prop,(∀s,lE P c all r s K→K' s)→Ki d st∧fA P c d op st K'):lE P c all (⟨d,op,ty,pos,after,some (j,want)⟩::r) st K:=
 aJg hg hs (fun _=>h1) fun h=>(by rw [hb] at h;cases want <;> cases h)
theorem yK {n t:Nat} {l:List (Nat×Slot)} {loc obj:List (List D)} {b:Bool} (hs:cO l t= .d (.v (.bool b))):St.mk' n l loc obj=St.mk' n ((t,.d (.bool b))::l) loc obj:=by
 unfold St.mk';congr 1;funext u;simp only [cO];split
 ·rename_i e;rw [e,hs]
 rfl
theorem aR {c:Cfg} {all r:List Oper} {n:Nat} {l:List (Nat×Slot)} {loc obj:List (List D)} {K:St→Prop} (t:Nat) {s:Slot} (hs:cO l t=s)
  (h:rW s.toD (lE P c all r (St.mk' n ((t,.d (.bool true))::l) loc obj) K) (lE P c all r (St.mk' n ((t,.d (.bool false))::l) loc obj) K)):lE P c all r (St.mk' n l loc obj) K:=by
 unfold rW at h;split at h
 ·rename_i b hb;have hs':cO l t= .d (.v (.bool b)):=by
   rw [hs];cases s with
   | d d=>simp only [Slot.toD] at hb;rw [hb]
   | lref n o=>simp [Slot.toD] at hb
  rw [yK hs'];cases b
  ·exact h.2 rfl
  exact h.1 rfl
 exact h.elim
def aIb(P:Program)(c:Cfg)(all r:List Oper)(K:St→Prop):St→Prop:=fun st=>lE P c all r st K
theorem aAk {c:Cfg} {all r:List Oper} {K:St→Prop} {st:St} :aIb P c all r K st=lE P c all r st K:=rfl
theorem aD5 {c:Cfg} {all r:List Oper} {d:Option Tmp} {op:Op} {ty:TypeId} {pos:String} {after:Array Edge} {st:St} {K:St→Prop} :lE P c all (⟨d,op,ty,pos,after,none⟩::r) st K=(Ki d st∧fA P c d op st (aIb P c all r K)):=rfl
def aAd(P:Program)(c:Cfg)(all r:List Oper)(ks:List DK)(K:St→Prop):St→Prop:=fun st=>fY P c all r ks st K
theorem Tl {c:Cfg} {all r:List Oper} {ks:List DK} {K:St→Prop} {st:St} :aAd P c all r ks K st=fY P c all r ks st K:=rfl
theorem aBo {c:Cfg} {all r:List Oper} {d:Option Tmp} {op:Op} {ty:TypeId} {pos:String} {after:Array Edge} {k:DK} {ks:List DK} {st:St} {K:St→Prop} :fY P c all (⟨d,op,ty,pos,after,none⟩::r) (k::ks) st K=(Ki d st∧rI P c d op k st (aAd P c all r ks K)):=rfl
@[congr] theorem aJq {op:BinOp} {t:TypeId} {x y x' y':Slot} {K:D→Prop} (hx:x=x')(hy:y=y'):oZ P op t x y K=oZ P op t x' y' K:=by rw [hx,hy]
@[congr] theorem aJe {op:BinOp} {k:IntKind} {a b a' b':Int} {K:D→Prop} (hx:a=a')(hy:b=b'):wT op k a b K=wT op k a' b' K:=by rw [hx,hy]
@[congr] theorem aJ8 {op:BinOp} {a b a' b':ByteArray} {K:D→Prop} (hx:a=a')(hy:b=b'):wX op a b K=wX op a' b' K:=by rw [hx,hy]
@[congr] theorem aJm {t:TypeId} {a b a' b':List D} {K:Bool→Prop} (hx:a=a')(hy:b=b'):tU P t a b K=tU P t a' b' K:=by rw [hx,hy]
@[congr] theorem aLc {op:UnOp} {x x':D} {K:D→Prop} (hx:x=x'):xL op x K=xL op x' K:=by rw [hx]
def sel(b:Bool)(s r:Slot):Slot:=if b=true then s else r
@[congr] theorem aMm {b b':Bool} {s r:Slot} (h:b=b'):sel b s r=sel b' s r:=by rw [h]
theorem Vr {s r:Slot} :sel true s r=s:=rfl
theorem aAw {s r:Slot} :sel false s r=r:=rfl
theorem uY(a:Nat)(s:Slot)(r:List (Nat×Slot))(t:Nat):cO ((a,s)::r) t=sel (t==a) s (cO r t):=by
 simp only [cO,sel,beq_iff_eq]
def gv3(s:Slot)(want:Bool):Option Bool:=xI s want
def gv2(o:Option Tmp)(st:St)(want:Bool):Option Bool:=match o with
 | some t=>gv3 (st.env t) want
 | none=>none
@[congr] theorem aLh {o o':Option Tmp} {st:St} {want:Bool} (h:o=o'):gv2 o st want=gv2 o' st want:=by rw [h]
theorem Vy(t:Tmp)(st:St)(want:Bool):gv2 (some t) st want=gv3 (st.env t) want:=rfl
theorem aAv(b want:Bool):gv3 (.d (.v (.bool b))) want=some b:=rfl
theorem aEw(want:Bool):gv3 (.d (.tup [])) want=some (!want):=rfl
def Xx(all:List Oper)(j:Nat)(st:St)(want:Bool):Option Bool:=match aN all j with
 | some t=>xI (st.env t) want
 | none=>none
theorem aDf(all:List Oper)(j:Nat)(st:St)(want:Bool):Xx all j st want=gv2 (aN all j) st want:=rfl
def Pi(g:Option Bool)(want:Bool)(A B:Prop):Prop:=match g with
 | some b=>(b=want→A)∧(b= !want→B)
 | none=>False
@[congr] theorem aI5 {g g':Option Bool} {want:Bool} {A B:Prop} (h:g=g'):Pi g want A B=Pi g' want A B:=by rw [h]
theorem aIy {A B:Prop} :Pi (some true) true A B=A:=by simp [Pi]
theorem aId {A B:Prop} :Pi (some true) false A B=B:=by simp [Pi]
theorem aGt {A B:Prop} :Pi (some false) true A B=B:=by simp [Pi]
theorem aGu {A B:Prop} :Pi (some false) false A B=A:=by simp [Pi]
theorem aIi {c:Cfg} {all r:List Oper} {d:Option Tmp} {op:Op} {ty:TypeId} {pos:String} {after:Array Edge} {j:Nat} {want:Bool} {st:St} {K:St→Prop} :lE P c all (⟨d,op,ty,pos,after,some (j,want)⟩::r) st K=
  Pi (Xx all j st want) want (Ki d st∧fA P c d op st (aIb P c all r K)) (Ki d st∧lE P c all r (st.put d .und) K):=by
 rw [Eb];unfold Xx Pi;split
 ·rename_i t ht;simp only [ht];split
  ·rename_i h;simp [h];exact fun _=>Iff.rfl
  rename_i h;simp [h]
 rename_i h;simp [h]
def Od(d:D)(A B:Prop):Prop:=match d with
 | .v (.bool t)=>(t=true→A)∧(t=false→B)
 | _=>False
@[congr] theorem aIg {d d':D} {A B:Prop} (h:d=d'):Od d A B=Od d' A B:=by rw [h]
theorem aI2 {A B:Prop} :Od (.v (.bool true)) A B=A:=by simp [Od]
theorem aG7 {A B:Prop} :Od (.v (.bool false)) A B=B:=by simp [Od]
theorem Tb {dst:Option Tmp} {c a b:Operand} {st:St} {K:St→Prop} :sC dst c a b st K=Od (st.rd c) ((st.rd a).plain=true∧K (st.put dst (.d (st.rd a).strip))) ((st.rd b).plain=true∧K (st.put dst (.d (st.rd b).strip))):=rfl
theorem Kh {c:Cfg} {dst:Option Tmp} {op:Op} {k:DK} {st:St} {K K':St→Prop} (hk:∀s,K s→K' s)(h:rI P c dst op k st K):rI P c dst op k st K':=by
 unfold rI at *;cases k with
 | op f=>exact⟨h.1,h.2.1,sK hk h.2.2⟩
 | pure=>
  simp only at *;split at h
  ·obtain⟨h1,r,h2,h3⟩:=h;exact⟨h1,r,h2,hk _ h3⟩
  exact h
 | pureC =>
  simp only at *;split at h
  ·split at h
   ·rename_i hf;obtain⟨h0,h1,r,h2,h3⟩:=h;exact⟨h0,h1,r,h2,hk _ h3⟩
   exact h.elim
  exact h
 | read=>
  simp only at *;split at h
  ·obtain⟨h1,r,h2,h3⟩:=h;exact⟨h1,r,h2,hk _ h3⟩
  exact h
 | det=>
  simp only at *;split at h
  ·obtain⟨h1,r,σ0,h2,h3⟩:=h;exact⟨h1,r,σ0,h2,hk _ h3⟩
  exact h
 | readT=>
  simp only at *;split at h
  ·obtain⟨h1,r,h2,h3⟩:=h;exact⟨h1,r,h2,hk _ h3⟩
  exact h
 | nd=>
  obtain⟨Q,h1,h2⟩:=h;exact⟨Q,h1,fun r σ0 hq=>hk _ (h2 r σ0 hq)⟩
 | detA=>
  simp only at *;split at h
  ·obtain⟨h1,r,J,h2,h3⟩:=h;exact⟨h1,r,J,h2,hk _ h3⟩
  exact h
 | pureT=>
  simp only at *;split at h
  ·obtain⟨h0,h1,r,h2,h3⟩:=h;exact⟨h0,h1,r,h2,hk _ h3⟩
  exact h
 | detT=>
  simp only at *;split at h
  ·obtain⟨h0,h1,r,σ0,h2,h3⟩:=h;exact⟨h0,h1,r,σ0,h2,hk _ h3⟩
  exact h
theorem yS {c:Cfg} {all:List Oper} {ks:List DK} {st:St} {K:St→Prop} :fY P c all [] ks st K=K st:=by unfold fY;rfl
theorem aF1 {c:Cfg} {all r:List Oper} {d:Option Tmp} {op:Op} {ty:TypeId} {pos:String} {after:Array Edge} {j:Nat} {want:Bool} {k:DK} {ks:List DK} {st:St} {K:St→Prop} :fY P c all (⟨d,op,ty,pos,after,some (j,want)⟩::r) (k::ks) st K=
  (Ki d st∧Pi (Xx all j st want) want (rI P c d op k st (aAd P c all r ks K)) (fY P c all r ks (st.put d .und) K)):=by
 conv=>lhs;unfold fY
 show(_∧_)=_
 congr 1;simp only;unfold Xx Pi;split
 ·rename_i t ht;simp only [ht];split
  ·rename_i h;simp [h];exact fun _=>Iff.rfl
  rename_i h;simp [h]
 rename_i h;simp [h]
theorem cG {c:Cfg} {all r:List Oper} {d:Option Tmp} {op:Op} {ty:TypeId} {pos:String} {after:Array Edge} {k:DK} {ks:List DK} {st:St} {K:St→Prop} (h:∀K':St→Prop,(∀s,fY P c all r ks s K→K' s)→Ki d st∧rI P c d op k st K'):fY P c all (⟨d,op,ty,pos,after,none⟩::r) (k::ks) st K:=
 h _ fun _ h=>h
theorem Lf {c:Cfg} {all:List Oper} (n:Nat) {r:List Oper} {ks:List DK} {st:St} {K:St→Prop} (hks:n≤ks.length)(h:∀K':St→Prop,(∀s,fY P c all (r.drop n) (ks.drop n) s K→K' s)→fY P c all (r.take n) (ks.take n) st K'):fY P c all r ks st K:=by
 have go : ∀ (n : Nat) (r : List Oper) (ks : List DK) (st : St), n ≤ ks.length → fY P c all (r.take n) (ks.take n) st (fun s => fY P c all (r.drop n) (ks.drop n) s K) → fY P c all r ks st K := by
  intro n;induction n with
  | zero=>intro r ks st _ h;simp only [List.take_zero,List.drop_zero,yS] at h;exact h
  | succ n ih =>
   intro r ks st hks h;cases ks with
   | nil=>simp at hks
   | cons k ks =>
    cases r with
    | nil=>simp only [List.take_nil,List.drop_nil,yS] at h ⊢;exact h
    | cons o r =>
     simp only [List.take_succ_cons,List.drop_succ_cons] at h;simp only [List.length_cons] at hks;unfold fY at h ⊢;refine⟨h.1,?_⟩;have h2:=h.2;split at h2
     ·exact Kh (fun s hs=>ih r ks s (by omega) hs) h2
     split at h2
     ·split at h2
      ·exact⟨fun hb=>Kh (fun s hs=>ih r ks s (by omega) hs) (h2.1 hb),fun hb=>ih r ks _ (by omega) (h2.2 hb)⟩
      exact h2.elim
     exact h2.elim
 exact go n r ks st hks (h _ fun _ h=>h)
theorem aDb {c:Cfg} {all r:List Oper} {d:Option Tmp} {op:Op} {ty:TypeId} {pos:String} {after:Array Edge} {j t:Nat} {b want:Bool} {k:DK} {ks:List DK} {st:St} {K:St→Prop} (hg:aN all j=some t)(hs:st.env t= .d (.v (.bool b)))(hb:b=want)
  (h1:∀K':St→Prop,(∀s,fY P c all r ks s K→K' s)→Ki d st∧rI P c d op k st K'):fY P c all (⟨d,op,ty,pos,after,some (j,want)⟩::r) (k::ks) st K:=by
 unfold fY;refine⟨(h1 _ fun _ h=>h).1,?_⟩;simp only [hg,hs];exact⟨fun _=>(h1 _ fun _ h=>h).2,fun h=>(by rw [hb] at h;cases want <;> cases h)⟩
theorem bN {c:Cfg} {all r:List Oper} {ks:List DK} {n:Nat} {l:List (Nat×Slot)} {loc obj:List (List D)} {K:St→Prop} (t:Nat) {s:Slot} (hs:cO l t=s)
  (h:rW s.toD (fY P c all r ks (St.mk' n ((t,.d (.bool true))::l) loc obj) K) (fY P c all r ks (St.mk' n ((t,.d (.bool false))::l) loc obj) K)):fY P c all r ks (St.mk' n l loc obj) K:=by
 unfold rW at h;split at h
 ·rename_i b hb;have hs':cO l t= .d (.v (.bool b)):=by
   rw [hs];cases s with
   | d d=>simp only [Slot.toD] at hb;rw [hb]
   | lref n o=>simp [Slot.toD] at hb
  rw [yK hs'];cases b
  ·exact h.2 rfl
  exact h.1 rfl
 exact h.elim
def bZ:List Nat→List (Nat×Slot)→List (Nat×Slot)
 | _, []=> []
 | W,(t,s)::r=>if W.contains t then bZ W r else(t,s)::bZ (t::W) r
theorem aF8(n:Nat)(s:Slot):Bj n s (.d .any)=True:=by
 unfold Bj;split <;> simp_all
theorem aJn(n:Nat)(x:D):Bj n (.d x) (.d x)=True:=by
 cases x with
 | sl o es=>cases o <;> simp [Bj]
 | _=>simp [Bj]
theorem aFh(n:Nat)(es:List D):Bj n (.d (.sl true es)) (.d (.sl false es))=True:=by
 unfold Bj;simp
theorem Vx(n m o:Nat):Bj n (.lref m o) (.lref m o)=(m<n):=by
 unfold Bj;simp
def pH(n:Nat)(env:Nat→Slot):List (Nat×Slot)→Prop
 | []=>True
 | (a,s)::r=>Bj n (env a) s∧pH n env r
theorem Sn(n:Nat)(env:Nat→Slot):pH n env []=True:=rfl
theorem Kt(n:Nat)(env:Nat→Slot)(a:Nat)(s:Slot)(r:List (Nat×Slot)):pH n env ((a,s)::r)=(Bj n (env a) s∧pH n env r):=rfl
theorem mP {n:Nat} {env:Nat→Slot} :∀ {l:List (Nat×Slot)},pH n env l→∀p∈l,Bj n (env p.1) p.2
 | [],_,p,hp=>by simp at hp
 | (a,s)::r,h,p,hp=>by
  rcases List.mem_cons.1 hp with rfl | hp
  ·exact h.1
  exact mP h.2 p hp
theorem dG {st:St} {n:Nat} {l:List (Nat×Slot)} {loc obj:List (List D)} (hn:st.n=n)(hl:pH loc.length st.env l)(hloc:loc<+:st.loc)(hobj:st.obj=obj):Weak st (St.mk' n l loc obj):=
 xW hn (mP hl) hloc hobj
theorem bE {α:Type} {n:Nat} {l l2:List (Nat×Slot)} {loc obj:List (List D)} (F:α→List (Nat×Slot))(W:List Nat)(p:α→Prop)(m:α→Nat)(x0:α) {body:Code} {Q:Exit→St→Prop}
  (hl:bZ W l=l2) (hF:pH loc.length (cO l) (F x0++l2)) (hp:p x0)
  (h:∀x,p x→dI rr dfr P body (sU (fun x=>St.mk' n (F x++l2) loc obj) p m x Q) (St.mk' n (F x++l2) loc obj)):dI rr dfr P (.loop body) Q (St.mk' n l loc obj):=
 zU (fun x=>St.mk' n (F x++l2) loc obj) p m x0 (xW rfl (mP hF) (List.prefix_refl _) rfl) hp h
theorem Qm {α:Type} {n:Nat} {l l2:List (Nat×Slot)} {loc obj:List (List D)} (F:α→List (Nat×Slot))(G:α→List (List D))(W:List Nat)(p:α→Prop)(m:α→Nat)(x0:α) {body:Code} {Q:Exit→St→Prop}
  (hl:bZ W l=l2) (hF:pH (G x0).length (cO l) (F x0++l2)) (hG:G x0=loc) (hp:p x0)
  (h:∀x,p x→dI rr dfr P body (sU (fun x=>St.mk' n (F x++l2) (G x) obj) p m x Q) (St.mk' n (F x++l2) (G x) obj)):dI rr dfr P (.loop body) Q (St.mk' n l loc obj):=
 zU (fun x=>St.mk' n (F x++l2) (G x) obj) p m x0 (xW rfl (mP hF) (by rw [hG];exact List.prefix_refl _) rfl) hp h
theorem jU {α:Type} {n:Nat} {l l2:List (Nat×Slot)} {loc obj:List (List D)} (F:α→List (Nat×Slot))(G H:α→List (List D))(W:List Nat)(p:α→Prop)(m:α→Nat)(x0:α) {body:Code} {Q:Exit→St→Prop}
  (hl:bZ W l=l2) (hF:pH (G x0).length (cO l) (F x0++l2)) (hG:G x0=loc) (hH:H x0=obj) (hp:p x0)
  (h:∀x,p x→dI rr dfr P body (sU (fun x=>St.mk' n (F x++l2) (G x) (H x)) p m x Q) (St.mk' n (F x++l2) (G x) (H x))):dI rr dfr P (.loop body) Q (St.mk' n l loc obj):=
 zU (fun x=>St.mk' n (F x++l2) (G x) (H x)) p m x0 (xW rfl (mP hF) (by rw [hG];exact List.prefix_refl _) hH.symm) hp h
theorem dU {α:Type} {S:α→St} {p:α→Prop} {m:α→Nat} {x:α} {Q:Exit→St→Prop} {s:St} (y:α)(hp:p y)(hm:m y<m x)(hw:Weak s (S y)):sU S p m x Q .normal s:=⟨y,hp,hm,hw⟩
theorem Nr(n:Nat):D.strip (.mref n)= .mref n:=rfl
theorem aFe(n:Nat):D.s1 (.mref n)= .mref n:=rfl
theorem aDd(n:Nat):D.s2 (.mref n)= .mref n:=rfl
theorem Ky(n:Nat):D.plain (.mref n)=true:=rfl
theorem Mm(n:Nat):D.solid (.mref n)=true:=rfl
theorem Jj(n:Nat):D.ncells (.mref n)=1:=rfl
theorem Md(n:Nat):D.cells (.mref n)= [.mref n]:=rfl
theorem aAy(kd:TypeDesc)(c:Nat)(kvs:List (Value×Nat×D)):D.strip (.mo kd c kvs)= .mz:=rfl
theorem aJx(kd:TypeDesc)(c:Nat)(kvs:List (Value×Nat×D)):D.s1 (.mo kd c kvs)= .mz:=rfl
theorem aJy(kd:TypeDesc)(c:Nat)(kvs:List (Value×Nat×D)):D.s2 (.mo kd c kvs)= .mz:=rfl
theorem aA1(kd:TypeDesc)(c:Nat)(kvs:List (Value×Nat×D)):D.plain (.mo kd c kvs)=true:=rfl
theorem aAr(kd:TypeDesc)(c:Nat)(kvs:List (Value×Nat×D)):D.solid (.mo kd c kvs)=true:=rfl
theorem Uj(kd:TypeDesc)(c:Nat)(kvs:List (Value×Nat×D)):D.ncells (.mo kd c kvs)=1:=rfl
theorem Wh(kd:TypeDesc)(c:Nat)(kvs:List (Value×Nat×D)):D.cells (.mo kd c kvs)= [.mo kd c kvs]:=rfl
theorem Rl(n a b:Nat)(l:List Nat):D.strip (.mit n a l b)= .any:=rfl
theorem aGo(n a b:Nat)(l:List Nat):D.s1 (.mit n a l b)= .any:=rfl
theorem aIh(n a b:Nat)(l:List Nat):D.s2 (.mit n a l b)= .any:=rfl
theorem Rf(n a b:Nat)(l:List Nat):D.plain (.mit n a l b)=true:=rfl
theorem Qu(n a b:Nat)(l:List Nat):D.solid (.mit n a l b)=false:=rfl
theorem Yp(n c:Nat)(kd:TypeDesc)(kvs:List (Value×Nat×D)):D.strip (.mp n kd c kvs)= .mref n:=rfl
theorem aKd(n c:Nat)(kd:TypeDesc)(kvs:List (Value×Nat×D)):D.s1 (.mp n kd c kvs)= .mref n:=rfl
theorem aJl(n c:Nat)(kd:TypeDesc)(kvs:List (Value×Nat×D)):D.s2 (.mp n kd c kvs)= .mref n:=rfl
theorem aB4(n c:Nat)(kd:TypeDesc)(kvs:List (Value×Nat×D)):D.plain (.mp n kd c kvs)=true:=rfl
theorem Yj(n c:Nat)(kd:TypeDesc)(kvs:List (Value×Nat×D)):D.solid (.mp n kd c kvs)=true:=rfl
theorem Sr(n c:Nat)(kd:TypeDesc)(kvs:List (Value×Nat×D)):D.ncells (.mp n kd c kvs)=1:=rfl
theorem aAe(n c:Nat)(kd:TypeDesc)(kvs:List (Value×Nat×D)):D.cells (.mp n kd c kvs)= [.mp n kd c kvs]:=rfl
theorem Qw(t:TypeId)(d:D):D.strip (.ifc t d)= .ifc t d:=rfl
theorem aIs(t:TypeId)(d:D):D.s1 (.ifc t d)= .ifc t d:=rfl
theorem aH3(t:TypeId)(d:D):D.s2 (.ifc t d)= .ifc t d:=rfl
theorem Ti(t:TypeId)(d:D):D.plain (.ifc t d)=true:=rfl
theorem Rj(t:TypeId)(d:D):D.solid (.ifc t d)=true:=rfl
theorem Nd(t:TypeId)(d:D):D.ncells (.ifc t d)=1:=rfl
theorem Ut(t:TypeId)(d:D):D.cells (.ifc t d)= [.ifc t d]:=rfl
theorem Zz(n:Nat):D.arr (.mref n)=true:=rfl
attribute [simp] aAy aJx aJy aA1 aAr Uj Wh Rl aGo aIh Rf Qu oB rZ oQ aGe Nr aFe aDd Ky Mm Jj Md Yp aKd aJl aB4 Yj Sr aAe Qw aIs aH3 Ti Rj Nd Ut Zz
theorem Sf(n a b c:Nat):D.strip (.slo n a b c)= .slo n a b c:=rfl
theorem aB3(n:Nat):D.strip (.xl n)= .xl n:=rfl
theorem aA2(k:Nat)(es:List D):D.strip (.xs k es)= .xl es.length:=rfl
theorem aIm(n a b c:Nat):D.s2 (.slo n a b c)= .slo n a b c:=rfl
theorem aJt(n:Nat):D.s2 (.xl n)= .xl n:=rfl
theorem aKj(k:Nat)(es:List D):D.s2 (.xs k es)= .xl es.length:=rfl
theorem aHs(f:Go.Fn)(a b:List D):D.s2 (.clo f a b)= .clo f a b:=rfl
theorem aHc(n a b c:Nat):D.s1 (.slo n a b c)= .slo n a b c:=rfl
theorem aJi(n:Nat):D.s1 (.xl n)= .xl n:=rfl
theorem aJu(k:Nat)(es:List D):D.s1 (.xs k es)= .xl es.length:=rfl
theorem aGp(f:Go.Fn)(a b:List D):D.s1 (.clo f a b)= .clo f a b:=rfl
theorem Tg(n a b c:Nat):D.plain (.slo n a b c)=true:=rfl
theorem Zo(n:Nat):D.plain (.xl n)=true:=rfl
theorem aBf(k:Nat)(es:List D):D.plain (.xs k es)=true:=rfl
theorem Rv(n a b c:Nat):D.solid (.slo n a b c)=true:=rfl
theorem aBc(n:Nat):D.solid (.xl n)=true:=rfl
theorem Zt(k:Nat)(es:List D):D.solid (.xs k es)=true:=rfl
theorem Li(n a b c:Nat):D.ncells (.slo n a b c)=1:=rfl
theorem Uh(n:Nat):D.ncells (.xl n)=1:=rfl
theorem Rp(k:Nat)(es:List D):D.ncells (.xs k es)=1:=rfl
theorem Sh(n a b c:Nat):D.cells (.slo n a b c)= [.slo n a b c]:=rfl
theorem Wf(n:Nat):D.cells (.xl n)= [.xl n]:=rfl
theorem Xt(k:Nat)(es:List D):D.cells (.xs k es)= [.xs k es]:=rfl
theorem aKb(x:Value):D.arr (.v x)=true:=rfl
theorem aH7(es:List D):D.arr (.sl false es)=true:=rfl
theorem aE6(cs:List D):D.arr (.agg cs)=cs.all D.flat:=rfl
theorem aIl(x:Value):D.flat (.v x)=true:=rfl
theorem aE2(es:List D):D.flat (.sl false es)=true:=rfl
theorem Zu(n o:Nat):D.flat (.ref n o)=true:=rfl
def vG:List (Nat×List D)→List (List D)→List (List D)
 | [],l=>l
 | (n,c)::r,l=>(vG r l).set n c
theorem nE(l:List (List D)):vG [] l=l:=rfl
theorem lU(n:Nat)(c:List D)(r:List (Nat×List D))(l:List (List D)):vG ((n,c)::r) l=(vG r l).set n c:=rfl
theorem nQ {P:Program} {α:Type} {n:Nat} {l l2:List (Nat×Slot)} {loc obj:List (List D)} (F:α→List (Nat×Slot))(M N:α→List (Nat×List D))(W:List Nat)(p:α→Prop)(m:α→Nat)(x0:α) {body:Code} {Q:Exit→St→Prop}
  (hl:bZ W l=l2) (hF:pH (vG (M x0) loc).length (cO l) (F x0++l2)) (hG:vG (M x0) loc=loc) (hH:vG (N x0) obj=obj) (hp:p x0)
  (h:∀x,p x→dI rr dfr P body (sU (fun x=>St.mk' n (F x++l2) (vG (M x) loc) (vG (N x) obj)) p m x Q) (St.mk' n (F x++l2) (vG (M x) loc) (vG (N x) obj))):dI rr dfr P (.loop body) Q (St.mk' n l loc obj):=
 jU F (fun x=>vG (M x) loc) (fun x=>vG (N x) obj) W p m x0 hl hF hG hH hp h
theorem Ty {α:Type} (l:List α)(a:α):(l++ [a])[l.length]?=some a:=by simp
theorem kB {α:Type} (l:List α)(a b:α):(l++ [a]).set l.length b=l++ [b]:=by simp
def pG:List Nat→List (Nat×Slot)→List (Nat×Slot)
 | [],_=> []
 | t::r,l=>(t,cO l t)::pG r l
theorem Dv(l:List (Nat×Slot)):pG [] l= []:=rfl
theorem sP(t:Nat)(r:List Nat)(l:List (Nat×Slot)):pG (t::r) l=(t,cO l t)::pG r l:=rfl
theorem wI(l:List (Nat×Slot))(u:Nat):∀K:List Nat,cO (pG K l) u=cO l u∨cO (pG K l) u= .any
 | []=> .inr rfl
 | t::r=>by
  rw [sP,mN];split
  ·rename_i h;subst h;exact .inl rfl
  exact wI l u r
theorem aBd {P:Program} (K:List Nat) {l2:List (Nat×Slot)} {c:Code} {n:Nat} {l:List (Nat×Slot)} {loc obj:List (List D)} {Q:Exit→St→Prop} (hl:pG K l=l2)(h:dI rr dfr P c Q (St.mk' n l2 loc obj)):dI rr dfr P c Q (St.mk' n l loc obj):=by
 subst hl;intro w0 g0 w g tmps hf hok hn;refine h w0 g0 w g tmps hf ⟨hok.mem,hok.xlt,fun t=>?_,hok.ll,hok.loc,hok.ol,hok.obj⟩ hn;have hs:=hok.slot t;show SlotOk w g t (cO (pG K l) t) _
 rcases wI l t K with e | e
 ·rw [e];exact hs
 rw [e];exact⟨.any _,.flat _ _ _ rfl⟩
theorem kH {P:Program} (ts k:Nat) {es:List D} {c:Code} {n:Nat} {l:List (Nat×Slot)} {loc obj:List (List D)} {Q:Exit→St→Prop} (hs:cO l ts= .d (.xs k es))(hk0:0<k)
  (h:∀(cap:Nat) (rest:List D),es.length≤cap→cap≤maxLen→rest.length=(cap - es.length) * k→0<k→(∀d∈es,d.ncells=k∧d.arr=true)→dI rr dfr P c Q (St.mk' n ((ts,.d (.slo obj.length 0 es.length cap))::l) loc (obj++ [es.flatMap D.cells++rest]))):dI rr dfr P c Q (St.mk' n l loc obj):=by
 intro w0 g0 w g tmps hf hok hn;obtain⟨cap,rest,g',a1,a2,a3,a4,a5,_,hfr,hok'⟩:=hok.openX ts k es hs hk0;exact h cap rest a1 a2 a3 a4 a5 w0 g0 w g' tmps (hf.trans hfr) hok' hn
theorem fW {P:Program} (ts k:Nat) {es:List D} {c:Code} {n:Nat} {l:List (Nat×Slot)} {loc obj:List (List D)} {Q:Exit→St→Prop} (hs:cO l ts= .d (.xs k es))(hk0:0<k)
  (h:∀(cap:Nat) (rest:List D),es.length≤cap→cap≤maxLen→rest=List.replicate ((cap - es.length) * k) .any→0<k→(∀d∈es,d.ncells=k∧d.arr=true)→dI rr dfr P c Q (St.mk' n ((ts,.d (.slo obj.length 0 es.length cap))::l) loc (obj++ [es.flatMap D.cells++rest]))):dI rr dfr P c Q (St.mk' n l loc obj):=by
 intro w0 g0 w g tmps hf hok hn;obtain⟨cap,rest,g',a1,a2,a3,a4,a5,_,hfr,hok'⟩:=hok.openX2 ts k es hs hk0;exact h cap rest a1 a2 a3 a4 a5 w0 g0 w g' tmps (hf.trans hfr) hok' hn
theorem cU {P:Program} (ts k m len cap:Nat)(es cs:List D) {c:Code} {n:Nat} {l:List (Nat×Slot)} {loc obj:List (List D)} {Q:Exit→St→Prop} (hs:cO l ts= .d (.slo m 0 len cap))(hm:obj[m]?=some cs)(hk:0<k)(hcs:cs.length=cap * k)(hl:es.length=len)
  (hes:∀d∈es,d.ncells=k∧d.arr=true) (he:es.flatMap D.cells<+:cs) (h:dI rr dfr P c Q (St.mk' n ((ts,.d (.xs k es))::l) loc (obj.set m []))):dI rr dfr P c Q (St.mk' n l loc obj):=by
 intro w0 g0 w g tmps hf hok hn;obtain⟨g',_,hfr,hok'⟩:=hok.closeX ts k m len cap es cs hs hm hk hcs hl hes he;exact h w0 g0 w g' tmps (hf.trans hfr) hok' hn
theorem aCm {α:Type} (f:α→D)(l:List α)(k:Nat)(h:k<l.length):(l.map f).getD k .any=f l[k]:=by
 simp [List.getD,h]
theorem Bq {α:Type} (f:α→D)(l:List α)(k:Nat)(h:k<l.length):(l.map f)[k]?=some (f l[k]):=by
 simp [h]
theorem aDp(n:Int):Vk .i64 n=(-9223372036854775808≤n∧n≤9223372036854775807):=by
 unfold Vk;rfl
theorem aIn(n:Int):Vk .u8 n=(0≤n∧n≤255):=by
 unfold Vk;rfl
end
theorem Xe:Gb []=true:=rfl
theorem Td(r:List (Option Holder)):Gb (none::r)=Gb r:=by simp [Gb]
theorem Tx(h:Holder)(r:List (Option Holder)):Gb (some h::r)=(!r.contains (some h) && Gb r):=by
 simp only [Gb,List.filterMap_cons,id,List.nodup_cons,Bool.decide_and,List.contains_eq_mem];congr 1;rw [← decide_not];congr 1;simp [List.mem_filterMap]
theorem Sg:maxLen=9223372036854775807:=rfl
theorem aF7(n:Nat)(l:List (Nat×Slot))(loc obj:List (List D)):({ n:=n,env:=cO l,loc:=loc,obj:=obj } :St)=St.mk' n l loc obj:=rfl
def vN:Slot→Slot
 | .d x=> .d x.strip
 | s=>s
def jZ:List Nat→List (Nat×Slot)→List (Nat×Slot)
 | [],l=>l
 | t::r,l=>(t,vN (cO l t))::jZ r l
theorem xF(l:List (Nat×Slot))(u:Nat):∀ts:List Nat,cO (jZ ts l) u=if u∈ts then vN (cO l u)else cO l u
 | []=>by simp [jZ]
 | t::r=>by
  rw [jZ,mN,xF l u r];by_cases h:u=t
  ·subst h;simp
  simp [h]
theorem lG(l:List (Nat×Slot))(ts:List (Option Nat)):eI ts (cO l)=cO (jZ (ts.filterMap id) l):=by
 funext u;rw [xF];by_cases h:some u∈ts
 ·have h1:ts.contains (some u)=true:=by simpa using h
  have h2:u∈ts.filterMap id:=by simpa using h
  simp only [eI,h1,if_true,if_pos h2,vN];split <;> simp_all
 have h1:ts.contains (some u)=false:=by simpa using h
 have h2:¬u∈ts.filterMap id:=by simpa using h
 simp only [eI,h1,if_neg h2];rfl
theorem Lh {P:Program} {d:Nat} {f:FuncId} {args:List Operand} {n:Nat} {l:List (Nat×Slot)} {loc obj:List (List D)} {K:St→Prop} :kC P (some d) f args (St.mk' n l loc obj) K=
  ((args.filterMap bP).Nodup∧(∀x∈args,rV ((St.mk' n l loc obj).rdS x)=true∧((St.mk' n l loc obj).rd x).plain=true)∧
   Ct P f (args.map (pB (St.mk' n l loc obj))) obj (fun r σ'=>K (St.mk' n ((d,.d r)::jZ (args.filterMap bP) l) loc σ'))):=by
 unfold kC;have e:(args.map bP).filterMap id=args.filterMap bP:=by rw [List.filterMap_map];rfl
 simp only [xR,yB,xT,Qc,lG,e];rfl
theorem It(l:List (Nat×Slot)):jZ [] l=l:=rfl
theorem Fy(t:Nat)(r:List Nat)(l:List (Nat×Slot)):jZ (t::r) l=(t,vN (cO l t))::jZ r l:=rfl
theorem aAu(x:D):vN (.d x)= .d x.strip:=rfl
theorem Jn(a b:Nat):vN (.lref a b)= .lref a b:=rfl
theorem Qz:List.filterMap bP []= []:=rfl
theorem Tm(t:Tmp)(r:List Operand):List.filterMap bP (.tmp t::r)=t::List.filterMap bP r:=rfl
theorem Ip(v:Value)(r:List Operand):List.filterMap bP (.const v::r)=List.filterMap bP r:=rfl
theorem Mt(v:FuncId)(r:List Operand):List.filterMap bP (.func v::r)=List.filterMap bP r:=rfl
theorem Gc {P:Program} {c:Cfg} {d:Nat} {f:FuncId} {args:Array Operand} {ts:Array TypeId} {n:Nat} {l:List (Nat×Slot)} {loc obj:List (List D)} {K:St→Prop} :
  rI P c (some d) (.call ⟨.value (.func f),args,ts⟩) .pureT (St.mk' n l loc obj) K=
  ((args.toList.filterMap bP).Nodup∧(∀x∈args.toList,rV ((St.mk' n l loc obj).rdS x)=true∧((St.mk' n l loc obj).rd x).plain=true)∧
   ∃r,(∀σ,Ct P f (args.toList.map (pB (St.mk' n l loc obj))) σ fun r' σ'=>r'=r∧σ'=σ)∧K (St.mk' n ((d,.d r)::jZ (args.toList.filterMap bP) l) loc obj)):=by
 have e:(args.toList.map bP).filterMap id=args.toList.filterMap bP:=by rw [List.filterMap_map];rfl
 simp only [rI,xR,yB,xT,Qc,lG,e];rfl
theorem Hi {P:Program} {c:Cfg} {d:Nat} {f:FuncId} {args:Array Operand} {ts:Array TypeId} {n:Nat} {l:List (Nat×Slot)} {loc obj:List (List D)} {K:St→Prop} :
  rI P c (some d) (.call ⟨.value (.func f),args,ts⟩) .detT (St.mk' n l loc obj) K=
  ((args.toList.filterMap bP).Nodup∧(∀x∈args.toList,rV ((St.mk' n l loc obj).rdS x)=true∧((St.mk' n l loc obj).rd x).plain=true)∧
   ∃r σ0,(Ct P f (args.toList.map (pB (St.mk' n l loc obj))) obj fun r' σ'=>r'=r∧σ'=σ0)∧K (St.mk' n ((d,.d r)::jZ (args.toList.filterMap bP) l) loc σ0)):=by
 have e:(args.toList.map bP).filterMap id=args.toList.filterMap bP:=by rw [List.filterMap_map];rfl
 simp only [rI,xR,yB,xT,Qc,lG,e];rfl
theorem aIz {P:Program} {c:Cfg} {d:Option Tmp} {op:Op} {f:Fl} {st:St} {K:St→Prop} :rI P c d op (.op f) st K=(gV op=false∧kE c d st op=f∧fA P c d op st K):=rfl
theorem Wy {P:Program} {c:Cfg} {d:Option Tmp} {f:FuncId} {args:Array Operand} {ts:Array TypeId} {st:St} {K:St→Prop} :rI P c d (.call ⟨.value (.func f),args,ts⟩) .pure st K=
  (iD args.toList st∧∃r,(∀σ,Ct P f (eC args.toList st) σ fun r' σ'=>r'=r∧σ'=σ)∧K (st.put d (.d r))):=rfl
def aKc(P:Program)(dst:Option Tmp)(d:D)(args:List Operand)(st:St)(K:St→Prop):Prop:=match d with
 | .clo (.func fid) first caps=>(∀d∈first++caps,d.plain=true)∧iD args st∧∃r,(∀σ,Ct P fid (first.map D.strip++eC args st++caps.map D.strip) σ fun r' σ'=>r'=r∧σ'=σ)∧K (st.put dst (.d r))
 | _=>False
theorem Th {P:Program} {c:Cfg} {d:Option Tmp} {f:Operand} {args:Array Operand} {ts:Array TypeId} {st:St} {K:St→Prop} :rI P c d (.call ⟨.value f,args,ts⟩) .pureC st K=aKc P d (st.rd f) args.toList st K:=rfl
theorem aF6 {P:Program} {dst:Option Tmp} {fid:FuncId} {first caps:List D} {args:List Operand} {st:St} {K:St→Prop} :aKc P dst (.clo (.func fid) first caps) args st K=((∀d∈first++caps,d.plain=true)∧iD args st∧∃r,(∀σ,Ct P fid (first.map D.strip++eC args st++caps.map D.strip) σ fun r' σ'=>r'=r∧σ'=σ)∧K (st.put dst (.d r))):=rfl
theorem aB6 {P:Program} {c:Cfg} {d:Option Tmp} {f:FuncId} {args:Array Operand} {ts:Array TypeId} {st:St} {K:St→Prop} :rI P c d (.call ⟨.value (.func f),args,ts⟩) .read st K=
  (iD args.toList st∧∃r,(Ct P f (eC args.toList st) st.obj fun r' σ'=>r'=r∧σ'=st.obj)∧K (st.put d (.d r))):=rfl
theorem aIv {P:Program} {c:Cfg} {d:Option Tmp} {f:FuncId} {args:Array Operand} {ts:Array TypeId} {st:St} {K:St→Prop} :rI P c d (.call ⟨.value (.func f),args,ts⟩) .nd st K=
  ∃Q,(iD args.toList st∧Ct P f (eC args.toList st) st.obj Q∧∃r σ0,Q r σ0)∧∀r σ0,Q r σ0→K (({ st with obj:=σ0 } :St).put d (.d r)):=rfl
theorem Tw {P:Program} {c:Cfg} {d:Option Tmp} {f:FuncId} {args:Array Operand} {ts:Array TypeId} {st:St} {K:St→Prop} :rI P c d (.call ⟨.value (.func f),args,ts⟩) .readT st K=
  (iD args.toList st∧∃r,(∀J,Ct P f (eC args.toList st) (st.obj++J) fun r' σ'=>r'=r∧σ'=st.obj++J)∧K (st.put d (.d r))):=rfl
theorem Xh {P:Program} {c:Cfg} {d:Option Tmp} {f:FuncId} {args:Array Operand} {ts:Array TypeId} {st:St} {K:St→Prop} :rI P c d (.call ⟨.value (.func f),args,ts⟩) .detA st K=
  (iD args.toList st∧∃r J,(Ct P f (eC args.toList st) st.obj fun r' σ'=>r'=r∧σ'=st.obj++J)∧K (({ st with obj:=st.obj++J } :St).put d (.d r))):=rfl
theorem aDk {P:Program} {c:Cfg} {d:Option Tmp} {f:FuncId} {args:Array Operand} {ts:Array TypeId} {st:St} {K:St→Prop} :rI P c d (.call ⟨.value (.func f),args,ts⟩) .det st K=
  (iD args.toList st∧∃r σ0,(Ct P f (eC args.toList st) st.obj fun r' σ'=>r'=r∧σ'=σ0)∧K (({ st with obj:=σ0 } :St).put d (.d r))):=rfl
theorem aFf {P:Program} {t:Nat} {a b:Code} {s:Slot} {n:Nat} {l:List (Nat×Slot)} {loc obj:List (List D)} {Q:Exit→St→Prop} (hs:cO l t=s)
  (h:rW s.toD (dI rr dfr P a Q (St.mk' n ((t,.d (.bool true))::l) loc obj)) (dI rr dfr P b Q (St.mk' n ((t,.d (.bool false))::l) loc obj))):dI rr dfr P (.cond (.tmp t) a b) Q (St.mk' n l loc obj):=by
 unfold rW at h;split at h
 ·rename_i v hv;have hs':cO l t= .d (.v (.bool v)):=by
   rw [hs];cases s with
   | d d=>simp only [Slot.toD] at hv;rw [hv]
   | lref n o=>simp [Slot.toD] at hv
  rw [yK hs'];cases v with
  | true=>exact bD (t:=true) (by simp [St.rd,St.rdS,mN,St.mk']) (fun _=>h.1 rfl) (fun h=>by cases h)
  | false=>exact bD (t:=false) (by simp [St.rd,St.rdS,mN,St.mk']) (fun h=>by cases h) (fun _=>h.2 rfl)
 exact h.elim
def mQ (o : Oper) : Oper := ⟨o.dst, o.op, 0, "", #[], o.guard⟩
theorem kZ:List.map mQ []= []:=rfl
theorem jR (d : Option Tmp) (op : Op) (ty : TypeId) (pos : String) (after : Array Edge) (g : Option (Nat × Bool)) (r : List Oper) : List.map mQ (⟨d, op, ty, pos, after, g⟩ :: r) = ⟨d, op, 0, "", #[], g⟩ :: List.map mQ r := rfl
theorem zE {P:Program} {c:Cfg} {all:List Oper} {K:St→Prop} :∀(r:List Oper) (st:St),lE P c all (r.map mQ) st K=lE P c all r st K
 | [],_=>rfl
 | o :: r, st => by
  have ih:(fun st'=>lE P c all (r.map mQ) st' K)=fun st'=>lE P c all r st' K:=funext fun st'=>zE r st';show lE P c all (mQ o::r.map mQ) st K=_
  unfold lE;simp only [mQ,ih];split
  ·rfl
  split
  ·split
   ·rw [zE r];rfl
   rfl
  rfl
theorem vM {P:Program} {c:Cfg} {all:List Oper} {K:St→Prop} :∀(r:List Oper) (ks:List DK) (st:St),fY P c all (r.map mQ) ks st K=fY P c all r ks st K
 | [],_,_=>rfl
 | _::_, [],_=>rfl
 | o :: r, k :: ks, st => by
  have ih:(fun st'=>fY P c all (r.map mQ) ks st' K)=fun st'=>fY P c all r ks st' K:=funext fun st'=>vM r ks st';show fY P c all (mQ o::r.map mQ) (k::ks) st K=_
  unfold fY;simp only [mQ,ih];congr 1;split
  ·rfl
  split
  ·split
   ·rw [vM r]
   rfl
  rfl
theorem mX {P:Program} {c:Cfg} {id:Nat} {ops ops':List Oper} {Q:Exit→St→Prop} {st:St} (he:ops.map mQ=ops')(h:∀all:List Oper,(∀j,aN all j=aN ops j)→∀K:St→Prop,(∀s,Q .normal s→K s)→lE P c all ops' st K):dI rr dfr P (.region id ops.toArray false) Q st:=
 Kz fun K hK=>by
  have:=h ops (fun _=>rfl) K hK
  rwa [← he,zE] at this
theorem Cx {P:Program} {c:Cfg} {id:Nat} {ops ops':List Oper} (ks:List DK) {Q:Exit→St→Prop} {st:St} (hm:P.follows .mixedOrders=true)(hok:zS c ops ks=true)(he:ops.map mQ=ops')
  (h:∀all:List Oper,(∀j,aN all j=aN ops j)→∀K:St→Prop,(∀s,Q .normal s→K s)→fY P c all ops' ks st K):dI rr dfr P (.region id ops.toArray true) Q st:=
 aCb ks hm hok fun K hK=>by
  have:=h ops (fun _=>rfl) K hK
  rwa [← he,vM] at this
def Ns:D→Prop
 | .v (.slice none 0 0)=>True
 | _=>False
def zR(x y:D):Prop:=y=x∨(x.plain=true∧y=x.strip)∨(Ns x∧(y= .sl false []∨y= .sl true []))
theorem Ml:Ns (.v (.slice none 0 0))=True:=rfl
def jM:List D→List D→Prop
 | [], []=>True
 | a::r,b::q=>zR a b∧jM r q
 | _,_=>False
theorem eV {a b:List D} (h:a=b):jM a b:=by
 subst h;induction a with
 | nil=>trivial
 | cons x r ih=>exact⟨.inl rfl,ih⟩
theorem yL:∀ {a b:List D},jM a b→a.length=b.length
 | [], [],_=>rfl
 | _::_,_::_,h=>by simp [yL h.2]
 | [],_::_,h=>h.elim
 | _::_, [],h=>h.elim
theorem yN:∀ {a b:List D},jM a b→∀(i:Nat) (y:D),b[i]?=some y→∃x,a[i]?=some x∧zR x y
 | x::_,_::_,h,0,y,hy=>by simp at hy;subst hy;exact⟨x,rfl,h.1⟩
 | _::_,_::_,h,i+1,y,hy=>by simpa using yN h.2 i y (by simpa using hy)
 | [], [],_,_,_,hy=>by simp at hy
 | [],_::_,h,_,_,_=>h.elim
 | _::_, [],h,_,_,_=>h.elim
theorem Ct.of_le {P:Program} {f:FuncId} {a a':List D} {σ σ':List (List D)} {Q:D→List (List D)→Prop} (h:Ct P f a σ Q)(e:jM a' a)(e2:σ'=σ):Ct P f a' σ' Q:=by
 subst e2;refine⟨h.1,fun w g vs hs hb ho=>h.2 w g vs (by rw [hs,yL e]) hb ⟨ho.mem,ho.xlt,fun t=>?_,ho.ll,ho.loc,ho.ol,ho.obj⟩⟩;have hsl:=ho.slot t;simp only [St.ofArgs] at hsl ⊢;unfold eB at hsl ⊢;cases hy:a[t]? with
 | none=>exact⟨.any _,.flat _ _ _ rfl⟩
 | some y =>
  obtain⟨x,hx,hle⟩:=yN e t y hy;rw [hx] at hsl;rcases hle with rfl | ⟨hp,rfl⟩ | ⟨hn,hy⟩
  ·exact hsl
  ·exact lQ hsl.1 hp t
  have hxn:x= .v (.slice none 0 0):=by
   unfold Ns at hn;split at hn
   ·rfl
   exact hn.elim
  subst hxn;obtain⟨hr,_⟩:=hsl;have hv:=hr.vEq;rcases hy with rfl | rfl
  ·exact⟨by rw [hv];exact .nil _,.flat _ _ _ rfl⟩
  exact⟨by rw [hv];exact .nil _,.sl _ _ _ (.inl ⟨_,_,hv⟩)⟩
theorem tD:∀(sets:List (Nat×Slot)) (l:List (Nat×Slot)),dV sets (cO l)=cO (sets.reverseAux l)
 | [],l=>rfl
 | (a,s)::r,l=>by
  show dV r (fun u=>if u=a then s else cO l u)=_
  have:(fun u=>if u=a then s else cO l u)=cO ((a,s)::l):=by funext u;rw [mN]
  rw [this,tD r];rfl
theorem aIo(n:Nat)(l:List (Nat×Slot))(loc obj:List (List D))(sets:List (Nat×Slot))(ob:Option (List (List D))):(St.mk' n l loc obj).upd ⟨sets,none,ob⟩=St.mk' n (sets.reverseAux l) loc (ob.getD obj):=by
 show({ n:=n,env:=dV sets (cO l),loc:=loc,obj:=ob.getD obj } :St)=_
 rw [tD];rfl
theorem Nv(l:List (Nat×Slot)):List.reverseAux [] l=l:=rfl
theorem Jl(a:Nat×Slot)(r l:List (Nat×Slot)):List.reverseAux (a::r) l=List.reverseAux r (a::l):=rfl
def Vl(R:jC)(K:List (Nat×Slot)→Option (List (List D))→Prop):Prop:=∃sets ob,R sets ob∧K sets ob
@[congr] theorem aMl {R R':jC} {K:List (Nat×Slot)→Option (List (List D))→Prop} (h:R=R'):Vl R K=Vl R' K:=by rw [h]
theorem aH1 {P:Program} {alt:Bool} {dst:Option Tmp} {op:Op} {st:St} {K:St→Prop} :vcY P alt dst op st K=Vl (fun sets ob=>yR P alt dst op st.rdS (if(flY alt op).rO=true then st.obj else []) sets ob) (fun sets ob=>K (st.upd ⟨sets,none,ob⟩)):=rfl
theorem aHj {S:List (Nat×Slot)} {O:Option (List (List D))} {K:List (Nat×Slot)→Option (List (List D))→Prop} :Vl (fun sets ob=>sets=S∧ob=O) K=K S O:=by
 apply propext;constructor
 ·rintro⟨_,_,⟨rfl,rfl⟩,h⟩;exact h
 intro h;exact⟨_,_,⟨rfl,rfl⟩,h⟩
theorem aDt {C:Prop} {R:jC} {K:List (Nat×Slot)→Option (List (List D))→Prop} :Vl (fun sets ob=>C∧R sets ob) K=(C∧Vl (fun sets ob=>R sets ob) K):=by
 apply propext;constructor
 ·rintro⟨_,_,⟨h1,h2⟩,h⟩;exact⟨h1,_,_,h2,h⟩
 rintro⟨h1,_,_,h2,h⟩;exact⟨_,_,⟨h1,h2⟩,h⟩
theorem aHa {α:Type} {R:α→jC} {K:List (Nat×Slot)→Option (List (List D))→Prop} :Vl (fun sets ob=>∃x,R x sets ob) K=∃x,Vl (fun sets ob=>R x sets ob) K:=by
 apply propext;constructor
 ·rintro⟨_,_,⟨x,h2⟩,h⟩;exact⟨x,_,_,h2,h⟩
 rintro⟨x,_,_,h2,h⟩;exact⟨_,_,⟨x,h2⟩,h⟩
theorem aGq {R S:jC} {K:List (Nat×Slot)→Option (List (List D))→Prop} :Vl (fun sets ob=>R sets ob∨S sets ob) K=(Vl (fun sets ob=>R sets ob) K∨Vl (fun sets ob=>S sets ob) K):=by
 apply propext;constructor
 ·rintro⟨_,_,h1 | h1,h⟩
  ·exact .inl ⟨_,_,h1,h⟩
  exact .inr ⟨_,_,h1,h⟩
 rintro(⟨_,_,h1,h⟩ | ⟨_,_,h1,h⟩)
 ·exact⟨_,_,.inl h1,h⟩
 exact⟨_,_,.inr h1,h⟩
theorem aKf {K:List (Nat×Slot)→Option (List (List D))→Prop} :Vl (fun _ _=>False) K=False:=by
 apply propext;exact⟨fun⟨_,_,h,_⟩=>h,False.elim⟩
attribute [simp] aH1 aHj aDt aHa aGq aKf
attribute [simp] aIo Nv Jl isY wE Ep yR yA1 yA2 vY Ck Uv Uz rA Dw Tp flY Jq tJ Xr Ml oP nZ rE yI mJ vJ rD uX qX Db Cs nI Bool.true_or Bool.false_or
theorem Rd(cs:List D):D.strip (.tup cs)= .tup (cs.map D.s2):=rfl
attribute [simp] Rd D.plain
theorem aHo(n:Nat)(cs:List D):qP true n cs=if n≤cs.length then some (.agg (cs.take n))else none:=rfl
theorem aG3(n:Nat)(cs:List D):qP false n cs=cs.head?:=rfl
theorem aU(cs:List D)(off:Nat)(ds:List D):cV cs off ds=cs.take off++ds++cs.drop (off+ds.length):=rfl
attribute [simp low] aHo aG3 aU
attribute [simp] Gc Hi aIz Wy Th aF6 aB6 aDk Tw Xh aIv
attribute [simp] Sf aB3 aA2 aIm aJt aKj aHs aHc aJi aJu aGp Tg Zo aBf Rv aBc Zt Li Uh Rp Sh Wf Xt aKb aH7 aE6 aIl aE2 Zu Ty kB nE lU Lh It Fy aAu Jn Qz Tm Ip Mt
attribute [simp] aF7 List.getElem?_cons_zero Option.bind_some Qc xR yB xT uY wD aD0 aCu aA9 Wo aCp Qf To aCx aIu Wz qU aJf Xp
 aDr Xn Na aF5 aFq aDa Xj Tu Uw Rn Te Sk aLi aJj aHb aH2 aH5 aI3 aMz aJ3 aH4 aHh aGz
 aFv Yx Qr Se Ug Sz Tn aFj aAn Rm Sy Uf Us Vn Ui Lr Mj aEa aCo Qy Ue
 dR aD5 aAk aBo Tl aIi aDf Vy aAv aEw Vr aAw aIy aId aGt aGu Tb aI2 aG7 aF1 Vw aAf aO fA Gt aDi cN Rc uO gP mC nL kK eX flX rF zA Jb fX oZ wT aDn wX xL gO fN iQ oI iP oM oN eG kL Ev nY kI
 mZ wZ qN oF gM jS lW yW mI pW iC iD eC pB rV Cw St.cellsAt St.park Slot.plus Slot.isAddr Oq D.ofList
 Sn Kt aF8 aJn aFh Vx bZ aCm Bq aDp aIn aCc gV kE fQ yS zV wG Xe Td Tx Sg
end Go.Vm
