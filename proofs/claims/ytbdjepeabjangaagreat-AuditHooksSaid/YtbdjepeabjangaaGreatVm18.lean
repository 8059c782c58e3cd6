import Derived.Test.YtbdjepeabjangaaGreatVm17
set_option linter.all false
namespace Go.Vm
open Go
variable {K:St->Prop}{c:Cfg}{dst:Option Tmp}{f:Fl}{op:Op}{rs ws:List Nat}{st st':St}{x:Slot}
section
variable {P:Program}
def moves(c:Cfg)(dst:Option Tmp):Op->Bool
 | .move _ | .assign _ | .extract _ _=>dst.any c.take.contains
 | .store _ _ _ | .box _ _=>true
 | .call { callee:= .builtin .append, .. } =>true
 | .call _=>dst.any c.take.contains
 | _=>false
def lA(c:Cfg)(dst:Option Tmp)(op:Op):List Nat:=dst.toList++(if yH c dst op || moves c dst op then hC op else [])
def hP(w:Bool):Slot->Fl
 | .lref _ _=>⟨true,w,false,false⟩
 | .d (.ref _ _)=>⟨false,false,true,w⟩
 | _=>⟨false,false,false,false⟩
def gF(c:Cfg)(dst:Option Tmp)(st:St):Op->Fl
 | .load _ a=>hP (dst.any c.take.contains) (st.rdS a)
 | .store _ a _=>hP true (st.rdS a)
 | .alloc _=>if dst.any c.esc.contains then⟨false,false,true,true⟩else⟨true,true,false,false⟩
 | .box _ _=>if dst.any c.imm.contains then⟨false,false,false,false⟩else if dst.any c.esc.contains then⟨false,false,true,true⟩else⟨true,true,false,false⟩
 | .call { callee:= .value _, .. } =>⟨false,false,true,true⟩
 | .call { callee:= .invoke _ _, .. } =>⟨false,false,true,true⟩
 | _=>⟨false,false,false,false⟩
def flX:Op->Fl
 | .call ⟨.builtin .clear,_,_⟩=>⟨false,false,true,true⟩
 | .call ⟨.builtin .append,_,_⟩=>⟨false,false,true,true⟩
 | _=>⟨false,false,false,false⟩
def lJ(c:Cfg)(dst:Option Tmp)(st:St)(op:Op):Fl:=if yH c dst op=true then flY (Ia c dst op) op else if Ij c dst op=true then flX op else gF c dst st op
structure Delta.ok(δ:Delta)(ws:List Nat)(f:Fl):Prop where
 sets:∀p∈δ.sets,p.1∈ws
 loc:δ.loc.isSome=true->f.wL=true
 obj:δ.obj.isSome=true->f.wO=true
structure Agree(rs:List Nat)(f:Fl)(st st':St):Prop where
 n:st'.n=st.n
 env:∀t,t∈rs->st'.env t=st.env t
 loc:f.rL=true->st'.loc=st.loc
 obj:f.rO=true->st'.obj=st.obj
theorem nK (h:Agree rs f st st') {x:Operand} (hx:∀t,bR x=some t->t∈rs):st'.rdS x=st.rdS x:=by
 cases x with
 | tmp t=>exact h.env t (hx t rfl)
 | _=>rfl
theorem iX (h:Agree rs f st st') {x:Operand} (hx:∀t,bR x=some t->t∈rs):st'.rd x=st.rd x:=by
 unfold St.rd;rw [nK h hx]
def Tr(ws:List Nat)(f:Fl)(st st':St)(K:St->Prop):St->Prop:=fun s'=>∃δ:Delta,δ.ok ws f/\K (st.upd δ)/\s'=st'.upd δ
theorem Mp (hw:∀d,dst=some d->d∈ws)(h:K (st.put dst x)):Tr ws f st st' K (st'.put dst x):=by
 cases dst with
 | none=>exact⟨⟨[],none,none⟩,⟨fun p hp=>by simp at hp,by simp,by simp⟩,h,rfl⟩
 | some d=>exact⟨⟨[(d,x)],none,none⟩,⟨fun p hp=>by simp at hp;subst hp;exact hw d rfl,by simp,by simp⟩,h,rfl⟩
theorem yK {d:Nat} (hw:d∈ws)(h:K (st.set d x)):Tr ws f st st' K (st'.set d x):=
 ⟨⟨[(d,x)],none,none⟩,⟨fun p hp=>by simp at hp;subst hp;exact hw,by simp,by simp⟩,h,rfl⟩
theorem wG {d e:Nat} {y:Slot} (hw:d∈ws)(he:e∈ws)(h:K ((st.set d x).set e y)):Tr ws f st st' K ((st'.set d x).set e y):=
 ⟨⟨[(d,x),(e,y)],none,none⟩,⟨fun p hp=>by simp at hp;rcases hp with rfl | rfl <;> assumption,by simp,by simp⟩,h,rfl⟩
theorem dN {x:Operand} (hx:x∈op.operands.toList):∀t,bR x=some t->t∈hC op:=fun t ht=>kV.2 ⟨x,hx,ht⟩
theorem gZ :∀d,dst=some d->d∈lA c dst op:=by
 rintro d rfl;simp [lA]
theorem vM (hm:moves c dst op=true) {t:Nat} (ht:t∈hC op):t∈lA c dst op:=by
 simp [lA,hm,ht]
theorem mV (h:Agree rs f st st') {d:Int} {x:Option Operand} (hx:∀y,x=some y->∀t,bR y=some t->t∈rs):eY st' d x=eY st d x:=by
 cases x with
 | none=>rfl
 | some y=>simp only [eY];rw [iX h (hx y rfl)]
theorem Dh(a b:List (Nat×Slot))(e:Nat->Slot):eR (a++b) e=eR b (eR a e):=by
 induction a generalizing e with
 | nil=>rfl
 | cons p a ih=>obtain⟨x,y⟩:=p;exact ih _
theorem Na {l:List (Nat×Slot)} {e:Nat->Slot} {u:Nat} (h:∀p∈l,p.1≠u):eR l e u=e u:=by
 induction l generalizing e with
 | nil=>rfl
 | cons p l ih=>
  obtain⟨x,y⟩:=p;simp only [eR];rw [ih (fun q hq=>h q (by simp [hq]))];rw [aG (fun e=>h (x,y) (by simp) e.symm)]
theorem uY(l:List Nat)(f:Nat->Slot)(e:Nat->Slot)(u:Nat):eR (l.map fun t=>(t,f t)) e u=if u∈l then f u else e u:=by
 induction l generalizing e with
 | nil=>simp [eR]
 | cons a l ih=>
  simp only [fM,eR];rw [ih];by_cases h1:u∈l
  .simp [h1]
  by_cases h2:u=a
  .subst h2;simp [h1]
  simp [h1,h2]
theorem lS(st:St)(ps qs:List (Nat×Slot))(l o:Option (List (List D))):st.upd ⟨ps++qs,l,o⟩= { n:=st.n,env:=eR qs (eR ps st.env),loc:=l.getD st.loc,obj:=o.getD st.obj } :=by
 simp only [St.upd,Dh]
theorem Nd {t:TypeId} {cs ds:List D} {K K':Bool->Prop} (hk:∀b,K b->K' b)(h:rE P t cs ds K):rE P t cs ds K':=by
 obtain⟨b,h1,h2⟩:=h;exact⟨b,h1,hk b h2⟩
theorem vA {op:BinOp} {t:TypeId} {y:Slot} {K K':D->Prop} (hk:∀d,K d->K' d)(h:rD P op t x y K):rD P op t x y K':=by
 unfold rD at *;split at h
 .refine⟨h.1,?_⟩;have h2:=h.2;unfold zS at *;cases op <;> simp only at h2 |- <;> first | exact hk _ h2 | exact⟨h2.1,hk _ h2.2⟩ | exact⟨h2.1,h2.2.1,hk _ h2.2.2⟩ | exact h2
 .unfold zG at *;cases op <;> simp only at h |- <;> first | exact hk _ h | exact⟨h.1,hk _ h.2⟩ | exact h
 .refine⟨h.1,?_⟩;have h2:=h.2;cases op <;> simp only at h2 |- <;> first | exact hk _ h2 | exact h2
 .refine⟨h.1,?_⟩;have h2:=h.2;cases op <;> simp only at h2 |- <;> first | exact Nd (fun b hb=>hk _ hb) h2 | exact h2
 .refine⟨h.1,?_⟩;have h2:=h.2;cases op <;> simp only at h2 |- <;> first | exact hk _ h2 | exact h2
 .refine⟨h.1,?_⟩;have h2:=h.2;cases op <;> simp only at h2 |- <;> first | exact hk _ h2 | exact h2
 exact h
theorem xT {op:UnOp} {x:D} {K K':D->Prop} (hk:∀d,K d->K' d)(h:Ai op x K):Ai op x K':=by
 unfold Ai at *;split at h
 .exact hk _ h
 .exact⟨h.1,hk _ h.2⟩
 exact h
theorem Uj (hit:xL op=false)(hrs:∀t,t∈hC op->t∈rs)(ha:Agree rs (gF c dst st op) st st')(h:cY P c dst op st K):cY P c dst op st' (Tr (lA c dst op) (gF c dst st op) st st' K):=by
 have rdS : ∀ x, x ∈ op.operands.toList -> st'.rdS x = st.rdS x := fun x hx => nK ha fun t ht => hrs t (dN hx t ht);have rd : ∀ x, x ∈ op.operands.toList -> st'.rd x = st.rd x := fun x hx => iX ha fun t ht => hrs t (dN hx t ht);have env : ∀ t, Operand.tmp t ∈ op.operands.toList -> st'.env t = st.env t := fun t ht => rdS (.tmp t) ht;have put : ∀ {x : Slot}, K (st.put dst x) -> Tr (lA c dst op) (gF c dst st op) st st' K (st'.put dst x) := fun h => Mp gZ h;have mv : ∀ x, op = .move x \/ op = .assign x -> iD c dst x st K -> iD c dst x st' (Tr (lA c dst op) (gF c dst st op) st st' K) := by
  intro x ho h;have hx:x∈op.operands.toList:=by rcases ho with rfl | rfl <;> simp [Op.operands]
  cases x with
  | tmp s =>
   cases hd:dst with
   | none=>rw [hd] at h;exact h.elim
   | some d =>
    rw [hd] at h;simp only [iD] at h |-;rw [env s hx];cases he:st.env s with
    | lref n off=>rw [he] at h;exact yK (by simp [lA]) h
    | d y =>
     rw [he] at h;simp only at h |-;split at h
     .rename_i ht;rw [aR ht];have hm:moves c (some d) op=true:=by rcases ho with rfl | rfl <;> simpa [moves] using ht
      exact⟨h.1,h.2.1,wG (vM hm (dN hx s rfl)) (gZ d rfl) h.2.2⟩
     rename_i ht;rw [aG ht];exact⟨h.1,yK (gZ d rfl) h.2⟩
  | const v=>
   have h':K (st.put dst (st.rdS (.const v))):=by unfold iD at h;split at h <;> simp_all
   have:=put h';cases dst <;> exact this
  | func v=>
   have h':K (st.put dst (st.rdS (.func v))):=by unfold iD at h;split at h <;> simp_all
   have:=put h';cases dst <;> exact this
  | global v=>
   have h':K (st.put dst (st.rdS (.global v))):=by unfold iD at h;split at h <;> simp_all
   have:=put h';cases dst <;> exact this
 have cells:∀a,a∈op.operands.toList->(hP false (st.rdS a)).rL=(gF c dst st op).rL->(hP false (st.rdS a)).rO=(gF c dst st op).rO->st'.cellsAt (st.rdS a)=st.cellsAt (st.rdS a):=by
  intro a ha' h1 h2;cases hs:st.rdS a with
  | lref n off=>
   rw [hs] at h1;simp only [St.cellsAt];rw [ha.loc (by rw [<- h1];rfl)]
  | d d=>
   rw [hs] at h2;cases d <;> simp only [St.cellsAt];rw [ha.obj (by rw [<- h2];rfl)]
 have flr:∀(w:Bool) (s:Slot),(hP w s).rL=(hP false s).rL/\(hP w s).rO=(hP false s).rO:=by
  intro w s;cases s with
  | lref n o=>exact⟨rfl,rfl⟩
  | d d=>cases d <;> exact⟨rfl,rfl⟩
 cases op with
 | move x=>exact mv x (.inl rfl) h
 | assign x=>exact mv x (.inr rfl) h
 | binOp b t x y yt =>
  simp only [cY] at h |-;split at h
  .rename_i hy;rw [aR hy];unfold Ba at h |-;rw [rd x (by simp [Op.operands])];refine⟨h.1,?_⟩;have h:=h.2;split at h
   .split at h
    .exact⟨put h.1,fun e=>put (h.2 e)⟩
    .exact⟨put h.1,fun e=>put (h.2 e)⟩
    exact h.elim
   exact h.elim
  rename_i hy;rw [aG hy];rw [rdS x (by simp [Op.operands]),rdS y (by simp [Op.operands])];exact vA (fun d hd=>put hd) h
 | unOp u t x=>
  simp only [cY] at h |-;rw [rd x (by simp [Op.operands])];exact xT (fun d hd=>put hd) h
 | load t x =>
  have hx:x∈(Op.load t x).operands.toList:=by simp [Op.operands]
  simp only [cY] at h |-;have hc:st'.cellsAt (st.rdS x)=st.cellsAt (st.rdS x):=cells x hx (by simp only [gF];exact(flr _ _).1.symm) (by simp only [gF];exact(flr _ _).2.symm);have pl:gV P dst t x st K->gV P dst t x st' (Tr (lA c dst (.load t x)) (gF c dst st (.load t x)) st st' K):=by
   intro h;unfold gV at h |-;rw [rdS x hx,hc];split at h
   .split at h
    .exact put h
    exact h.elim
   exact h.elim
  unfold iW at h |-;rw [rdS x hx];split at h
  .rename_i a n d ht;split at h
   .rename_i htk;have ht':(some d).any c.take.contains=true:=by simpa using htk
    rw [aR htk];split at h
    .rename_i m off hs;have hloc:st'.loc=st.loc:=ha.loc (by simp [gF,hs,hP]);rw [hloc];split at h
     .rename_i cs hcs;split at h
      .rename_i y hy;refine⟨h.1,h.2.1,⟨[(d,.d y)],some (st.loc.set m (dE cs off y.s2.cells)),none⟩,⟨fun p hp=>by simp at hp;subst hp;exact gZ d rfl,fun _=>by simp [gF,hs,hP];simpa using htk,by simp⟩,h.2.2,rfl⟩
      exact h.elim
     exact h.elim
    .rename_i m off hs;have hobj:st'.obj=st.obj:=ha.obj (by simp [gF,hs,hP]);rw [hobj];split at h
     .rename_i cs hcs;split at h
      .rename_i y hy;refine⟨h.1,h.2.1,⟨[(d,.d y)],none,some (st.obj.set m (dE cs off y.s2.cells))⟩,⟨fun p hp=>by simp at hp;subst hp;exact gZ d rfl,by simp,fun _=>by simp [gF,hs,hP];simpa using htk⟩,h.2.2,rfl⟩
      exact h.elim
     exact h.elim
    exact pl h
   rename_i htk;rw [aG htk];exact pl h
  exact pl h
 | fieldAddr s x f=>
  simp only [cY,jN] at h |-;rw [rdS x (by simp [Op.operands])];split at h
  .exact⟨h.1,put h.2⟩
  exact h.elim
 | field s x f =>
  simp only [cY,qY] at h |-;rw [rd x (by simp [Op.operands])];split at h
  .split at h
   .exact put h
   exact h.elim
  exact h.elim
 | indexAddr t x i =>
  simp only [cY,jQ] at h |-;rw [rd x (by simp [Op.operands]),rd i (by simp [Op.operands]),rdS x (by simp [Op.operands])];split at h
  .split at h
   .split at h
    .exact⟨h.1,h.2.1,h.2.2.1,put h.2.2.2⟩
    exact h.elim
   split at h
   .exact⟨h.1,h.2.1,put h.2.2⟩
   exact h.elim
  exact h.elim
 | index t x i =>
  simp only [cY,qQ] at h |-;rw [rd x (by simp [Op.operands]),rd i (by simp [Op.operands])];split at h
  .exact⟨h.1,h.2.1,put h.2.2⟩
  .split at h
   .split at h
    .split at h
     .exact⟨h.1,put h.2⟩
     exact h.elim
    exact h.elim
   exact h.elim
  exact h.elim
 | slice t x lo hi mx =>
  simp only [cY,qZ] at h |-;have bl:∀d,eY st' d lo=eY st d lo:=fun d=>mV ha (by rintro y rfl t ht;exact hrs t (dN (by simp [Op.operands]) t ht));have bh:∀d,eY st' d hi=eY st d hi:=fun d=>mV ha (by rintro y rfl t ht;exact hrs t (dN (by simp [Op.operands]) t ht));have bm:∀m,mx=some m->∀d,eY st' d (some m)=eY st d (some m):=fun m hm d=>mV ha (by subst hm;rintro y hy t ht;cases hy;exact hrs t (dN (by simp [Op.operands]) t ht));rw [rd x (by simp [Op.operands])];split at h
  .obtain⟨h1,h2,h3⟩:=h;refine⟨h1,h2,?_⟩;rw [bl,bh];split at h3
   .exact⟨h3.1,put h3.2⟩
   exact h3.elim
  .split at h
   .split at h
    .rw [bl,bh];split at h
     .exact⟨h.1,h.2.1,put h.2.2⟩
     exact h.elim
    rename_i m;rw [bl,bh,bm m rfl];split at h
    .exact⟨h.1,h.2.1,put h.2.2⟩
    exact h.elim
   exact h.elim
  exact h.elim
 | pick a x y=>
  simp only [cY,uU] at h |-;rw [rd a (by simp [Op.operands]),rd x (by simp [Op.operands]),rd y (by simp [Op.operands])];split at h
  .exact⟨fun ht=>⟨(h.1 ht).1,put (h.1 ht).2⟩,fun ht=>⟨(h.2 ht).1,put (h.2 ht).2⟩⟩
  exact h.elim
 | extract x i =>
  simp only [cY,lV] at h |-;split at h
  .rename_i s d;have hx:Operand.tmp s∈(Op.extract (.tmp s) i).operands.toList:=by simp [Op.operands]
   rw [env s hx];split at h
   .split at h
    .refine⟨h.1,?_⟩;have h2:=h.2;split at h2
     .rename_i ht;rw [aR ht];have hm:moves c (some d) (.extract (.tmp s) i)=true:=by simpa [moves] using ht
      exact⟨h2.1,h2.2.1,wG (vM hm (dN hx s rfl)) (gZ d rfl) h2.2.2⟩
     rename_i ht;rw [aG ht];exact yK (gZ d rfl) h2
    exact h.elim
   exact h.elim
  exact h.elim
 | makeFunc f first caps=>
  simp only [cY,Hi] at h |-;have e1:∀x∈first.toList++caps.toList,st'.rd x=st.rd x:=fun x hx=>rd x (by simpa [Op.operands] using hx)
  refine⟨fun x hx=>by rw [e1 x hx];exact h.1 x hx,?_⟩;have e2:(first.toList.map fun x=>(st'.rd x).strip)=first.toList.map fun x=>(st.rd x).strip:=fC fun x hx=>by rw [e1 x (gQ _ hx)]
  have e3:(caps.toList.map fun x=>(st'.rd x).strip)=caps.toList.map fun x=>(st.rd x).strip:=fC fun x hx=>by rw [e1 x (xD _ hx)]
  rw [e2,e3];exact put h.2
 | nilCheck x=>
  simp only [cY,qU] at h |-;rw [rdS x (by simp [Op.operands])];exact⟨h.1,put h.2⟩
 | convert s d x=>
  simp only [cY,lO] at h |-;rw [rd x (by simp [Op.operands])];split at h
  .obtain⟨a,b,h1,h2,h3,h4⟩:=h;exact⟨a,b,h1,h2,h3,put h4⟩
  .exact⟨h.1,h.2.1,put h.2.2⟩
  exact h.elim
 | alloc e =>
  simp only [cY,pA] at h |-;split at h
  .rename_i cs d hz;split at h
   .rename_i he;rw [aR he];have hf:gF c (some d) st (.alloc e)=⟨false,false,true,true⟩:=by simp only [gF];rw [aR (by simpa using he)]
    have hobj:st'.obj=st.obj:=ha.obj (by rw [hf]);rw [hobj];exact⟨⟨[(d,.d (.ref st.obj.length 0))],none,some (st.obj++ [cs])⟩,⟨fun p hp=>by simp at hp;subst hp;exact gZ d rfl,by simp,fun _=>by rw [hf]⟩,h,rfl⟩
   rename_i he;rw [aG he];have hf:gF c (some d) st (.alloc e)=⟨true,true,false,false⟩:=by simp only [gF];rw [aG (by simpa using he)]
   have hloc:st'.loc=st.loc:=ha.loc (by rw [hf]);rw [hloc];exact⟨⟨[(d,.lref st.loc.length 0)],some (st.loc++ [cs]),none⟩,⟨fun p hp=>by simp at hp;subst hp;exact gZ d rfl,fun _=>by rw [hf],by simp⟩,h,rfl⟩
  exact h.elim
 | box e x =>
  have hx:x∈(Op.box e x).operands.toList:=by simp [Op.operands]
  simp only [cY,zJ] at h |-;split at h
  .rename_i d;rw [rd x hx];refine⟨h.1,?_⟩;have h2:=h.2
   -- what is laid aside
   have pk:∃ps:List (Nat×Slot),(∀p∈ps,p.1∈lA c (some d) (.box e x))/\(∀s:St,(∀t,bR x=some t->s.env t=st.env t)->s.park x=s.upd ⟨ps,none,none⟩):=by
    cases x with
    | tmp u=>
     cases he:st.env u with
     | lref n o=>exact⟨[],fun p hp=>by simp at hp,fun s hs=>by simp only [St.park];rw [hs u rfl,he];rfl⟩
     | d y=>exact⟨[(u,.d y.s2)],fun p hp=>by simp at hp;subst hp;exact vM (by simp [moves]) (dN hx u rfl),fun s hs=>by simp only [St.park];rw [hs u rfl,he];rfl⟩
    | _=>exact⟨[],fun p hp=>by simp at hp,fun s hs=>rfl⟩
   obtain⟨ps,p1,p2⟩:=pk;have q1:=p2 st fun t _=>rfl;have q2:=p2 st' fun t ht=>ha.env t (hrs t (dN hx t ht));split at h2
   .rename_i hi;rw [aR hi];exact yK (gZ d rfl) h2
   rename_i hi;rw [aG hi];split at h2
   .rename_i he;rw [aR he];have hf:gF c (some d) st (.box e x)=⟨false,false,true,true⟩:=by
     simp only [gF];rw [aG (by simpa using hi),aR (by simpa using he)]
    have hobj:st'.obj=st.obj:=ha.obj (by rw [hf]);rw [hobj,q2];rw [q1] at h2;refine⟨⟨ps++ [(d,.d (.ref st.obj.length 0))],none,some (st.obj++ [(st.rd x).cells])⟩,⟨fun p hp=>?_,by simp,fun _=>by rw [hf]⟩,?_,?_⟩
    .rcases dZ.1 hp with hp | hp
     .exact p1 p hp
     simp at hp;subst hp;exact gZ d rfl
    .rw [lS];exact h2
    rw [lS];rfl
   rename_i he;rw [aG he];have hf:gF c (some d) st (.box e x)=⟨true,true,false,false⟩:=by
    simp only [gF];rw [aG (by simpa using hi),aG (by simpa using he)]
   have hloc:st'.loc=st.loc:=ha.loc (by rw [hf]);rw [hloc,q2];rw [q1] at h2;refine⟨⟨ps++ [(d,.lref st.loc.length 0)],some (st.loc++ [(st.rd x).cells]),none⟩,⟨fun p hp=>?_,fun _=>by rw [hf],by simp⟩,?_,?_⟩
   .rcases dZ.1 hp with hp | hp
    .exact p1 p hp
    simp at hp;subst hp;exact gZ d rfl
   .rw [lS];exact h2
   rw [lS];rfl
  exact h.elim
 | store t a v =>
  have hv:v∈(Op.store t a v).operands.toList:=by simp [Op.operands]
  have haa:a∈(Op.store t a v).operands.toList:=by simp [Op.operands]
  simp only [cY,sQ] at h |-;rw [rd v hv,rdS a haa];refine⟨h.1,h.2.1,h.2.2.1,?_⟩;have h2:=h.2.2.2;have pk:∃ps:List (Nat×Slot),(∀p∈ps,p.1∈lA c dst (.store t a v))/\(∀s:St,(∀t,bR v=some t->s.env t=st.env t)->s.park v=s.upd ⟨ps,none,none⟩):=by
   cases v with
   | tmp u=>
    cases he:st.env u with
    | lref n o=>exact⟨[],fun p hp=>by simp at hp,fun s hs=>by simp only [St.park];rw [hs u rfl,he];rfl⟩
    | d y=>exact⟨[(u,.d y.s2)],fun p hp=>by simp at hp;subst hp;exact vM (by simp [moves]) (dN hv u rfl),fun s hs=>by simp only [St.park];rw [hs u rfl,he];rfl⟩
   | _=>exact⟨[],fun p hp=>by simp at hp,fun s hs=>rfl⟩
  obtain⟨ps,p1,p2⟩:=pk;have q1:=p2 st fun t _=>rfl;have q2:=p2 st' fun t ht=>ha.env t (hrs t (dN hv t ht));split at h2
  .rename_i m off hs;have hf:gF c dst st (.store t a v)=⟨true,true,false,false⟩:=by simp only [gF,hs,hP]
   have hloc:st'.loc=st.loc:=ha.loc (by rw [hf]);rw [hloc];split at h2
   .rename_i cs hcs;refine⟨h2.1,?_⟩;have h3:=h2.2;rw [q1] at h3;rw [q2];exact⟨⟨ps,some (st.loc.set m (dE cs off (st.rd v).cells)),none⟩,⟨p1,fun _=>by rw [hf],by simp⟩,h3,rfl⟩
   exact h2.elim
  .rename_i m off hs;have hf:gF c dst st (.store t a v)=⟨false,false,true,true⟩:=by simp only [gF,hs,hP]
   have hobj:st'.obj=st.obj:=ha.obj (by rw [hf]);rw [hobj];split at h2
   .rename_i cs hcs;refine⟨h2.1,?_⟩;have h3:=h2.2;rw [q1] at h3;rw [q2];exact⟨⟨ps,none,some (st.obj.set m (dE cs off (st.rd v).cells))⟩,⟨p1,by simp,fun _=>by rw [hf]⟩,h3,rfl⟩
   exact h2.elim
  exact h2.elim
 | build t parts =>
  simp only [cY,qS] at h |-;have e1:(parts.toList.map fun p=>(p.1,st'.rd p.2))=parts.toList.map fun p=>(p.1,st.rd p.2):=fC fun p hp=>by rw [rd p.2 (by simp [Op.operands];exact⟨p.1,by simpa using hp⟩)]
  rw [e1];split at h
  .split at h
   .exact put h
   exact h.elim
  exact h.elim
 | buildSlice t len parts=>
  simp only [cY,iU] at h |-;have e0:∀p∈parts.toList,st'.rd p.2=st.rd p.2:=fun p hp=>rd p.2 (by simp [Op.operands];exact⟨p.1,by simpa using hp⟩);have e1:(parts.toList.map fun p=>(st'.rd p.2).s2)=parts.toList.map fun p=>(st.rd p.2).s2:=fC fun p hp=>by rw [e0 p hp]
  split at h
  .exact⟨h.1,fun p hp=>by rw [e0 p hp];exact h.2.1 p hp,by rw [e1];exact yK (gZ _ rfl) h.2.2⟩
  exact h.elim
 | call call =>
  obtain⟨callee,args,ts⟩:=call;simp only [cY,lY] at h |-;have hargs:∀x∈args.toList,x∈(Op.call ⟨callee,args,ts⟩).operands.toList:=fun x hx=>by simp [Op.operands,Call.operands];right;simpa using hx
  cases callee with
  | builtin b =>
   simp only [nE] at h |-;split at h
   .rename_i x t h1 h2;have hx:=hargs x (by rw [h1];simp);simp only [Da] at h |-;rw [rd x hx];split at h
    .exact⟨h.1,put h.2⟩
    .exact⟨h.1,put h.2⟩
    exact h.elim
   .rename_i s x t t2 h1 h2;have hsop:=hargs s (by rw [h1];simp);have hx:=hargs x (by rw [h1];simp);simp only [oF] at h |-;rw [rd x hx,rd s hsop];split at h
    .refine⟨h.1,h.2.1,h.2.2.1,h.2.2.2.1,?_⟩;have h5:=h.2.2.2.2;split at h5
     .rename_i u _;exact⟨h5.1,wG (vM (by simp [moves]) (dN hsop u rfl)) (gZ _ rfl) h5.2⟩
     .exact yK (gZ _ rfl) h5
     exact h5.elim
    exact h.elim
   .rename_i x y h1;simp only [rM] at h |-;rw [rd x (hargs x (by rw [h1];simp)),rd y (hargs y (by rw [h1];simp))];split at h
    .exact⟨h.1,put h.2⟩
    exact h.elim
   .rename_i x y h1;simp only [rM] at h |-;rw [rd x (hargs x (by rw [h1];simp)),rd y (hargs y (by rw [h1];simp))];split at h
    .exact⟨h.1,put h.2⟩
    exact h.elim
   exact h.elim
  | value f =>
   have hff:f∈(Op.call ⟨.value f,args,ts⟩).operands.toList:=by simp [Op.operands,Call.operands]
   have hf:gF c dst st (.call ⟨.value f,args,ts⟩)=⟨false,false,true,true⟩:=rfl;have hobj:st'.obj=st.obj:=ha.obj (by rw [hf]);have pc:jH P dst f args.toList st K->jH P dst f args.toList st' (Tr (lA c dst (.call ⟨.value f,args,ts⟩)) (gF c dst st (.call ⟨.value f,args,ts⟩)) st st' K):=by
    intro h;unfold jH at h |-;rw [rd f hff];split at h
    .refine⟨h.1,fun x hx=>by rw [rd x (hargs x hx)];exact h.2.1 x hx,?_⟩;have e1:fY args.toList st'=fY args.toList st:=fC fun x hx=>jU (rd x (hargs x hx));rw [e1,hobj];refine h.2.2.mono fun r σ' hK=>?_;cases hd:dst with
     | none=>rw [hd] at hK;exact⟨⟨[],none,some σ'⟩,⟨fun p hp=>by simp at hp,by simp,fun _=>by rw [hd] at hf;rw [hf]⟩,hK,rfl⟩
     | some d=>rw [hd] at hK;exact⟨⟨[(d,.d r)],none,some σ'⟩,⟨fun p hp=>by simp at hp;subst hp;exact gZ d rfl,by simp,fun _=>by rw [hd] at hf;rw [hf]⟩,hK,rfl⟩
    exact h.elim
   have pt:∀fid,f= .func fid->(∃d,dst=some d/\c.take.contains d=true)->lC P dst fid args.toList st K->lC P dst fid args.toList st' (Tr (lA c dst (.call ⟨.value f,args,ts⟩)) (gF c dst st (.call ⟨.value f,args,ts⟩)) st st' K):=by
    rintro fid rfl ⟨d,rfl,htk⟩ h;unfold lC at h |-;refine⟨h.1,fun x hx=>by rw [rd x (hargs x hx),rdS x (hargs x hx)];exact h.2.1 x hx,?_⟩;have e1:args.toList.map (rH st')=args.toList.map (rH st):=
     fC fun x hx=>uQ (rd x (hargs x hx))
    rw [e1,hobj];refine h.2.2.mono fun r σ' hK=>?_
    -- the slots that gave their rights
    have hst:∀s:St,(∀t,some t∈args.toList.map bR->s.env t=st.env t)->∃ps:List (Nat×Slot),(∀p∈ps,p.1∈lA c (some d) (.call ⟨.value (.func fid),args,ts⟩))/\ps=((args.toList.filterMap bR).map fun t=>(t,fF (args.toList.map bR) st.env t))/\fF (args.toList.map bR) s.env=eR ps s.env:=by
     intro s hs;refine⟨_,fun p hp=>?_,rfl,?_⟩
     .obtain⟨t,ht,rfl⟩:=bY.1 hp;obtain⟨x,hx,hx'⟩:=kV.1 ht;exact vM (by simpa [moves] using htk) (dN (hargs x hx) t hx')
     funext u;rw [uY];by_cases hu:(args.toList.map bR).contains (some u)=true
     .have hm:u∈args.toList.filterMap bR:=by
       have:some u∈args.toList.map bR:=by simpa using hu
       obtain⟨x,hx,hx'⟩:=bY.1 this;exact kV.2 ⟨x,hx,hx'⟩
      rw [aR hm];have he:s.env u=st.env u:=hs u (by simpa using hu);simp only [fF,hu,aJ,he]
     have hm:u∉args.toList.filterMap bR:=by
      intro hm;obtain⟨x,hx,hx'⟩:=kV.1 hm;exact hu (by simpa using List.mem_map.2 ⟨x,hx,hx'⟩)
     rw [aG hm];simp only [fF,hu];rfl
    obtain⟨ps,p1,p2,p3⟩:=hst st fun _ _=>rfl;obtain⟨ps',_,p2',p3'⟩:=hst st' fun t ht=>by
     obtain⟨x,hx,hx'⟩:=bY.1 ht;exact ha.env t (hrs t (dN (hargs x hx) t hx'))
    rw [p2',<- p2] at p3';rw [p3] at hK;rw [p3'];refine⟨⟨ps++ [(d,.d r)],none,some σ'⟩,⟨fun p hp=>?_,by simp,fun _=>by rw [hf]⟩,?_,?_⟩
    .rcases dZ.1 hp with hp | hp
     .exact p1 p hp
     simp at hp;subst hp;exact gZ d rfl
    .rw [lS];exact hK
    rw [lS];rfl
   cases f with
   | func fid =>
    simp only at h |-;cases hd:dst with
    | none=>rw [hd] at h;simp only at h |-;have:=pc (by rw [hd];exact h);rwa [hd] at this
    | some d =>
     rw [hd] at h;simp only at h |-;split at h
     .rename_i htk;rw [aR htk];have:=pt fid rfl ⟨d,hd,htk⟩ (by rw [hd];exact h)
      rwa [hd] at this
     rename_i htk;rw [aG htk];have:=pc (by rw [hd];exact h)
     rwa [hd] at this
   | _=>exact pc h
  | invoke f m=>exact h.elim
 | range t x=>simp [xL] at hit
 | next x s=>simp [xL] at hit
 | entry x=>simp [xL] at hit
 | _=>exact h.elim
theorem aFo (hrs:∀t,t∈hC op->t∈rs)(ha:Agree rs (flX op) st st')(h:Vc P dst op st K):Vc P dst op st' (Tr (lA c dst op) (flX op) st st' K):=by
 have rdS:∀x,x∈op.operands.toList->st'.rdS x=st.rdS x:=fun x hx=>nK ha fun t ht=>hrs t (dN hx t ht);have rd:∀x,x∈op.operands.toList->st'.rd x=st.rd x:=fun x hx=>iX ha fun t ht=>hrs t (dN hx t ht);have env:∀t,Operand.tmp t∈op.operands.toList->st'.env t=st.env t:=fun t ht=>rdS (.tmp t) ht;have put:∀ {x:Slot},K (st.put dst x)->Tr (lA c dst op) (flX op) st st' K (st'.put dst x):=fun h=>Mp gZ h;unfold Vc at h |-;split at h
 .rename_i args ts;have hargs:∀x∈args.toList,x∈(Op.call ⟨.builtin .len,args,ts⟩).operands.toList:=fun x hx=>by simp [Op.operands,Call.operands];simpa using hx
  split at h
  .rename_i x t h1 h2;simp only [xQ] at h |-;rw [rd x (hargs x (by rw [h1];simp))];refine⟨h.1,?_⟩;have h':=h.2;split at h' <;> first | exact put h' | exact h'.elim
  exact h.elim
 .rename_i args ts;have hargs:∀x∈args.toList,x∈(Op.call ⟨.builtin .append,args,ts⟩).operands.toList:=fun x hx=>by simp [Op.operands,Call.operands];simpa using hx
  split at h
  .rename_i s x t t2 h1 h2;have hsop:=hargs s (by rw [h1];simp);simp only [lP] at h |-;rw [rd x (hargs x (by rw [h1];simp))];split at h
   .rename_i e k by_ z d u ow xs he hx;refine⟨h.1,h.2.1,h.2.2.1,?_⟩;have h5:=h.2.2.2;rw [env u hsop];split at h5
    .exact⟨h5.1,wG (vM (by simp [moves]) (dN hsop u rfl)) (gZ _ rfl) h5.2⟩
    .exact⟨h5.1,wG (vM (by simp [moves]) (dN hsop u rfl)) (gZ _ rfl) h5.2⟩
    .rename_i N a len cap hs5;obtain⟨ds,es,h6,h7⟩:=h5;have hobj:st'.obj=st.obj:=ha.obj rfl;rw [hobj];refine⟨ds,es,h6,⟨[(u,.any),(d,.d (.xs k (es++xs)))],none,some (st.obj.set N [])⟩,⟨fun p hp=>?_,by simp,fun _=>rfl⟩,h7,rfl⟩;simp only [fQ,kA,kD] at hp;rcases hp with rfl | rfl
     .exact vM (by simp [moves]) (dN hsop u rfl)
     exact gZ _ rfl
    exact h5.elim
   exact h.elim
  exact h.elim
 .rename_i args ts;have hargs:∀x∈args.toList,x∈(Op.call ⟨.builtin .clear,args,ts⟩).operands.toList:=fun x hx=>by simp [Op.operands,Call.operands];simpa using hx
  split at h
  .rename_i x t h1 h2;simp only [qH] at h |-;rw [rd x (hargs x (by rw [h1];simp))];refine⟨h.1,?_⟩;have h':=h.2;have hobj:st'.obj=st.obj:=ha.obj rfl;split at h'
   .rename_i e k by_ z m a len cap he hx;rw [hobj];split at h'
    .rename_i cs hcs;exact⟨h'.1,⟨[],none,some (st.obj.set m (dE cs a (gN z len)))⟩,⟨fun p hp=>by simp at hp,by simp,fun _=>rfl⟩,h'.2,rfl⟩
    exact h'.elim
   exact h'.elim
  exact h.elim
 .rename_i t x i;simp only [iV] at h |-;rw [rd x (by simp [Op.operands]),rd i (by simp [Op.operands])];split at h
  .exact⟨h.1,put h.2⟩
  exact h.elim
 .rename_i t x lo hi;simp only [oT] at h |-;have hb:∀(d:Int) (y:Option Operand),(y=lo\/y=hi)->eY st' d y=eY st d y:=fun d y hy=>mV ha fun z hz t ht=>hrs t (dN (by rcases hy with rfl | rfl <;> simp [Op.operands,hz]) t ht);rw [rd x (by simp [Op.operands]),hb 0 lo (.inl rfl)];split at h
  .rename_i e k by_ z m a len cap he hx;rw [hb len hi (.inr rfl)];split at h
   .exact⟨h.1,put h.2⟩
   exact h.elim
  exact h.elim
 exact h.elim
theorem Yy (hit:xL op=false)(hrs:∀t,t∈hC op->t∈rs)(ha:Agree rs (lJ c dst st op) st st')(h:gK P c dst op st K):gK P c dst op st' (Tr (lA c dst op) (lJ c dst st op) st st' K):=by
 unfold gK lJ at *;by_cases hy:yH c dst op=true
 .have hw:lA c dst op=dst.toList++hC op:=by simp [lA,hy]
  simp only [hy,aJ] at *;have rdS:∀x,x∈op.operands.toList->st'.rdS x=st.rdS x:=fun x hx=>nK ha fun t ht=>hrs t (dN hx t ht);obtain⟨sets,ob,h1,hK⟩:=h;obtain⟨s1,s2⟩:=Rg h1;refine⟨sets,ob,?_,⟨sets,none,ob⟩,⟨fun p hp=>by rw [hw];exact s1 p hp,by simp,s2⟩,hK,rfl⟩;rw [Jg rdS];have:(if(flY (Ia c dst op) op).rO=true then st'.obj else [])=(if(flY (Ia c dst op) op).rO=true then st.obj else []):=by
   split
   .rename_i h;exact ha.obj h
   rfl
  rw [this];exact h1
 simp only [hy] at *;by_cases hu:Ij c dst op=true
 .simp only [hu,aJ] at *;exact aFo hrs ha h
 simp only [hu] at *;exact Uj hit hrs ha h
end
end Go.Vm
