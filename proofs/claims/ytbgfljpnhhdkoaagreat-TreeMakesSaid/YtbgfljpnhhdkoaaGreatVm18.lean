import Derived.Test.YtbgfljpnhhdkoaaGreatVm17
set_option linter.all false
namespace Go.Vm
open Go
variable {K:St->Prop}{c:Cfg}{dst:Option Tmp}{f:Fl}{op:Op}{rs ws:List Nat}{st st':St}{x:Slot}
section
variable {P:Program}
def moves(c:Cfg)(dst:Option Tmp):Op->Bool
 | .move _ | .assign _ | .extract _ _=>dst.any c.take.contains
 | .store _ _ _ | .box _ _=>true
 | .call { callee:= .builtin .append, .. } =>true
 | .call _=>dst.any c.take.contains
 | _=>false
def pG(c:Cfg)(dst:Option Tmp)(op:Op):List Nat:=dst.toList++(if Hj c dst op || moves c dst op then kE op else [])
def kG(w:Bool):Slot->Fl
 | .lref _ _=>⟨true,w,false,false⟩
 | .d (.ref _ _)=>⟨false,false,true,w⟩
 | _=>⟨false,false,false,false⟩
def iW(c:Cfg)(dst:Option Tmp)(st:St):Op->Fl
 | .load _ a=>kG (dst.any c.take.contains) (st.rdS a)
 | .store _ a _=>kG true (st.rdS a)
 | .alloc _=>if dst.any c.esc.contains then⟨false,false,true,true⟩else⟨true,true,false,false⟩
 | .box _ _=>if dst.any c.imm.contains then⟨false,false,false,false⟩else if dst.any c.esc.contains then⟨false,false,true,true⟩else⟨true,true,false,false⟩
 | .call { callee:= .value _, .. } =>⟨false,false,true,true⟩
 | .call { callee:= .invoke _ _, .. } =>⟨false,false,true,true⟩
 | _=>⟨false,false,false,false⟩
def flX:Op->Fl
 | .call ⟨.builtin .clear,_,_⟩=>⟨false,false,true,true⟩
 | .call ⟨.builtin .append,_,_⟩=>⟨false,false,true,true⟩
 | _=>⟨false,false,false,false⟩
def pX(c:Cfg)(dst:Option Tmp)(st:St)(op:Op):Fl:=if Hj c dst op=true then flY (Ru c dst op) op else if Qs c dst op=true then flX op else iW c dst st op
structure Delta.ok(δ:Delta)(ws:List Nat)(f:Fl):Prop where
 sets:∀p∈δ.sets,p.1∈ws
 loc:δ.loc.isSome=true->f.wL=true
 obj:δ.obj.isSome=true->f.wO=true
structure Agree(rs:List Nat)(f:Fl)(st st':St):Prop where
 n:st'.n=st.n
 env:∀t,t∈rs->st'.env t=st.env t
 loc:f.rL=true->st'.loc=st.loc
 obj:f.rO=true->st'.obj=st.obj
theorem sP (h:Agree rs f st st') {x:Operand} (hx:∀t,cO x=some t->t∈rs):st'.rdS x=st.rdS x:=by
 cases x with
 | tmp t=>exact h.env t (hx t rfl)
 | _=>rfl
theorem lZ (h:Agree rs f st st') {x:Operand} (hx:∀t,cO x=some t->t∈rs):st'.rd x=st.rd x:=by
 unfold St.rd;rw [sP h hx]
def Tr(ws:List Nat)(f:Fl)(st st':St)(K:St->Prop):St->Prop:=fun s'=>∃δ:Delta,δ.ok ws f/\K (st.upd δ)/\s'=st'.upd δ
theorem aAi (hw:∀d,dst=some d->d∈ws)(h:K (st.put dst x)):Tr ws f st st' K (st'.put dst x):=by
 cases dst with
 | none=>exact⟨⟨[],none,none⟩,⟨fun p hp=>by simp at hp,by simp,by simp⟩,h,rfl⟩
 | some d=>exact⟨⟨[(d,x)],none,none⟩,⟨fun p hp=>by simp at hp;subst hp;exact hw d rfl,by simp,by simp⟩,h,rfl⟩
theorem Fm {d:Nat} (hw:d∈ws)(h:K (st.set d x)):Tr ws f st st' K (st'.set d x):=
 ⟨⟨[(d,x)],none,none⟩,⟨fun p hp=>by simp at hp;subst hp;exact hw,by simp,by simp⟩,h,rfl⟩
theorem Dh {d e:Nat} {y:Slot} (hw:d∈ws)(he:e∈ws)(h:K ((st.set d x).set e y)):Tr ws f st st' K ((st'.set d x).set e y):=
 ⟨⟨[(d,x),(e,y)],none,none⟩,⟨fun p hp=>by simp at hp;rcases hp with rfl | rfl <;> assumption,by simp,by simp⟩,h,rfl⟩
theorem eO {x:Operand} (hx:x∈op.operands.toList):∀t,cO x=some t->t∈kE op:=fun t ht=>oU.2 ⟨x,hx,ht⟩
theorem kC :∀d,dst=some d->d∈pG c dst op:=by
 rintro d rfl;simp [pG]
theorem Dx (hm:moves c dst op=true) {t:Nat} (ht:t∈kE op):t∈pG c dst op:=by
 simp [pG,hm,ht]
theorem sA (h:Agree rs f st st') {d:Int} {x:Option Operand} (hx:∀y,x=some y->∀t,cO y=some t->t∈rs):gN st' d x=gN st d x:=by
 cases x with
 | none=>rfl
 | some y=>simp only [gN];rw [lZ h (hx y rfl)]
theorem Mu(a b:List (Nat×Slot))(e:Nat->Slot):gA (a++b) e=gA b (gA a e):=by
 induction a generalizing e with
 | nil=>rfl
 | cons p a ih=>obtain⟨x,y⟩:=p;exact ih _
theorem Ys {l:List (Nat×Slot)} {e:Nat->Slot} {u:Nat} (h:∀p∈l,p.1≠u):gA l e u=e u:=by
 induction l generalizing e with
 | nil=>rfl
 | cons p l ih=>
  obtain⟨x,y⟩:=p;simp only [gA];rw [ih (fun q hq=>h q (by simp [hq]))];rw [aD (fun e=>h (x,y) (by simp) e.symm)]
theorem Aw(l:List Nat)(f:Nat->Slot)(e:Nat->Slot)(u:Nat):gA (l.map fun t=>(t,f t)) e u=if u∈l then f u else e u:=by
 induction l generalizing e with
 | nil=>simp [gA]
 | cons a l ih=>
  simp only [cC,gA];rw [ih];by_cases h1:u∈l
  .simp [h1]
  by_cases h2:u=a
  .subst h2;simp [h1]
  simp [h1,h2]
theorem qS(st:St)(ps qs:List (Nat×Slot))(l o:Option (List (List D))):st.upd ⟨ps++qs,l,o⟩= { n:=st.n,env:=gA qs (gA ps st.env),loc:=l.getD st.loc,obj:=o.getD st.obj } :=by
 simp only [St.upd,Mu]
theorem Yp {t:TypeId} {cs ds:List D} {K K':Bool->Prop} (hk:∀b,K b->K' b)(h:uI P t cs ds K):uI P t cs ds K':=by
 obtain⟨b,h1,h2⟩:=h;exact⟨b,h1,hk b h2⟩
theorem Bn {op:BinOp} {t:TypeId} {y:Slot} {K K':D->Prop} (hk:∀d,K d->K' d)(h:wQ P op t x y K):wQ P op t x y K':=by
 unfold wQ at *;split at h
 .refine⟨h.1,?_⟩;have h2:=h.2;unfold Ic at *;cases op <;> simp only at h2 |- <;> first | exact hk _ h2 | exact⟨h2.1,hk _ h2.2⟩ | exact⟨h2.1,h2.2.1,hk _ h2.2.2⟩ | exact h2
 .unfold Ih at *;cases op <;> simp only at h |- <;> first | exact hk _ h | exact⟨h.1,hk _ h.2⟩ | exact h
 .refine⟨h.1,?_⟩;have h2:=h.2;cases op <;> simp only at h2 |- <;> first | exact hk _ h2 | exact h2
 .refine⟨h.1,?_⟩;have h2:=h.2;cases op <;> simp only at h2 |- <;> first | exact Yp (fun b hb=>hk _ hb) h2 | exact h2
 .refine⟨h.1,?_⟩;have h2:=h.2;cases op <;> simp only at h2 |- <;> first | exact hk _ h2 | exact h2
 .refine⟨h.1,?_⟩;have h2:=h.2;cases op <;> simp only at h2 |- <;> first | exact hk _ h2 | exact h2
 exact h
theorem Gp {op:UnOp} {x:D} {K K':D->Prop} (hk:∀d,K d->K' d)(h:Ii op x K):Ii op x K':=by
 unfold Ii at *;split at h
 .exact hk _ h
 .exact⟨h.1,hk _ h.2⟩
 exact h
theorem aHf (hit:Ep op=false)(hrs:∀t,t∈kE op->t∈rs)(ha:Agree rs (iW c dst st op) st st')(h:dV P c dst op st K):dV P c dst op st' (Tr (pG c dst op) (iW c dst st op) st st' K):=by
 have rdS : ∀ x, x ∈ op.operands.toList -> st'.rdS x = st.rdS x := fun x hx => sP ha fun t ht => hrs t (eO hx t ht);have rd : ∀ x, x ∈ op.operands.toList -> st'.rd x = st.rd x := fun x hx => lZ ha fun t ht => hrs t (eO hx t ht);have env : ∀ t, Operand.tmp t ∈ op.operands.toList -> st'.env t = st.env t := fun t ht => rdS (.tmp t) ht;have put : ∀ {x : Slot}, K (st.put dst x) -> Tr (pG c dst op) (iW c dst st op) st st' K (st'.put dst x) := fun h => aAi kC h;have mv : ∀ x, op = .move x \/ op = .assign x -> kX c dst x st K -> kX c dst x st' (Tr (pG c dst op) (iW c dst st op) st st' K) := by
  intro x ho h;have hx:x∈op.operands.toList:=by rcases ho with rfl | rfl <;> simp [Op.operands]
  cases x with
  | tmp s =>
   cases hd:dst with
   | none=>rw [hd] at h;exact h.elim
   | some d =>
    rw [hd] at h;simp only [kX] at h |-;rw [env s hx];cases he:st.env s with
    | lref n off=>rw [he] at h;exact Fm (by simp [pG]) h
    | d y =>
     rw [he] at h;simp only at h |-;split at h
     .rename_i ht;rw [aK ht];have hm:moves c (some d) op=true:=by rcases ho with rfl | rfl <;> simpa [moves] using ht
      exact⟨h.1,h.2.1,Dh (Dx hm (eO hx s rfl)) (kC d rfl) h.2.2⟩
     rename_i ht;rw [aD ht];exact⟨h.1,Fm (kC d rfl) h.2⟩
  | const v=>
   have h':K (st.put dst (st.rdS (.const v))):=by unfold kX at h;split at h <;> simp_all
   have:=put h';cases dst <;> exact this
  | func v=>
   have h':K (st.put dst (st.rdS (.func v))):=by unfold kX at h;split at h <;> simp_all
   have:=put h';cases dst <;> exact this
  | global v=>
   have h':K (st.put dst (st.rdS (.global v))):=by unfold kX at h;split at h <;> simp_all
   have:=put h';cases dst <;> exact this
 have cells:∀a,a∈op.operands.toList->(kG false (st.rdS a)).rL=(iW c dst st op).rL->(kG false (st.rdS a)).rO=(iW c dst st op).rO->st'.cellsAt (st.rdS a)=st.cellsAt (st.rdS a):=by
  intro a ha' h1 h2;cases hs:st.rdS a with
  | lref n off=>
   rw [hs] at h1;simp only [St.cellsAt];rw [ha.loc (by rw [<- h1];rfl)]
  | d d=>
   rw [hs] at h2;cases d <;> simp only [St.cellsAt];rw [ha.obj (by rw [<- h2];rfl)]
 have flr:∀(w:Bool) (s:Slot),(kG w s).rL=(kG false s).rL/\(kG w s).rO=(kG false s).rO:=by
  intro w s;cases s with
  | lref n o=>exact⟨rfl,rfl⟩
  | d d=>cases d <;> exact⟨rfl,rfl⟩
 cases op with
 | move x=>exact mv x (.inl rfl) h
 | assign x=>exact mv x (.inr rfl) h
 | binOp b t x y yt =>
  simp only [dV] at h |-;split at h
  .rename_i hy;rw [aK hy];unfold Km at h |-;rw [rd x (by simp [Op.operands])];refine⟨h.1,?_⟩;have h:=h.2;split at h
   .split at h
    .exact⟨put h.1,fun e=>put (h.2 e)⟩
    .exact⟨put h.1,fun e=>put (h.2 e)⟩
    exact h.elim
   exact h.elim
  rename_i hy;rw [aD hy];rw [rdS x (by simp [Op.operands]),rdS y (by simp [Op.operands])];exact Bn (fun d hd=>put hd) h
 | unOp u t x=>
  simp only [dV] at h |-;rw [rd x (by simp [Op.operands])];exact Gp (fun d hd=>put hd) h
 | load t x =>
  have hx:x∈(Op.load t x).operands.toList:=by simp [Op.operands]
  simp only [dV] at h |-;have hc:st'.cellsAt (st.rdS x)=st.cellsAt (st.rdS x):=cells x hx (by simp only [iW];exact(flr _ _).1.symm) (by simp only [iW];exact(flr _ _).2.symm);have pl:jY P dst t x st K->jY P dst t x st' (Tr (pG c dst (.load t x)) (iW c dst st (.load t x)) st st' K):=by
   intro h;unfold jY at h |-;rw [rdS x hx,hc];split at h
   .split at h
    .exact put h
    exact h.elim
   exact h.elim
  unfold lW at h |-;rw [rdS x hx];split at h
  .rename_i a n d ht;split at h
   .rename_i htk;have ht':(some d).any c.take.contains=true:=by simpa using htk
    rw [aK htk];split at h
    .rename_i m off hs;have hloc:st'.loc=st.loc:=ha.loc (by simp [iW,hs,kG]);rw [hloc];split at h
     .rename_i cs hcs;split at h
      .rename_i y hy;refine⟨h.1,h.2.1,⟨[(d,.d y)],some (st.loc.set m (dZ cs off y.s2.cells)),none⟩,⟨fun p hp=>by simp at hp;subst hp;exact kC d rfl,fun _=>by simp [iW,hs,kG];simpa using htk,by simp⟩,h.2.2,rfl⟩
      exact h.elim
     exact h.elim
    .rename_i m off hs;have hobj:st'.obj=st.obj:=ha.obj (by simp [iW,hs,kG]);rw [hobj];split at h
     .rename_i cs hcs;split at h
      .rename_i y hy;refine⟨h.1,h.2.1,⟨[(d,.d y)],none,some (st.obj.set m (dZ cs off y.s2.cells))⟩,⟨fun p hp=>by simp at hp;subst hp;exact kC d rfl,by simp,fun _=>by simp [iW,hs,kG];simpa using htk⟩,h.2.2,rfl⟩
      exact h.elim
     exact h.elim
    exact pl h
   rename_i htk;rw [aD htk];exact pl h
  exact pl h
 | fieldAddr s x f=>
  simp only [dV,nB] at h |-;rw [rdS x (by simp [Op.operands])];split at h
  .exact⟨h.1,put h.2⟩
  exact h.elim
 | indexAddr t x i =>
  simp only [dV,nD] at h |-;rw [rd x (by simp [Op.operands]),rd i (by simp [Op.operands]),rdS x (by simp [Op.operands])];split at h
  .split at h
   .split at h
    .exact⟨h.1,h.2.1,h.2.2.1,put h.2.2.2⟩
    exact h.elim
   split at h
   .exact⟨h.1,h.2.1,put h.2.2⟩
   exact h.elim
  exact h.elim
 | index t x i =>
  simp only [dV,wA] at h |-;rw [rd x (by simp [Op.operands]),rd i (by simp [Op.operands])];split at h
  .exact⟨h.1,h.2.1,put h.2.2⟩
  .split at h
   .split at h
    .split at h
     .exact⟨h.1,put h.2⟩
     exact h.elim
    exact h.elim
   exact h.elim
  exact h.elim
 | slice t x lo hi mx =>
  simp only [dV,vR] at h |-;have bl:∀d,gN st' d lo=gN st d lo:=fun d=>sA ha (by rintro y rfl t ht;exact hrs t (eO (by simp [Op.operands]) t ht));have bh:∀d,gN st' d hi=gN st d hi:=fun d=>sA ha (by rintro y rfl t ht;exact hrs t (eO (by simp [Op.operands]) t ht));have bm:∀m,mx=some m->∀d,gN st' d (some m)=gN st d (some m):=fun m hm d=>sA ha (by subst hm;rintro y hy t ht;cases hy;exact hrs t (eO (by simp [Op.operands]) t ht));rw [rd x (by simp [Op.operands])];split at h
  .obtain⟨h1,h2,h3⟩:=h;refine⟨h1,h2,?_⟩;rw [bl,bh];split at h3
   .exact⟨h3.1,put h3.2⟩
   exact h3.elim
  .split at h
   .split at h
    .rw [bl,bh];split at h
     .exact⟨h.1,h.2.1,put h.2.2⟩
     exact h.elim
    rename_i m;rw [bl,bh,bm m rfl];split at h
    .exact⟨h.1,h.2.1,put h.2.2⟩
    exact h.elim
   exact h.elim
  exact h.elim
 | pick a x y=>
  simp only [dV,Bs] at h |-;rw [rd a (by simp [Op.operands]),rd x (by simp [Op.operands]),rd y (by simp [Op.operands])];split at h
  .exact⟨fun ht=>⟨(h.1 ht).1,put (h.1 ht).2⟩,fun ht=>⟨(h.2 ht).1,put (h.2 ht).2⟩⟩
  exact h.elim
 | extract x i =>
  simp only [dV,qE] at h |-;split at h
  .rename_i s d;have hx:Operand.tmp s∈(Op.extract (.tmp s) i).operands.toList:=by simp [Op.operands]
   rw [env s hx];split at h
   .split at h
    .refine⟨h.1,?_⟩;have h2:=h.2;split at h2
     .rename_i ht;rw [aK ht];have hm:moves c (some d) (.extract (.tmp s) i)=true:=by simpa [moves] using ht
      exact⟨h2.1,h2.2.1,Dh (Dx hm (eO hx s rfl)) (kC d rfl) h2.2.2⟩
     rename_i ht;rw [aD ht];exact Fm (kC d rfl) h2
    exact h.elim
   exact h.elim
  exact h.elim
 | makeFunc f first caps=>
  simp only [dV,Tn] at h |-;have e1:∀x∈first.toList++caps.toList,st'.rd x=st.rd x:=fun x hx=>rd x (by simpa [Op.operands] using hx)
  refine⟨fun x hx=>by rw [e1 x hx];exact h.1 x hx,?_⟩;have e2:(first.toList.map fun x=>(st'.rd x).strip)=first.toList.map fun x=>(st.rd x).strip:=cW fun x hx=>by rw [e1 x (gE _ hx)]
  have e3:(caps.toList.map fun x=>(st'.rd x).strip)=caps.toList.map fun x=>(st.rd x).strip:=cW fun x hx=>by rw [e1 x (pA _ hx)]
  rw [e2,e3];exact put h.2
 | nilCheck x=>
  simp only [dV,wF] at h |-;rw [rdS x (by simp [Op.operands])];exact⟨h.1,put h.2⟩
 | convert s d x=>
  simp only [dV,qN] at h |-;rw [rd x (by simp [Op.operands])];split at h
  .obtain⟨a,b,h1,h2,h3,h4⟩:=h;exact⟨a,b,h1,h2,h3,put h4⟩
  .exact⟨h.1,h.2.1,put h.2.2⟩
  exact h.elim
 | alloc e =>
  simp only [dV,tX] at h |-;split at h
  .rename_i cs d hz;split at h
   .rename_i he;rw [aK he];have hf:iW c (some d) st (.alloc e)=⟨false,false,true,true⟩:=by simp only [iW];rw [aK (by simpa using he)]
    have hobj:st'.obj=st.obj:=ha.obj (by rw [hf]);rw [hobj];exact⟨⟨[(d,.d (.ref st.obj.length 0))],none,some (st.obj++ [cs])⟩,⟨fun p hp=>by simp at hp;subst hp;exact kC d rfl,by simp,fun _=>by rw [hf]⟩,h,rfl⟩
   rename_i he;rw [aD he];have hf:iW c (some d) st (.alloc e)=⟨true,true,false,false⟩:=by simp only [iW];rw [aD (by simpa using he)]
   have hloc:st'.loc=st.loc:=ha.loc (by rw [hf]);rw [hloc];exact⟨⟨[(d,.lref st.loc.length 0)],some (st.loc++ [cs]),none⟩,⟨fun p hp=>by simp at hp;subst hp;exact kC d rfl,fun _=>by rw [hf],by simp⟩,h,rfl⟩
  exact h.elim
 | box e x =>
  have hx:x∈(Op.box e x).operands.toList:=by simp [Op.operands]
  simp only [dV,Hq] at h |-;split at h
  .rename_i d;rw [rd x hx];refine⟨h.1,?_⟩;have h2:=h.2
   -- what is laid aside
   have pk:∃ps:List (Nat×Slot),(∀p∈ps,p.1∈pG c (some d) (.box e x))/\(∀s:St,(∀t,cO x=some t->s.env t=st.env t)->s.park x=s.upd ⟨ps,none,none⟩):=by
    cases x with
    | tmp u=>
     cases he:st.env u with
     | lref n o=>exact⟨[],fun p hp=>by simp at hp,fun s hs=>by simp only [St.park];rw [hs u rfl,he];rfl⟩
     | d y=>exact⟨[(u,.d y.s2)],fun p hp=>by simp at hp;subst hp;exact Dx (by simp [moves]) (eO hx u rfl),fun s hs=>by simp only [St.park];rw [hs u rfl,he];rfl⟩
    | _=>exact⟨[],fun p hp=>by simp at hp,fun s hs=>rfl⟩
   obtain⟨ps,p1,p2⟩:=pk;have q1:=p2 st fun t _=>rfl;have q2:=p2 st' fun t ht=>ha.env t (hrs t (eO hx t ht));split at h2
   .rename_i hi;rw [aK hi];exact Fm (kC d rfl) h2
   rename_i hi;rw [aD hi];split at h2
   .rename_i he;rw [aK he];have hf:iW c (some d) st (.box e x)=⟨false,false,true,true⟩:=by
     simp only [iW];rw [aD (by simpa using hi),aK (by simpa using he)]
    have hobj:st'.obj=st.obj:=ha.obj (by rw [hf]);rw [hobj,q2];rw [q1] at h2;refine⟨⟨ps++ [(d,.d (.ref st.obj.length 0))],none,some (st.obj++ [(st.rd x).cells])⟩,⟨fun p hp=>?_,by simp,fun _=>by rw [hf]⟩,?_,?_⟩
    .rcases bT.1 hp with hp | hp
     .exact p1 p hp
     simp at hp;subst hp;exact kC d rfl
    .rw [qS];exact h2
    rw [qS];rfl
   rename_i he;rw [aD he];have hf:iW c (some d) st (.box e x)=⟨true,true,false,false⟩:=by
    simp only [iW];rw [aD (by simpa using hi),aD (by simpa using he)]
   have hloc:st'.loc=st.loc:=ha.loc (by rw [hf]);rw [hloc,q2];rw [q1] at h2;refine⟨⟨ps++ [(d,.lref st.loc.length 0)],some (st.loc++ [(st.rd x).cells]),none⟩,⟨fun p hp=>?_,fun _=>by rw [hf],by simp⟩,?_,?_⟩
   .rcases bT.1 hp with hp | hp
    .exact p1 p hp
    simp at hp;subst hp;exact kC d rfl
   .rw [qS];exact h2
   rw [qS];rfl
  exact h.elim
 | store t a v =>
  have hv:v∈(Op.store t a v).operands.toList:=by simp [Op.operands]
  have haa:a∈(Op.store t a v).operands.toList:=by simp [Op.operands]
  simp only [dV,yX] at h |-;rw [rd v hv,rdS a haa];refine⟨h.1,h.2.1,h.2.2.1,?_⟩;have h2:=h.2.2.2;have pk:∃ps:List (Nat×Slot),(∀p∈ps,p.1∈pG c dst (.store t a v))/\(∀s:St,(∀t,cO v=some t->s.env t=st.env t)->s.park v=s.upd ⟨ps,none,none⟩):=by
   cases v with
   | tmp u=>
    cases he:st.env u with
    | lref n o=>exact⟨[],fun p hp=>by simp at hp,fun s hs=>by simp only [St.park];rw [hs u rfl,he];rfl⟩
    | d y=>exact⟨[(u,.d y.s2)],fun p hp=>by simp at hp;subst hp;exact Dx (by simp [moves]) (eO hv u rfl),fun s hs=>by simp only [St.park];rw [hs u rfl,he];rfl⟩
   | _=>exact⟨[],fun p hp=>by simp at hp,fun s hs=>rfl⟩
  obtain⟨ps,p1,p2⟩:=pk;have q1:=p2 st fun t _=>rfl;have q2:=p2 st' fun t ht=>ha.env t (hrs t (eO hv t ht));split at h2
  .rename_i m off hs;have hf:iW c dst st (.store t a v)=⟨true,true,false,false⟩:=by simp only [iW,hs,kG]
   have hloc:st'.loc=st.loc:=ha.loc (by rw [hf]);rw [hloc];split at h2
   .rename_i cs hcs;refine⟨h2.1,?_⟩;have h3:=h2.2;rw [q1] at h3;rw [q2];exact⟨⟨ps,some (st.loc.set m (dZ cs off (st.rd v).cells)),none⟩,⟨p1,fun _=>by rw [hf],by simp⟩,h3,rfl⟩
   exact h2.elim
  .rename_i m off hs;have hf:iW c dst st (.store t a v)=⟨false,false,true,true⟩:=by simp only [iW,hs,kG]
   have hobj:st'.obj=st.obj:=ha.obj (by rw [hf]);rw [hobj];split at h2
   .rename_i cs hcs;refine⟨h2.1,?_⟩;have h3:=h2.2;rw [q1] at h3;rw [q2];exact⟨⟨ps,none,some (st.obj.set m (dZ cs off (st.rd v).cells))⟩,⟨p1,by simp,fun _=>by rw [hf]⟩,h3,rfl⟩
   exact h2.elim
  exact h2.elim
 | build t parts =>
  simp only [dV,vV] at h |-;have e1:(parts.toList.map fun p=>(p.1,st'.rd p.2))=parts.toList.map fun p=>(p.1,st.rd p.2):=cW fun p hp=>by rw [rd p.2 (by simp [Op.operands];exact⟨p.1,by simpa using hp⟩)]
  rw [e1];split at h
  .split at h
   .exact put h
   exact h.elim
  exact h.elim
 | buildSlice t len parts=>
  simp only [dV,lU] at h |-;have e0:∀p∈parts.toList,st'.rd p.2=st.rd p.2:=fun p hp=>rd p.2 (by simp [Op.operands];exact⟨p.1,by simpa using hp⟩);have e1:(parts.toList.map fun p=>(st'.rd p.2).s2)=parts.toList.map fun p=>(st.rd p.2).s2:=cW fun p hp=>by rw [e0 p hp]
  split at h
  .exact⟨h.1,fun p hp=>by rw [e0 p hp];exact h.2.1 p hp,by rw [e1];exact Fm (kC _ rfl) h.2.2⟩
  exact h.elim
 | call call =>
  obtain⟨callee,args,ts⟩:=call;simp only [dV,qQ] at h |-;have hargs:∀x∈args.toList,x∈(Op.call ⟨callee,args,ts⟩).operands.toList:=fun x hx=>by simp [Op.operands,Call.operands];right;simpa using hx
  cases callee with
  | builtin b =>
   simp only [sS] at h |-;split at h
   .rename_i x t h1 h2;have hx:=hargs x (by rw [h1];simp);simp only [Mm] at h |-;rw [rd x hx];split at h
    .exact⟨h.1,put h.2⟩
    .exact⟨h.1,put h.2⟩
    exact h.elim
   .rename_i s x t t2 h1 h2;have hsop:=hargs s (by rw [h1];simp);have hx:=hargs x (by rw [h1];simp);simp only [tK] at h |-;rw [rd x hx,rd s hsop];split at h
    .refine⟨h.1,h.2.1,h.2.2.1,h.2.2.2.1,?_⟩;have h5:=h.2.2.2.2;split at h5
     .rename_i u _;exact⟨h5.1,Dh (Dx (by simp [moves]) (eO hsop u rfl)) (kC _ rfl) h5.2⟩
     .exact Fm (kC _ rfl) h5
     exact h5.elim
    exact h.elim
   .rename_i x y h1;simp only [xA] at h |-;rw [rd x (hargs x (by rw [h1];simp)),rd y (hargs y (by rw [h1];simp))];split at h
    .exact⟨h.1,put h.2⟩
    exact h.elim
   .rename_i x y h1;simp only [xA] at h |-;rw [rd x (hargs x (by rw [h1];simp)),rd y (hargs y (by rw [h1];simp))];split at h
    .exact⟨h.1,put h.2⟩
    exact h.elim
   exact h.elim
  | value f =>
   have hff:f∈(Op.call ⟨.value f,args,ts⟩).operands.toList:=by simp [Op.operands,Call.operands]
   have hf:iW c dst st (.call ⟨.value f,args,ts⟩)=⟨false,false,true,true⟩:=rfl;have hobj:st'.obj=st.obj:=ha.obj (by rw [hf]);have pc:mQ P dst f args.toList st K->mQ P dst f args.toList st' (Tr (pG c dst (.call ⟨.value f,args,ts⟩)) (iW c dst st (.call ⟨.value f,args,ts⟩)) st st' K):=by
    intro h;unfold mQ at h |-;rw [rd f hff];split at h
    .refine⟨h.1,fun x hx=>by rw [rd x (hargs x hx)];exact h.2.1 x hx,?_⟩;have e1:iK args.toList st'=iK args.toList st:=cW fun x hx=>mX (rd x (hargs x hx));rw [e1,hobj];refine h.2.2.mono fun r σ' hK=>?_;cases hd:dst with
     | none=>rw [hd] at hK;exact⟨⟨[],none,some σ'⟩,⟨fun p hp=>by simp at hp,by simp,fun _=>by rw [hd] at hf;rw [hf]⟩,hK,rfl⟩
     | some d=>rw [hd] at hK;exact⟨⟨[(d,.d r)],none,some σ'⟩,⟨fun p hp=>by simp at hp;subst hp;exact kC d rfl,by simp,fun _=>by rw [hd] at hf;rw [hf]⟩,hK,rfl⟩
    exact h.elim
   have pt:∀fid,f= .func fid->(∃d,dst=some d/\c.take.contains d=true)->pU P dst fid args.toList st K->pU P dst fid args.toList st' (Tr (pG c dst (.call ⟨.value f,args,ts⟩)) (iW c dst st (.call ⟨.value f,args,ts⟩)) st st' K):=by
    rintro fid rfl ⟨d,rfl,htk⟩ h;unfold pU at h |-;refine⟨h.1,fun x hx=>by rw [rd x (hargs x hx),rdS x (hargs x hx)];exact h.2.1 x hx,?_⟩;have e1:args.toList.map (wS st')=args.toList.map (wS st):=
     cW fun x hx=>As (rd x (hargs x hx))
    rw [e1,hobj];refine h.2.2.mono fun r σ' hK=>?_
    -- the slots that gave their rights
    have hst:∀s:St,(∀t,some t∈args.toList.map cO->s.env t=st.env t)->∃ps:List (Nat×Slot),(∀p∈ps,p.1∈pG c (some d) (.call ⟨.value (.func fid),args,ts⟩))/\ps=((args.toList.filterMap cO).map fun t=>(t,gS (args.toList.map cO) st.env t))/\gS (args.toList.map cO) s.env=gA ps s.env:=by
     intro s hs;refine⟨_,fun p hp=>?_,rfl,?_⟩
     .obtain⟨t,ht,rfl⟩:=aV.1 hp;obtain⟨x,hx,hx'⟩:=oU.1 ht;exact Dx (by simpa [moves] using htk) (eO (hargs x hx) t hx')
     funext u;rw [Aw];by_cases hu:(args.toList.map cO).contains (some u)=true
     .have hm:u∈args.toList.filterMap cO:=by
       have:some u∈args.toList.map cO:=by simpa using hu
       obtain⟨x,hx,hx'⟩:=aV.1 this;exact oU.2 ⟨x,hx,hx'⟩
      rw [aK hm];have he:s.env u=st.env u:=hs u (by simpa using hu);simp only [gS,hu,aU,he]
     have hm:u∉args.toList.filterMap cO:=by
      intro hm;obtain⟨x,hx,hx'⟩:=oU.1 hm;exact hu (by simpa using List.mem_map.2 ⟨x,hx,hx'⟩)
     rw [aD hm];simp only [gS,hu];rfl
    obtain⟨ps,p1,p2,p3⟩:=hst st fun _ _=>rfl;obtain⟨ps',_,p2',p3'⟩:=hst st' fun t ht=>by
     obtain⟨x,hx,hx'⟩:=aV.1 ht;exact ha.env t (hrs t (eO (hargs x hx) t hx'))
    rw [p2',<- p2] at p3';rw [p3] at hK;rw [p3'];refine⟨⟨ps++ [(d,.d r)],none,some σ'⟩,⟨fun p hp=>?_,by simp,fun _=>by rw [hf]⟩,?_,?_⟩
    .rcases bT.1 hp with hp | hp
     .exact p1 p hp
     simp at hp;subst hp;exact kC d rfl
    .rw [qS];exact hK
    rw [qS];rfl
   cases f with
   | func fid =>
    simp only at h |-;cases hd:dst with
    | none=>rw [hd] at h;simp only at h |-;have:=pc (by rw [hd];exact h);rwa [hd] at this
    | some d =>
     rw [hd] at h;simp only at h |-;split at h
     .rename_i htk;rw [aK htk];have:=pt fid rfl ⟨d,hd,htk⟩ (by rw [hd];exact h)
      rwa [hd] at this
     rename_i htk;rw [aD htk];have:=pc (by rw [hd];exact h)
     rwa [hd] at this
   | _=>exact pc h
  | invoke f m=>exact h.elim
 | range t x=>simp [Ep] at hit
 | next x s=>simp [Ep] at hit
 | entry x=>simp [Ep] at hit
 | _=>exact h.elim
theorem aPp (hrs:∀t,t∈kE op->t∈rs)(ha:Agree rs (flX op) st st')(h:vcX P dst op st K):vcX P dst op st' (Tr (pG c dst op) (flX op) st st' K):=by
 have rdS:∀x,x∈op.operands.toList->st'.rdS x=st.rdS x:=fun x hx=>sP ha fun t ht=>hrs t (eO hx t ht);have rd:∀x,x∈op.operands.toList->st'.rd x=st.rd x:=fun x hx=>lZ ha fun t ht=>hrs t (eO hx t ht);have env:∀t,Operand.tmp t∈op.operands.toList->st'.env t=st.env t:=fun t ht=>rdS (.tmp t) ht;have put:∀ {x:Slot},K (st.put dst x)->Tr (pG c dst op) (flX op) st st' K (st'.put dst x):=fun h=>aAi kC h;unfold vcX at h |-;split at h
 .rename_i args ts;have hargs:∀x∈args.toList,x∈(Op.call ⟨.builtin .len,args,ts⟩).operands.toList:=fun x hx=>by simp [Op.operands,Call.operands];simpa using hx
  split at h
  .rename_i x t h1 h2;simp only [Gu] at h |-;rw [rd x (hargs x (by rw [h1];simp))];refine⟨h.1,?_⟩;have h':=h.2;split at h' <;> first | exact put h' | exact h'.elim
  exact h.elim
 .rename_i args ts;have hargs:∀x∈args.toList,x∈(Op.call ⟨.builtin .append,args,ts⟩).operands.toList:=fun x hx=>by simp [Op.operands,Call.operands];simpa using hx
  split at h
  .rename_i s x t t2 h1 h2;have hsop:=hargs s (by rw [h1];simp);simp only [qG] at h |-;rw [rd x (hargs x (by rw [h1];simp))];split at h
   .rename_i e k by_ z d u ow xs he hx;refine⟨h.1,h.2.1,h.2.2.1,?_⟩;have h5:=h.2.2.2;rw [env u hsop];split at h5
    .exact⟨h5.1,Dh (Dx (by simp [moves]) (eO hsop u rfl)) (kC _ rfl) h5.2⟩
    .exact⟨h5.1,Dh (Dx (by simp [moves]) (eO hsop u rfl)) (kC _ rfl) h5.2⟩
    .rename_i N a len cap hs5;obtain⟨ds,es,h6,h7⟩:=h5;have hobj:st'.obj=st.obj:=ha.obj rfl;rw [hobj];refine⟨ds,es,h6,⟨[(u,.any),(d,.d (.xs k (es++xs)))],none,some (st.obj.set N [])⟩,⟨fun p hp=>?_,by simp,fun _=>rfl⟩,h7,rfl⟩;simp only [bM,gX,iB] at hp;rcases hp with rfl | rfl
     .exact Dx (by simp [moves]) (eO hsop u rfl)
     exact kC _ rfl
    exact h5.elim
   exact h.elim
  exact h.elim
 .rename_i args ts;have hargs:∀x∈args.toList,x∈(Op.call ⟨.builtin .clear,args,ts⟩).operands.toList:=fun x hx=>by simp [Op.operands,Call.operands];simpa using hx
  split at h
  .rename_i x t h1 h2;simp only [vM] at h |-;rw [rd x (hargs x (by rw [h1];simp))];refine⟨h.1,?_⟩;have h':=h.2;have hobj:st'.obj=st.obj:=ha.obj rfl;split at h'
   .rename_i e k by_ z m a len cap he hx;rw [hobj];split at h'
    .rename_i cs hcs;exact⟨h'.1,⟨[],none,some (st.obj.set m (dZ cs a (jK z len)))⟩,⟨fun p hp=>by simp at hp,by simp,fun _=>rfl⟩,h'.2,rfl⟩
    exact h'.elim
   exact h'.elim
  exact h.elim
 .rename_i t x i;simp only [lV] at h |-;rw [rd x (by simp [Op.operands]),rd i (by simp [Op.operands])];split at h
  .exact⟨h.1,put h.2⟩
  exact h.elim
 .rename_i t x lo hi;simp only [tA] at h |-;have hb:∀(d:Int) (y:Option Operand),(y=lo\/y=hi)->gN st' d y=gN st d y:=fun d y hy=>sA ha fun z hz t ht=>hrs t (eO (by rcases hy with rfl | rfl <;> simp [Op.operands,hz]) t ht);rw [rd x (by simp [Op.operands]),hb 0 lo (.inl rfl)];split at h
  .rename_i e k by_ z m a len cap he hx;rw [hb len hi (.inr rfl)];split at h
   .exact⟨h.1,put h.2⟩
   exact h.elim
  exact h.elim
 exact h.elim
theorem aOf (hit:Ep op=false)(hrs:∀t,t∈kE op->t∈rs)(ha:Agree rs (pX c dst st op) st st')(h:jE P c dst op st K):jE P c dst op st' (Tr (pG c dst op) (pX c dst st op) st st' K):=by
 unfold jE pX at *;by_cases hy:Hj c dst op=true
 .have hw:pG c dst op=dst.toList++kE op:=by simp [pG,hy]
  simp only [hy,aU] at *;have rdS:∀x,x∈op.operands.toList->st'.rdS x=st.rdS x:=fun x hx=>sP ha fun t ht=>hrs t (eO hx t ht);obtain⟨sets,ob,h1,hK⟩:=h;obtain⟨s1,s2⟩:=aBl h1;refine⟨sets,ob,?_,⟨sets,none,ob⟩,⟨fun p hp=>by rw [hw];exact s1 p hp,by simp,s2⟩,hK,rfl⟩;rw [Tx rdS];have:(if(flY (Ru c dst op) op).rO=true then st'.obj else [])=(if(flY (Ru c dst op) op).rO=true then st.obj else []):=by
   split
   .rename_i h;exact ha.obj h
   rfl
  rw [this];exact h1
 simp only [hy] at *;by_cases hu:Qs c dst op=true
 .simp only [hu,aU] at *;exact aPp hrs ha h
 simp only [hu] at *;exact aHf hit hrs ha h
end
end Go.Vm
