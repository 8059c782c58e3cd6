import Derived.Test.YtbdjepeabjangaaGreatVm4
set_option linter.all false
namespace Go.Vm
open Go
variable {a:Bool}{b n off:Nat}{bs:List Nat}{g:Gh}{o:Oper}{t:TypeId}{tmps vs:Array Value}{w:World}
def aI6:TypeDesc->Bool
 | .struct _ | .array _ _=>true
 | _=>false
def fE(P:Program)(t:TypeId):Option (Bool×Nat):=
 match P.underlying t,P.info? t with
 | some d,some i=>some (aI6 d,i.size)
 | _,_=>none
def aW(P:Program)(s:TypeId)(f:Nat):Option (Nat×Bool×Nat):=
 match P.underlying s with
 | some (.struct fs) => match fs[f]? with
  | some fd=>match fE P fd.type with
   | some (a,n)=>if n=0 then none else some (fd.offset,a,n)
   | none=>none
  | none=>none
 | _=>none
def fA(P:Program)(t:TypeId):Option (TypeId×Nat×Nat×Array Value):=
 match P.underlying t with
 | some (.slice e) => match P.info? e with
  | some i=>match i.zero with
   | some z=>if z.cells.size=i.size/\0<i.size then some (e,i.size,i.bytes,z.cells)else none
   | none=>none
  | none=>none
 | _=>none
def aBi(P:Program)(t:TypeId):Option (Nat×Nat):=
 match P.underlying t with
 | some (.array n e)=>match P.info? e with
  | some i=>some (n,i.size)
  | none=>none
 | _=>none
section
variable {P:Program}
theorem lD (h:fE P t=some (a,n)):∃d i,P.underlying t=some d/\P.info? t=some i/\aI6 d=a/\i.size=n:=by
 unfold fE at h;split at h
 .rename_i d i h1 h2;simp only [aP,fK] at h;exact⟨d,i,h1,h2,h.1,h.2⟩
 cases h
theorem gW {e:TypeId} {k by_:Nat} {z:Array Value} (h:fA P t=some (e,k,by_,z)):∃i zv,P.underlying t=some (.slice e)/\P.info? e=some i/\i.zero=some zv/\zv.cells=z/\i.size=k/\i.bytes=by_/\z.size=k/\0<k:=by
 unfold fA at h;split at h
 .rename_i e' h1;split at h
  .rename_i i h2;split at h
   .rename_i zv h3;split at h
    .rename_i h4;simp only [aP,fK] at h;obtain⟨rfl,rfl,rfl,rfl⟩:=h;exact⟨i,zv,h1,h2,h3,rfl,rfl,rfl,h4.1,h4.2⟩
    cases h
   cases h
  cases h
 cases h
theorem kT {d:TypeDesc} (h:P.underlying t=some d)(w:World):(isAgg t).run P w= .ok (aI6 d) w:=by
 unfold isAgg;simp only [Sem.run_bind,run_underlying h,Result.andThen_ok];cases d <;> rfl
theorem bH {i:TypeInfo} (h:P.info? t=some i)(w:World):(sizeOf t).run P w= .ok i.size w:=by
 simp [sizeOf,typeInfo,h]
theorem zX(w:World):(program).run P w= .ok P w:=rfl
theorem sA {x:Value} (h:w.cell? ⟨b,off,none⟩=some x):(load ⟨b,off,none⟩).run P w= .ok x w:=by
 rw [run_load,h]
def CV(w:World)(g:Gh)(b off:Nat)(cs:List D):Prop:=
 ∀(i:Nat) (d:D),cs[i]?=some d->∃x,w.cell? ⟨b,off+i,none⟩=some x/\R g.M g.bs d x/\x.oneCell'=true
def sH(a:Bool)(n:Nat)(cs:List D):Option D:=
 if a then(if n<=cs.length then some (.agg (cs.take n))else none)else cs.head?
theorem CV.list :∀ {cs:List D},CV w g b off cs->∃xs:List Value,xs.length=cs.length/\(∀(i:Nat) (x:Value),xs[i]?=some x->w.cell? ⟨b,off+i,none⟩=some x/\x.oneCell'=true)/\∀(i:Nat) (d:D) (x:Value),cs[i]?=some d->xs[i]?=some x->R g.M g.bs d x:=by
 intro cs h;induction cs generalizing off with
 | nil=>exact⟨[],rfl,fun i x h=>by simp at h,fun i d x h=>by simp at h⟩
 | cons c cs ih =>
  obtain⟨x,h1,h2,h3⟩:=h 0 c rfl;obtain⟨xs,h4,h5,h6⟩:=ih (off:=off+1) (fun i d hi=>by
   obtain⟨y,a1,a2,a3⟩:=h (i+1) d (by simpa using hi);exact⟨y,by rw [show off+1+i=off+(i+1) by omega];exact a1,a2,a3⟩)
  refine⟨x::xs,by simp [h4],fun i y hi=>?_,fun i d y hd hi=>?_⟩
  .match i with
   | 0=>simp at hi;subst hi;exact⟨h1,h3⟩
   | i+1=>rw [show off+(i+1)=off+1+i by omega];exact h5 i y (by simpa using hi)
  match i with
  | 0=>simp at hi hd;subst hi;subst hd;exact h2
  | i+1=>exact h6 i d y (by simpa using hd) (by simpa using hi)
theorem Addr.add_none(b off n:Nat):(⟨b,off,none⟩:Addr).add n=⟨b,off+n,none⟩:=by
 unfold Addr.add;split <;> simp_all
theorem sB {cs:List D} {d:D} (hc:CV w g b off cs)(ht:fE P t=some (a,n))(hd:sH a n cs=some d):
  ∃v,(loadVar t ⟨b,off,none⟩).run P w= .ok v w/\R g.M g.bs d v:=by
 obtain⟨td,ti,h1,h2,h3,h4⟩:=lD ht;unfold sH at hd;cases a with
 | true =>
  simp only [aJ] at hd;split at hd
  .rename_i hn;simp only [aP] at hd;obtain⟨xs,e1,e2,e3⟩:=CV.list (cs:=cs.take n) (w:=w) (g:=g) (b:=b) (off:=off) (fun i d hi=>hc i d (by rw [dX] at hi;split at hi <;> simp_all));have hlen:xs.length=n:=by rw [e1,bB];omega
   refine⟨.agg xs.toArray,?_,?_⟩
   .have hl:=run_loadCells_list (P:=P) w ⟨b,off,none⟩ xs (fun j v hj=>by rw [Addr.add_none];exact(e2 j v hj).1);rw [hlen] at hl;simp [loadVar,kT h1,h3,bH h2,h4,hl]
   rw [<- hd];exact .agg _ _ (by simpa using e1) (fun i d x a1 a2=>e3 i d x a1 (by simpa using a2)) (fun i x a1=>(e2 i x (by simpa using a1)).2)
  cases hd
 | false =>
  simp only [fL,aZ] at hd;cases cs with
  | nil=>simp at hd
  | cons c cs=>
   simp at hd;subst hd;obtain⟨x,a1,a2,a3⟩:=hc 0 c rfl;refine⟨x,?_,a2⟩;simp only [loadVar,Sem.run_bind,kT h1,h3,Result.andThen_ok,fL,aZ];exact sA a1
theorem aI2 {st:St} {val:Nat->Value} (h:Ok w g st val) {cs:List D} (hr:R g.M g.bs (.adr cs) (.pointer (some ⟨b,off,none⟩))):CV w g b off cs:=by
 intro i d hi;cases hr with
 | adr cs b off vs hl hr hx=>
  have hlt:i<vs.length:=by rw [hl];exact(aH.1 hi).1
  have hv:vs[i]?=some vs[i]:=aN hlt;exact⟨vs[i],h.mem _ _ _ (hx i _ hv).2,hr i d _ hi hv,(hx i _ hv).1⟩
theorem xN {hd:Holder} {cs:List D} (h:BoxOk w g hd b cs)(off:Nat):CV w g b off (cs.drop off):=by
 rcases h with rfl | ⟨cur,E,h1,h2,h3,h4,h5⟩
 .intro i d hi;simp at hi
 intro i d hi;rw [jG] at hi;have hlt:off+i<cur.size:=by rw [h2];exact(aH.1 hi).1
 have hv:cur[off+i]?=some cur[off+i]:=aV hlt;obtain⟨a1,a2,a3⟩:=h5 _ d _ hi hv;exact⟨_,by rw [cell_of_row w b (off+i) cur E (0,0) h1];exact hv,a1,a3⟩
def St.cellsAt(st:St):Slot->Option (List D)
 | .lref n off=>(st.loc[n]?).map (·.drop off)
 | .d (.adr cs)=>some cs
 | .d (.ref n off)=>(st.obj[n]?).map (·.drop off)
 | _=>none
theorem Ok.cellsAt {st:St} (h:Ok w g st (bQ tmps)) {x:Operand} {cs:List D} (hc:st.cellsAt (st.rdS x)=some cs):∃b off,ev tmps x= .pointer (some ⟨b,off,none⟩)/\CV w g b off cs:=by
 cases hs:st.rdS x with
 | lref n off=>
  rw [hs] at hc;simp only [St.cellsAt,cU] at hc;obtain⟨ds,h1,rfl⟩:=hc;obtain⟨b,hb,hv⟩:=h.rdL hs;exact⟨b,off,hv,xN (h.loc n b ds hb h1) off⟩
 | d d =>
  have hr:=h.rd x;simp only [St.rd,hs] at hr;rw [hs] at hc;generalize ev tmps x=v at hr;cases hr <;> simp [St.cellsAt] at hc
  case adr cs' b off vs hl hx hy=>
   subst hc;exact⟨b,off,rfl,aI2 h (.adr _ b off vs hl hx hy)⟩
  case ref n off b hb=>
   obtain⟨ds,h1,rfl⟩:=hc;exact⟨b,off,rfl,xN (h.obj n b ds hb h1) off⟩
def gV(P:Program)(dst:Option Tmp)(t:TypeId)(x:Operand)(st:St)(K:St->Prop):Prop:=
 match fE P t,st.cellsAt (st.rdS x)with
 | some (a,n),some cs=>match sH a n cs with
  | some d=>K (st.put dst (.d d.s2))
  | none=>False
 | _,_=>False
theorem sR {d:D} {v:Value} (h:R g.M g.bs d v)(hp:∀cs,d≠ .tup cs):∀t,SlotOk w g t (.d d.s2) v:=
 fun _=>⟨h.s2,uX h hp⟩
theorem pH {cs:List D} {d:D} (hc:CV w g b off cs)(hd:sH a n cs=some d):∀ds,d≠ .tup ds:=by
 intro ds e;subst e;unfold sH at hd;split at hd
 .split at hd <;> simp at hd
 cases cs with
 | nil=>simp at hd
 | cons c cs=>
  simp at hd;subst hd;obtain⟨x,_,hr,h1⟩:=hc 0 _ rfl;exact(hr.one h1).2 _ rfl
theorem Vu {st:St} {K:St->Prop} (t:TypeId)(x:Operand)(hd:dD o st)(ho:o.op= .load t x)(h:gV P o.dst t x st K):Does P o st K:=by
 unfold gV at h;split at h
 .rename_i a n cs ht hcs;split at h
  .rename_i d hld;refine bL hd _ (fun w g tmps hok=>?_) h;obtain⟨b,off,hv,hcv⟩:=hok.cellsAt hcs;obtain⟨v,hrun,hr⟩:=sB (P:=P) hcv ht hld;refine⟨v,?_,sR hr (pH hcv hld)⟩;simp [execOp,ho,Instr.loadAt,hv,Instr.sureAddr,hrun]
  exact h.elim
 exact h.elim
def Slot.plus(k:Nat):Slot->Slot
 | .lref n off=> .lref n (off+k)
 | .d (.adr cs)=> .d (.adr (cs.drop k))
 | .d (.ref n off)=> .d (.ref n (off+k))
 | _=> .any
def Slot.isAddr:Slot->Bool
 | .lref _ _ | .d (.adr _) | .d (.ref _ _)=>true
 | _=>false
theorem Ok.plus {st:St} (h:Ok w g st (bQ tmps)) {x:Operand} (k:Nat)(hx:(st.rdS x).isAddr=true):
  ∃b off,ev tmps x= .pointer (some ⟨b,off,none⟩)/\∀t,SlotOk w g t ((st.rdS x).plus k) (.pointer (some ⟨b,off+k,none⟩)):=by
 cases hs:st.rdS x with
 | lref n off=>
  obtain⟨b,hb,hv⟩:=h.rdL hs;exact⟨b,off,hv,fun t=>⟨b,hb,rfl⟩⟩
 | d d =>
  have hr:=h.rd x;simp only [St.rd,hs] at hr;rw [hs] at hx;generalize ev tmps x=v at hr;cases hr <;> simp [Slot.isAddr] at hx
  case adr cs b off vs hl hr hy=>
   refine⟨b,off,rfl,fun t=>⟨?_,.flat _ _ _ rfl⟩⟩;refine .adr _ b (off+k) (vs.drop k) (by simp [hl]) (fun i d x h1 h2=>?_) (fun i x h1=>?_)
   .rw [jG] at h1 h2;exact hr _ d x h1 h2
   rw [jG] at h1;have:=hy _ x h1;rw [show off+k+i=off+(k+i) by omega];exact this
  case ref n off b hb=>exact⟨b,off,rfl,fun t=>⟨.ref n (off+k) b hb,.flat _ _ _ rfl⟩⟩
def jN(P:Program)(dst:Option Tmp)(s:TypeId)(x:Operand)(f:Nat)(st:St)(K:St->Prop):Prop:=
 match aW P s f with
 | some (off,_,_)=>(st.rdS x).isAddr=true/\K (st.put dst ((st.rdS x).plus off))
 | none=>False
theorem Fy {s:TypeId} {f:Nat} (h:aW P s f=some (off,a,n)):∃fs fd,P.underlying s=some (.struct fs)/\fs[f]?=some fd/\fE P fd.type=some (a,n)/\n≠0/\fd.offset=off:=by
 unfold aW at h;split at h
 .rename_i fs h1;split at h
  .rename_i fd h2;split at h
   .rename_i a' n' h3;split at h
    .cases h
    rename_i h4;simp only [aP,fK] at h;obtain⟨rfl,rfl,rfl⟩:=h;exact⟨fs,fd,h1,h2,h3,h4,rfl⟩
   cases h
  cases h
 cases h
theorem Bh {st:St} {K:St->Prop} (s:TypeId)(x:Operand)(f:Nat)(hd:dD o st)(ho:o.op= .fieldAddr s x f)(h:jN P o.dst s x f st K):Does P o st K:=by
 unfold jN at h;split at h
 .rename_i off a n hf;obtain⟨fs,fd,h1,h2,h3,h4,h5⟩:=Fy hf;obtain⟨td,ti,i1,i2,i3,i4⟩:=lD h3;refine bL hd _ (fun w g tmps hok=>?_) h.2;obtain⟨b,o',hv,hs⟩:=hok.plus off h.1;refine⟨_,?_,hs⟩;simp [execOp,ho,Instr.fieldAt,run_underlying h1,h2,hv,Instr.sureAddr,fieldPlace,bH i2,i4,h4,h5,Addr.add_none]
 exact h.elim
theorem Ke {M:Mem} {cs:List D} {d:D} (hl:vs.size=cs.length)
  (hr:∀(i:Nat) (d:D) (x:Value),cs[i]?=some d->vs[i]?=some x->R M bs d x) (h1:∀(i:Nat) (x:Value),vs[i]?=some x->x.oneCell'=true)
  (ht:fE P t=some (a,n)) (hd:sH a n (cs.drop off)=some d):∃v,(part t vs off).run P w= .ok v w/\R M bs d v:=by
 obtain⟨td,ti,i1,i2,i3,i4⟩:=lD ht;unfold sH at hd;cases a with
 | true =>
  simp only [aJ] at hd;split at hd
  .rename_i hn;simp only [aP] at hd;refine⟨.agg (vs.extract off (off+n)),?_,?_⟩
   .simp [part,kT i1,i3,bH i2,i4]
   rw [<- hd];rw [dI] at hn;refine .agg _ _ ?_ (fun i d x a1 a2=>?_) (fun i x a1=>?_)
   .simp;omega
   .rw [dX] at a1;split at a1
    .rw [jG] at a1;rw [qA] at a2;split at a2
     .exact hr _ d x a1 a2
     cases a2
    cases a1
   rw [qA] at a1;split at a1
   .exact h1 _ x a1
   cases a1
  cases hd
 | false=>
  simp only [fL,aZ,nS] at hd;have hlt:off<vs.size:=by rw [hl];exact(aH.1 hd).1
  have hv:vs[off]?=some vs[off]:=aV hlt;exact⟨vs[off],by simp [part,kT i1,i3,hlt],hr off d _ hd hv⟩
theorem zN {M:Mem} {cs:List D} {d:D} (hl:vs.size=cs.length)
  (hr:∀(i:Nat) (d:D) (x:Value),cs[i]?=some d->vs[i]?=some x->R M bs d x) (h1:∀(i:Nat) (x:Value),vs[i]?=some x->x.oneCell'=true) (hd:sH a n (cs.drop off)=some d):∀ds,d≠ .tup ds:=by
 intro ds e;subst e;unfold sH at hd;split at hd
 .split at hd <;> simp at hd
 rw [nS] at hd;have hlt:off<vs.size:=by rw [hl];exact(aH.1 hd).1
 have hv:vs[off]?=some vs[off]:=aV hlt;exact((hr off _ _ hd hv).one (h1 off _ hv)).2 _ rfl
def qY(P:Program)(dst:Option Tmp)(s:TypeId)(x:Operand)(f:Nat)(st:St)(K:St->Prop):Prop:=
 match aW P s f,st.rd x with
 | some (off,a,n),.agg cs=>match sH a n (cs.drop off)with
  | some d=>K (st.put dst (.d d.s2))
  | none=>False
 | _,_=>False
theorem Nz {st:St} {K:St->Prop} (s:TypeId)(x:Operand)(f:Nat)(hd:dD o st)(ho:o.op= .field s x f)(h:qY P o.dst s x f st K):Does P o st K:=by
 unfold qY at h;split at h
 .rename_i off a n cs hf hx;split at h
  .rename_i d hld;obtain⟨fs,fd,h1,h2,h3,h4,h5⟩:=Fy hf;obtain⟨td,ti,i1,i2,i3,i4⟩:=lD h3;refine bL hd _ (fun w g tmps hok=>?_) h;have hr:=hok.rd x;rw [hx] at hr;generalize hv:ev tmps x=v at hr;cases hr with
   | agg cs vs hl hr h1'=>
    obtain⟨y,hy,hry⟩:=Ke (P:=P) (w:=w) hl hr h1' h3 hld;refine⟨y,?_,sR hry (zN hl hr h1' hld)⟩;subst h5;simp [execOp,ho,Instr.field,run_underlying h1,h2,hv,asAgg,hy]
  exact h.elim
 exact h.elim
end
section
variable {P:Program}
def D.solid:D->Bool
 | .any | .tup _ | .mit _ _ _ _=>false
 | _=>true
theorem iE {d:D} (h:d.solid=true):d≠ .any/\∀cs,d≠ .tup cs:=by
 cases d <;> simp_all [D.solid]
def jQ(P:Program)(dst:Option Tmp)(t:TypeId)(x i:Operand)(st:St)(K:St->Prop):Prop:=
 match st.rd i with
 | .v (.int _ n) =>
  match fA P t with
  | some (_,k,_,_)=>
   match st.rd x with
   | .sl _ es=>(0<=n/\n<es.length)/\(es.getD n.toNat .any).solid=true/\(es.getD n.toNat .any).ncells=k/\K (st.put dst (.d (.adr (es.getD n.toNat .any).cells)))
   | _=>False
  | none=>
   match aBi P t with
   | some (len,k)=>(st.rdS x).isAddr=true/\(0<=n/\n<len)/\K (st.put dst ((st.rdS x).plus (n.toNat * k)))
   | none=>False
 | _=>False
theorem Fb {k:Nat} (h:aBi P t=some (n,k)):∃e i,P.underlying t=some (.array n e)/\P.info? e=some i/\i.size=k:=by
 unfold aBi at h;split at h
 .rename_i n' e h1;split at h
  .rename_i i h2;simp only [aP,fK] at h;obtain⟨rfl,rfl⟩:=h;exact⟨e,i,h1,h2,rfl⟩
  cases h
 cases h
theorem Cz {st:St} {K:St->Prop} (t:TypeId)(x i:Operand)(hd:dD o st)(ho:o.op= .indexAddr t x i)(h:jQ P o.dst t x i st K):Does P o st K:=by
 unfold jQ at h;split at h
 .rename_i kk n hi;split at h
  .rename_i e k by_ z he;obtain⟨ti,zv,h1,h2,h3,h4,h5,h6,h7,h8⟩:=gW he;split at h
   .rename_i own es hx;obtain⟨⟨hn0,hn1⟩,hs,hk,hK⟩:=h;refine bL hd _ (fun w g tmps hok=>?_) hK;have hr:=hok.rd x;rw [hx] at hr;have hri:=hok.rd i;rw [hi] at hri;have hiv:=hri.int;generalize hv:ev tmps x=v at hr;have hlt:n.toNat<es.length:=by omega
    have hel:es[n.toNat]?=some (es.getD n.toNat .any):=by simp [List.getD,aN hlt]
    cases hr with
    | nil o=>simp at hlt
    | emp o a cap hm=>simp at hlt
    | sl o' es b off m cap k' vs hl hm hk' hc hmx hrr hss hxx=>
     have hvlt:n.toNat<vs.length:=by omega
     have hvv:vs[n.toNat]?=some vs[n.toNat]:=aN hvlt;have hkk:k'=k:=by rw [<- hk];exact(hss _ _ hel).symm
     subst hkk;refine⟨.pointer (some ⟨b,off+n.toNat * k',none⟩),?_,bC ?_ rfl⟩
     .have hc2:0<=n/\n<(m:Int):=⟨hn0,by omega⟩;simp [execOp,ho,Instr.indexAt,hv,hiv,asIntOf,run_underlying h1,bH h2,h5,hc2,Addr.add_none]
     have hre:=hrr _ _ _ hel hvv;have hsz:=(hxx _ _ hvv).1;refine .adr _ b _ vs[n.toNat].cells.toList ?_ (fun j d y a1 a2=>?_) (fun j y a1=>?_)
     .rw [bF,hsz,<- hk];cases (es.getD n.toNat D.any) <;> rfl
     .exact(hre.each (iE hs).1 (iE hs).2 j d y a1 (by simpa using a2)).1
     have:=(hxx _ _ hvv).2 j y (by simpa using a1);rw [show off+n.toNat * k'+j=off+(n.toNat * k'+j) by omega];exact this
   exact h.elim
  split at h
  .rename_i len k ha;obtain⟨e,ti,h1,h2,h3⟩:=Fb ha;obtain⟨hx,⟨hn0,hn1⟩,hK⟩:=h;refine bL hd _ (fun w g tmps hok=>?_) hK;have hri:=hok.rd i;rw [hi] at hri;have hiv:=hri.int;obtain⟨b,off,hv,hs⟩:=hok.plus (n.toNat * k) hx;refine⟨_,?_,hs⟩;have hc2:0<=n/\n<(len:Int):=⟨hn0,hn1⟩;simp [execOp,ho,Instr.indexAt,hv,hiv,asIntOf,run_underlying h1,bH h2,h3,Instr.sureAddr,hc2,Addr.add_none]
  exact h.elim
 exact h.elim
def qQ (P : Program) (dst : Option Tmp) (t : TypeId) (x i : Operand) (st : St) (K : St -> Prop) : Prop :=
 match st.rd x,st.rd i with
 | .v (.string s),.v (.int _ n)=>P.underlying t=some .string/\(0<=n/\n<s.size)/\K (st.put dst (.d (.v (.int .u8 ((s.data.toList.getD n.toNat 0).toNat:Nat)))))
 | .agg cs, .v (.int _ n) => match P.underlying t with
  | some (.array len e) => match fE P e with
   | some (a,m)=>match sH a m (cs.drop (n.toNat * m))with
    | some d=>(0<=n/\n<len)/\K (st.put dst (.d d.s2))
    | none=>False
   | none=>False
  | _=>False
 | _,_=>False
theorem Oa {st:St} {K:St->Prop} (t:TypeId)(x i:Operand)(hd:dD o st)(ho:o.op= .index t x i)(h:qQ P o.dst t x i st K):Does P o st K:=by
 unfold qQ at h;split at h
 .rename_i s kk n hx hi;obtain⟨ht,⟨hn0,hn1⟩,hK⟩:=h;refine bL hd _ (fun w g tmps hok=>?_) hK;have hr:=hok.rd x;rw [hx] at hr;have hxv:=hr.vEq;have hri:=hok.rd i;rw [hi] at hri;have hiv:=hri.int;refine⟨_,?_,bC (.v _ rfl) rfl⟩;have hlt:n.toNat<s.size:=by omega
  have hl2:n.toNat<s.data.size:=hlt;have e:s[n.toNat]?=some (s.data.toList.getD n.toNat 0):=by
   rw [getElem?_pos s n.toNat hlt];have e2:s.data.toList.getD n.toNat 0=s.data[n.toNat]:=by simp [List.getD,aV hl2]
   rw [e2];rfl
  simp [execOp,ho,Instr.index,hxv,hiv,asIntOf,run_underlying ht,hn0,e]
 .rename_i cs kk n hx hi;split at h
  .rename_i len e hu;split at h
   .rename_i a m hty;split at h
    .rename_i d hld;obtain⟨⟨hn0,hn1⟩,hK⟩:=h;obtain⟨td,ti,i1,i2,i3,i4⟩:=lD hty;refine bL hd _ (fun w g tmps hok=>?_) hK;have hr:=hok.rd x;rw [hx] at hr;have hri:=hok.rd i;rw [hi] at hri;have hiv:=hri.int;generalize hv:ev tmps x=v at hr;cases hr with
     | agg cs vs hl hr h1'=>
      obtain⟨y,hy,hry⟩:=Ke (P:=P) (w:=w) hl hr h1' hty hld;refine⟨y,?_,sR hry (zN hl hr h1' hld)⟩;simp [execOp,ho,Instr.index,hv,hiv,asIntOf,run_underlying hu,hn0,hn1,bH i2,i4,hy]
    exact h.elim
   exact h.elim
  exact h.elim
 exact h.elim
def eY(st:St)(d:Int):Option Operand->Option Int
 | none=>some d
 | some x=>match st.rd x with
  | .v (.int _ n)=>some n
  | _=>none
def qZ (P : Program) (dst : Option Tmp) (t : TypeId) (x : Operand) (lo hi mx : Option Operand) (st : St) (K : St -> Prop) : Prop :=
 match st.rd x with
 | .v (.string s)=>mx=none/\P.underlying t=some .string/\match eY st 0 lo,eY st s.size hi with
  | some l,some h=>(0<=l/\l<=h/\h<=s.size)/\K (st.put dst (.d (.str (s.extract l.toNat h.toNat))))
  | _,_=>False
 | .sl _ es => match fA P t with
  | some (_, k, _, _) => match mx with
   | none=>match eY st 0 lo,eY st es.length hi with
    | some l,some h=>(0<=l/\l<=h/\h<=es.length)/\(∀d∈es,d.ncells=k)/\K (st.put dst (.d (.sl false ((es.take h.toNat).drop l.toNat))))
    | _,_=>False
   | some m=>match eY st 0 lo,eY st 0 hi,eY st 0 (some m)with
    | some l,some h,some m=>(l=0/\h=0/\m=0)/\hi≠none/\K (st.put dst (.d (.sl true [])))
    | _,_,_=>False
  | none=>False
 | _=>False
theorem jZ {st:St} (hok:Ok w g st (bQ tmps)) {d n:Int} {x:Option Operand} (h:eY st d x=some n):(x=none/\n=d)\/∃y k,x=some y/\ev tmps y= .int k n:=by
 cases x with
 | none=>simp [eY] at h;exact .inl ⟨rfl,h.symm⟩
 | some y=>
  simp only [eY] at h;split at h
  .rename_i k m hy;simp at h;subst h;have hr:=hok.rd y;rw [hy] at hr;exact .inr ⟨y,k,rfl,hr.int⟩
  cases h
theorem dQ {k:IntKind} {i:Int} {y:Nat} {code:BoundsCode} (h:0<=i/\i<=y):(Instr.sliceBound (.int k i) y code).run P w= .ok i.toNat w:=by
 simp [Instr.sliceBound,asIntOf,h]
theorem gM {st:St} (hok:Ok w g st (bQ tmps)) {isSlice:Bool} {len cap:Nat} {lo hi:Option Operand} {l h:Int} (hcap:len<=cap)
  (h1:eY st 0 lo=some l) (h2:eY st len hi=some h) (hb:0<=l/\l<=h/\h<=len):
  (Instr.sliceBounds isSlice len cap (lo.map (ev tmps)) (hi.map (ev tmps)) none).run P w= .ok (l.toNat,h.toNat,cap) w:=by
 obtain⟨b1,b2,b3⟩:=hb;rcases jZ hok h1 with ⟨rfl,rfl⟩ | ⟨y,k,rfl,e1⟩ <;> rcases jZ hok h2 with ⟨rfl,rfl⟩ | ⟨z,k',rfl,e2⟩
 .simp [Instr.sliceBounds]
 .simp [Instr.sliceBounds,e2,dQ (P:=P) (w:=w) (k:=k') (i:=h) (y:=cap) (code:=if isSlice=true then .sliceAcap else .sliceAlen) (by omega)]
 .have:=dQ (P:=P) (w:=w) (k:=k) (i:=l) (y:=len) (code:= .sliceB) (by omega);simp [Instr.sliceBounds,e1,this]
 have a1:=dQ (P:=P) (w:=w) (k:=k') (i:=h) (y:=cap) (code:=if isSlice=true then .sliceAcap else .sliceAlen) (by omega);have a2:=dQ (P:=P) (w:=w) (k:=k) (i:=l) (y:=h.toNat) (code:= .sliceB) (by omega);simp [Instr.sliceBounds,e1,e2,a1,a2]
theorem Nf {st : St} {K : St -> Prop} (t : TypeId) (x : Operand) (lo hi mx : Option Operand) (hd : dD o st) (ho : o.op = .slice t x lo hi mx) (h : qZ P o.dst t x lo hi mx st K) : Does P o st K := by
 unfold qZ at h;split at h
 .rename_i s hx;obtain⟨rfl,ht,h⟩:=h;split at h
  .rename_i l hh e1 e2;obtain⟨hb,hK⟩:=h;refine bL hd _ (fun w g tmps hok=>?_) hK;have hr:=hok.rd x;rw [hx] at hr;have hxv:=hr.vEq;refine⟨_,?_,bC (.v _ rfl) rfl⟩;have:=gM (P:=P) (isSlice:=false) hok (bD s.size) e1 e2 hb;simp [execOp,ho,Instr.sliceAt,hxv,run_underlying ht,Instr.slice,this]
  exact h.elim
 .rename_i own es hx;split at h
  .rename_i e k by_ z he;obtain⟨ti,zv,h1,h2,h3,h4,h5,h6,h7,h8⟩:=gW he;split at h
   .split at h
    .rename_i l hh e1 e2;obtain⟨hb,hnc,hK⟩:=h;refine bL hd _ (fun w g tmps hok=>?_) hK;have hr:=hok.rd x;rw [hx] at hr;generalize hv:ev tmps x=v at hr;cases hr with
     | nil o=>
      have:=gM (P:=P) (isSlice:=true) hok (bD 0) e1 e2 hb;have hl0:l=0:=by have:=hb.2.2;have:=hb.2.1;have:=hb.1;simp at *;omega
      have hh0:hh=0:=by have:=hb.2.2;have:=hb.2.1;have:=hb.1;simp at *;omega
      subst hl0;subst hh0;refine⟨.slice none 0 0,?_,bC (by simpa using R.nil false) rfl⟩;simp at this;simp [execOp,ho,Instr.sliceAt,hv,run_underlying h1,Instr.slice,this,bH h2]
     | emp o a cap hm=>
      have:=gM (P:=P) (isSlice:=true) hok (cH cap) e1 e2 hb;have hl0:l=0:=by have:=hb.2.2;have:=hb.2.1;have:=hb.1;simp at *;omega
      have hh0:hh=0:=by have:=hb.2.2;have:=hb.2.1;have:=hb.1;simp at *;omega
      subst hl0;subst hh0;refine⟨.slice (some a) 0 cap,?_,bC (by simpa using R.emp false a cap hm) rfl⟩;simp at this;simp [execOp,ho,Instr.sliceAt,hv,run_underlying h1,Instr.slice,this,bH h2,Addr.add]
     | sl o' es b off m cap k' vs hl hm hk' hc hmx hrr hss hxx =>
      have e2':eY st m hi=some hh:=by rw [hm];exact e2
      have:=gM (P:=P) (isSlice:=true) hok hc e1 e2' (by omega);obtain⟨b1,b2,b3⟩:=hb;by_cases hml:cap=l.toNat
      .-- the piece is empty,and lies at the end
       have hh0:hh.toNat=l.toNat:=by omega
       subst hml;refine⟨.slice (some ⟨b,off,none⟩) (hh.toNat - l.toNat) (l.toNat - l.toNat),?_,bC ?_ rfl⟩
       .simp [execOp,ho,Instr.sliceAt,hv,run_underlying h1,Instr.slice,this,bH h2]
       have e0:(es.take hh.toNat).drop l.toNat= []:=by
        apply tE;rw [bB];omega
       rw [e0];refine .sl false [] b off _ _ k' [] rfl (by simp;omega) hk' (by omega) (by omega) (fun i d y a=>by simp at a) (fun i d a=>by simp at a) (fun i y a=>by simp at a)
      refine⟨.slice (some ⟨b,off+l.toNat * k,none⟩) (hh.toNat - l.toNat) (cap - l.toNat),?_,bC ?_ rfl⟩
      .simp [execOp,ho,Instr.sliceAt,hv,run_underlying h1,Instr.slice,this,bH h2,hml,h5,Addr.add_none]
      have hlen:((es.take hh.toNat).drop l.toNat).length=hh.toNat - l.toNat:=by rw [dI,bB];omega
      by_cases he0:hh.toNat=l.toNat
      .have e0:(es.take hh.toNat).drop l.toNat= []:=by
        apply tE;rw [bB];omega
       rw [e0];refine .sl false [] b _ _ _ k' [] rfl (by simp;omega) hk' (by omega) (by omega) (fun i d y a=>by simp at a) (fun i d a=>by simp at a) (fun i y a=>by simp at a)
      have hkk:k'=k:=by
       have h0:0<es.length:=by omega
       have hel:es[0]?=some es[0]:=aN h0;rw [<- hss 0 _ hel];exact hnc _ (cR h0)
      subst hkk;have get:∀ {α:Type} (xs:List α) (i:Nat) (y:α),((xs.take hh.toNat).drop l.toNat)[i]?=some y->xs[l.toNat+i]?=some y:=by
       intro α xs i y a;rw [jG,dX] at a;split at a
       .exact a
       cases a
      refine .sl false _ b _ _ _ k' ((vs.take hh.toNat).drop l.toNat) (by rw [hlen,dI,bB];omega) hlen.symm hk' (by omega) (by omega)
       (fun i d y a1 a2=>hrr _ d y (get _ _ _ a1) (get _ _ _ a2)) (fun i d a=>hss _ d (get _ _ _ a)) (fun i y a=>?_)
      have:=hxx _ _ (get _ _ _ a);refine⟨this.1,fun j c hj=>?_⟩;have h9:=this.2 j c hj;rw [show off+l.toNat * k'+(i * k'+j)=off+((l.toNat+i) * k'+j) by rw [cB];omega];exact h9
    exact h.elim
   rename_i m;split at h
   .rename_i l hh mm e1 e2 e3;obtain⟨⟨rfl,rfl,rfl⟩,hne,hK⟩:=h;refine bL hd _ (fun w g tmps hok=>?_) hK;have hr:=hok.rd x;rw [hx] at hr;generalize hv:ev tmps x=v at hr;obtain⟨y2,k2,rfl,ev2⟩:∃y k,hi=some y/\ev tmps y= .int k 0:=by
     rcases jZ hok e2 with ⟨rfl,_⟩ | h
     .exact absurd rfl hne
     exact h
    obtain⟨y3,k3,h3',ev3⟩:∃y k,some m=some y/\ev tmps y= .int k 0:=by
     rcases jZ hok e3 with ⟨h,_⟩ | h
     .cases h
     exact h
    cases h3';have b2:=dQ (P:=P) (w:=w) (k:=k2) (i:=0) (y:=0) (code:= .slice3B) (by omega);have b3:∀cap:Nat,(Instr.sliceBound (.int k3 0) cap .slice3Acap).run P w= .ok 0 w:=fun cap=>dQ (P:=P) (w:=w) (k:=k3) (i:=0) (y:=cap) (code:= .slice3Acap) (by omega);cases hr with
    | nil o=>
     refine⟨.slice none 0 0,?_,fun t=>⟨.nil true,.sl _ _ _ (.inl ⟨_,_,rfl⟩)⟩⟩;simp [execOp,ho,Instr.sliceAt,hv,run_underlying h1,Instr.slice,Instr.sliceBounds,ev2,ev3,b2,b3,bH h2];rcases jZ hok e1 with ⟨rfl,_⟩ | ⟨y,k,rfl,e⟩
     .simp
     have b1:=dQ (P:=P) (w:=w) (k:=k) (i:=0) (y:=0) (code:= .slice3C) (by omega);simp at b1;simp [b1,e]
    | emp o a cap hm=>
     refine⟨.slice (some a) 0 0,?_,fun t=>⟨.emp true a 0 (cH _),.sl _ _ _ (.inl ⟨_,_,rfl⟩)⟩⟩;simp [execOp,ho,Instr.sliceAt,hv,run_underlying h1,Instr.slice,Instr.sliceBounds,ev2,ev3,b2,b3,bH h2,Addr.add];rcases jZ hok e1 with ⟨rfl,_⟩ | ⟨y,k,rfl,e⟩
     .simp
     have b1:=dQ (P:=P) (w:=w) (k:=k) (i:=0) (y:=0) (code:= .slice3C) (by omega);simp at b1;simp [b1,e]
    | sl o' es b off n cap k' vs hl hm hk' hc hmx hrr hss hxx=>
     refine⟨.slice (some ⟨b,off,none⟩) 0 0,?_,fun t=>⟨.sl true [] b off _ _ k' [] rfl rfl hk' (bD _) (by simp) (fun i d y a=>by simp at a) (fun i d a=>by simp at a) (fun i y a=>by simp at a),.sl _ _ _ (.inl ⟨_,_,rfl⟩)⟩⟩;simp [execOp,ho,Instr.sliceAt,hv,run_underlying h1,Instr.slice,Instr.sliceBounds,ev2,ev3,b2,b3,bH h2];rcases jZ hok e1 with ⟨rfl,_⟩ | ⟨y,k,rfl,e⟩
     .simp
     have b1:=dQ (P:=P) (w:=w) (k:=k) (i:=0) (y:=0) (code:= .slice3C) (by omega);simp at b1;simp [b1,e]
   exact h.elim
  exact h.elim
 exact h.elim
end
end Go.Vm
