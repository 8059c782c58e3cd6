import Derived.Test.YtbdjepeabjangaaGreatVm4
set_option linter.all false
namespace Go.Vm
open Go
variable {a:Bool}{b n off:Nat}{bs:List Nat}{g:Gh}{o:Oper}{t:TypeId}{tmps vs:Array Value}{w:World}
def aOo:TypeDesc->Bool
 | .struct _ | .array _ _=>true
 | _=>false
def fI(P:Program)(t:TypeId):Option (Bool×Nat):=
 match P.underlying t,P.info? t with
 | some d,some i=>some (aOo d,i.size)
 | _,_=>none
def bD(P:Program)(s:TypeId)(f:Nat):Option (Nat×Bool×Nat):=
 match P.underlying s with
 | some (.struct fs) => match fs[f]? with
  | some fd=>match fI P fd.type with
   | some (a,n)=>if n=0 then none else some (fd.offset,a,n)
   | none=>none
  | none=>none
 | _=>none
def fH(P:Program)(t:TypeId):Option (TypeId×Nat×Nat×Array Value):=
 match P.underlying t with
 | some (.slice e) => match P.info? e with
  | some i=>match i.zero with
   | some z=>if z.cells.size=i.size/\0<i.size then some (e,i.size,i.bytes,z.cells)else none
   | none=>none
  | none=>none
 | _=>none
def aFg(P:Program)(t:TypeId):Option (Nat×Nat):=
 match P.underlying t with
 | some (.array n e)=>match P.info? e with
  | some i=>some (n,i.size)
  | none=>none
 | _=>none
section
variable {P:Program}
theorem mJ (h:fI P t=some (a,n)):∃d i,P.underlying t=some d/\P.info? t=some i/\aOo d=a/\i.size=n:=by
 unfold fI at h;split at h
 .rename_i d i h1 h2;simp only [aV,gC] at h;exact⟨d,i,h1,h2,h.1,h.2⟩
 cases h
theorem iG {e:TypeId} {k by_:Nat} {z:Array Value} (h:fH P t=some (e,k,by_,z)):∃i zv,P.underlying t=some (.slice e)/\P.info? e=some i/\i.zero=some zv/\zv.cells=z/\i.size=k/\i.bytes=by_/\z.size=k/\0<k:=by
 unfold fH at h;split at h
 .rename_i e' h1;split at h
  .rename_i i h2;split at h
   .rename_i zv h3;split at h
    .rename_i h4;simp only [aV,gC] at h;obtain⟨rfl,rfl,rfl,rfl⟩:=h;exact⟨i,zv,h1,h2,h3,rfl,rfl,rfl,h4.1,h4.2⟩
    cases h
   cases h
  cases h
 cases h
theorem lV {d:TypeDesc} (h:P.underlying t=some d)(w:World):(isAgg t).run P w= .ok (aOo d) w:=by
 unfold isAgg;simp only [Sem.run_bind,run_underlying h,Result.andThen_ok];cases d <;> rfl
theorem bQ {i:TypeInfo} (h:P.info? t=some i)(w:World):(sizeOf t).run P w= .ok i.size w:=by
 simp [sizeOf,typeInfo,h]
theorem Cq(w:World):(program).run P w= .ok P w:=rfl
theorem tM {x:Value} (h:w.cell? ⟨b,off,none⟩=some x):(load ⟨b,off,none⟩).run P w= .ok x w:=by
 rw [run_load,h]
def CV(w:World)(g:Gh)(b off:Nat)(cs:List D):Prop:=
 ∀(i:Nat) (d:D),cs[i]?=some d->∃x,w.cell? ⟨b,off+i,none⟩=some x/\R g.M g.bs d x/\x.oneCell'=true
def uH(a:Bool)(n:Nat)(cs:List D):Option D:=
 if a then(if n<=cs.length then some (.agg (cs.take n))else none)else cs.head?
theorem CV.list :∀ {cs:List D},CV w g b off cs->∃xs:List Value,xs.length=cs.length/\(∀(i:Nat) (x:Value),xs[i]?=some x->w.cell? ⟨b,off+i,none⟩=some x/\x.oneCell'=true)/\∀(i:Nat) (d:D) (x:Value),cs[i]?=some d->xs[i]?=some x->R g.M g.bs d x:=by
 intro cs h;induction cs generalizing off with
 | nil=>exact⟨[],rfl,fun i x h=>by simp at h,fun i d x h=>by simp at h⟩
 | cons c cs ih =>
  obtain⟨x,h1,h2,h3⟩:=h 0 c rfl;obtain⟨xs,h4,h5,h6⟩:=ih (off:=off+1) (fun i d hi=>by
   obtain⟨y,a1,a2,a3⟩:=h (i+1) d (by simpa using hi);exact⟨y,by rw [show off+1+i=off+(i+1) by omega];exact a1,a2,a3⟩)
  refine⟨x::xs,by simp [h4],fun i y hi=>?_,fun i d y hd hi=>?_⟩
  .match i with
   | 0=>simp at hi;subst hi;exact⟨h1,h3⟩
   | i+1=>rw [show off+(i+1)=off+1+i by omega];exact h5 i y (by simpa using hi)
  match i with
  | 0=>simp at hi hd;subst hi;subst hd;exact h2
  | i+1=>exact h6 i d y (by simpa using hd) (by simpa using hi)
theorem Addr.add_none(b off n:Nat):(⟨b,off,none⟩:Addr).add n=⟨b,off+n,none⟩:=by
 unfold Addr.add;split <;> simp_all
theorem tP {cs:List D} {d:D} (hc:CV w g b off cs)(ht:fI P t=some (a,n))(hd:uH a n cs=some d):
  ∃v,(loadVar t ⟨b,off,none⟩).run P w= .ok v w/\R g.M g.bs d v:=by
 obtain⟨td,ti,h1,h2,h3,h4⟩:=mJ ht;unfold uH at hd;cases a with
 | true =>
  simp only [aO] at hd;split at hd
  .rename_i hn;simp only [aV] at hd;obtain⟨xs,e1,e2,e3⟩:=CV.list (cs:=cs.take n) (w:=w) (g:=g) (b:=b) (off:=off) (fun i d hi=>hc i d (by rw [eJ] at hi;split at hi <;> simp_all));have hlen:xs.length=n:=by rw [e1,bF];omega
   refine⟨.agg xs.toArray,?_,?_⟩
   .have hl:=run_loadCells_list (P:=P) w ⟨b,off,none⟩ xs (fun j v hj=>by rw [Addr.add_none];exact(e2 j v hj).1);rw [hlen] at hl;simp [loadVar,lV h1,h3,bQ h2,h4,hl]
   rw [<- hd];exact .agg _ _ (by simpa using e1) (fun i d x a1 a2=>e3 i d x a1 (by simpa using a2)) (fun i x a1=>(e2 i x (by simpa using a1)).2)
  cases hd
 | false =>
  simp only [gD,bE] at hd;cases cs with
  | nil=>simp at hd
  | cons c cs=>
   simp at hd;subst hd;obtain⟨x,a1,a2,a3⟩:=hc 0 c rfl;refine⟨x,?_,a2⟩;simp only [loadVar,Sem.run_bind,lV h1,h3,Result.andThen_ok,gD,bE];exact tM a1
theorem aOu {st:St} {val:Nat->Value} (h:Ok w g st val) {cs:List D} (hr:R g.M g.bs (.adr cs) (.pointer (some ⟨b,off,none⟩))):CV w g b off cs:=by
 intro i d hi;cases hr with
 | adr cs b off vs hl hr hx=>
  have hlt:i<vs.length:=by rw [hl];exact(aJ.1 hi).1
  have hv:vs[i]?=some vs[i]:=aS hlt;exact⟨vs[i],h.mem _ _ _ (hx i _ hv).2,hr i d _ hi hv,(hx i _ hv).1⟩
theorem Ba {hd:Holder} {cs:List D} (h:BoxOk w g hd b cs)(off:Nat):CV w g b off (cs.drop off):=by
 rcases h with rfl | ⟨cur,E,h1,h2,h3,h4,h5⟩
 .intro i d hi;simp at hi
 intro i d hi;rw [kA] at hi;have hlt:off+i<cur.size:=by rw [h2];exact(aJ.1 hi).1
 have hv:cur[off+i]?=some cur[off+i]:=aZ hlt;obtain⟨a1,a2,a3⟩:=h5 _ d _ hi hv;exact⟨_,by rw [cell_of_row w b (off+i) cur E (0,0) h1];exact hv,a1,a3⟩
def St.cellsAt(st:St):Slot->Option (List D)
 | .lref n off=>(st.loc[n]?).map (·.drop off)
 | .d (.adr cs)=>some cs
 | .d (.ref n off)=>(st.obj[n]?).map (·.drop off)
 | _=>none
theorem Ok.cellsAt {st:St} (h:Ok w g st (cC tmps)) {x:Operand} {cs:List D} (hc:st.cellsAt (st.rdS x)=some cs):∃b off,ev tmps x= .pointer (some ⟨b,off,none⟩)/\CV w g b off cs:=by
 cases hs:st.rdS x with
 | lref n off=>
  rw [hs] at hc;simp only [St.cellsAt,dG] at hc;obtain⟨ds,h1,rfl⟩:=hc;obtain⟨b,hb,hv⟩:=h.rdL hs;exact⟨b,off,hv,Ba (h.loc n b ds hb h1) off⟩
 | d d =>
  have hr:=h.rd x;simp only [St.rd,hs] at hr;rw [hs] at hc;generalize ev tmps x=v at hr;cases hr <;> simp [St.cellsAt] at hc
  case adr cs' b off vs hl hx hy=>
   subst hc;exact⟨b,off,rfl,aOu h (.adr _ b off vs hl hx hy)⟩
  case ref n off b hb=>
   obtain⟨ds,h1,rfl⟩:=hc;exact⟨b,off,rfl,Ba (h.obj n b ds hb h1) off⟩
def iI(P:Program)(dst:Option Tmp)(t:TypeId)(x:Operand)(st:St)(K:St->Prop):Prop:=
 match fI P t,st.cellsAt (st.rdS x)with
 | some (a,n),some cs=>match uH a n cs with
  | some d=>K (st.put dst (.d d.s2))
  | none=>False
 | _,_=>False
theorem uO {d:D} {v:Value} (h:R g.M g.bs d v)(hp:∀cs,d≠ .tup cs):∀t,SlotOk w g t (.d d.s2) v:=
 fun _=>⟨h.s2,xQ h hp⟩
theorem rA {cs:List D} {d:D} (hc:CV w g b off cs)(hd:uH a n cs=some d):∀ds,d≠ .tup ds:=by
 intro ds e;subst e;unfold uH at hd;split at hd
 .split at hd <;> simp at hd
 cases cs with
 | nil=>simp at hd
 | cons c cs=>
  simp at hd;subst hd;obtain⟨x,_,hr,h1⟩:=hc 0 _ rfl;exact(hr.one h1).2 _ rfl
theorem Zt {st:St} {K:St->Prop} (t:TypeId)(x:Operand)(hd:dJ o st)(ho:o.op= .load t x)(h:iI P o.dst t x st K):Does P o st K:=by
 unfold iI at h;split at h
 .rename_i a n cs ht hcs;split at h
  .rename_i d hld;refine bV hd _ (fun w g tmps hok=>?_) h;obtain⟨b,off,hv,hcv⟩:=hok.cellsAt hcs;obtain⟨v,hrun,hr⟩:=tP (P:=P) hcv ht hld;refine⟨v,?_,uO hr (rA hcv hld)⟩;simp [execOp,ho,Instr.loadAt,hv,Instr.sureAddr,hrun]
  exact h.elim
 exact h.elim
def Slot.plus(k:Nat):Slot->Slot
 | .lref n off=> .lref n (off+k)
 | .d (.adr cs)=> .d (.adr (cs.drop k))
 | .d (.ref n off)=> .d (.ref n (off+k))
 | _=> .any
def Slot.isAddr:Slot->Bool
 | .lref _ _ | .d (.adr _) | .d (.ref _ _)=>true
 | _=>false
theorem Ok.plus {st:St} (h:Ok w g st (cC tmps)) {x:Operand} (k:Nat)(hx:(st.rdS x).isAddr=true):
  ∃b off,ev tmps x= .pointer (some ⟨b,off,none⟩)/\∀t,SlotOk w g t ((st.rdS x).plus k) (.pointer (some ⟨b,off+k,none⟩)):=by
 cases hs:st.rdS x with
 | lref n off=>
  obtain⟨b,hb,hv⟩:=h.rdL hs;exact⟨b,off,hv,fun t=>⟨b,hb,rfl⟩⟩
 | d d =>
  have hr:=h.rd x;simp only [St.rd,hs] at hr;rw [hs] at hx;generalize ev tmps x=v at hr;cases hr <;> simp [Slot.isAddr] at hx
  case adr cs b off vs hl hr hy=>
   refine⟨b,off,rfl,fun t=>⟨?_,.flat _ _ _ rfl⟩⟩;refine .adr _ b (off+k) (vs.drop k) (by simp [hl]) (fun i d x h1 h2=>?_) (fun i x h1=>?_)
   .rw [kA] at h1 h2;exact hr _ d x h1 h2
   rw [kA] at h1;have:=hy _ x h1;rw [show off+k+i=off+(k+i) by omega];exact this
  case ref n off b hb=>exact⟨b,off,rfl,fun t=>⟨.ref n (off+k) b hb,.flat _ _ _ rfl⟩⟩
def kS(P:Program)(dst:Option Tmp)(s:TypeId)(x:Operand)(f:Nat)(st:St)(K:St->Prop):Prop:=
 match bD P s f with
 | some (off,_,_)=>(st.rdS x).isAddr=true/\K (st.put dst ((st.rdS x).plus off))
 | none=>False
theorem Iv {s:TypeId} {f:Nat} (h:bD P s f=some (off,a,n)):∃fs fd,P.underlying s=some (.struct fs)/\fs[f]?=some fd/\fI P fd.type=some (a,n)/\n≠0/\fd.offset=off:=by
 unfold bD at h;split at h
 .rename_i fs h1;split at h
  .rename_i fd h2;split at h
   .rename_i a' n' h3;split at h
    .cases h
    rename_i h4;simp only [aV,gC] at h;obtain⟨rfl,rfl,rfl⟩:=h;exact⟨fs,fd,h1,h2,h3,h4,rfl⟩
   cases h
  cases h
 cases h
theorem Er {st:St} {K:St->Prop} (s:TypeId)(x:Operand)(f:Nat)(hd:dJ o st)(ho:o.op= .fieldAddr s x f)(h:kS P o.dst s x f st K):Does P o st K:=by
 unfold kS at h;split at h
 .rename_i off a n hf;obtain⟨fs,fd,h1,h2,h3,h4,h5⟩:=Iv hf;obtain⟨td,ti,i1,i2,i3,i4⟩:=mJ h3;refine bV hd _ (fun w g tmps hok=>?_) h.2;obtain⟨b,o',hv,hs⟩:=hok.plus off h.1;refine⟨_,?_,hs⟩;simp [execOp,ho,Instr.fieldAt,run_underlying h1,h2,hv,Instr.sureAddr,fieldPlace,bQ i2,i4,h4,h5,Addr.add_none]
 exact h.elim
theorem My {M:Mem} {cs:List D} {d:D} (hl:vs.size=cs.length)
  (hr:∀(i:Nat) (d:D) (x:Value),cs[i]?=some d->vs[i]?=some x->R M bs d x) (h1:∀(i:Nat) (x:Value),vs[i]?=some x->x.oneCell'=true)
  (ht:fI P t=some (a,n)) (hd:uH a n (cs.drop off)=some d):∃v,(part t vs off).run P w= .ok v w/\R M bs d v:=by
 obtain⟨td,ti,i1,i2,i3,i4⟩:=mJ ht;unfold uH at hd;cases a with
 | true =>
  simp only [aO] at hd;split at hd
  .rename_i hn;simp only [aV] at hd;refine⟨.agg (vs.extract off (off+n)),?_,?_⟩
   .simp [part,lV i1,i3,bQ i2,i4]
   rw [<- hd];rw [dO] at hn;refine .agg _ _ ?_ (fun i d x a1 a2=>?_) (fun i x a1=>?_)
   .simp;omega
   .rw [eJ] at a1;split at a1
    .rw [kA] at a1;rw [rT] at a2;split at a2
     .exact hr _ d x a1 a2
     cases a2
    cases a1
   rw [rT] at a1;split at a1
   .exact h1 _ x a1
   cases a1
  cases hd
 | false=>
  simp only [gD,bE,nB] at hd;have hlt:off<vs.size:=by rw [hl];exact(aJ.1 hd).1
  have hv:vs[off]?=some vs[off]:=aZ hlt;exact⟨vs[off],by simp [part,lV i1,i3,hlt],hr off d _ hd hv⟩
theorem Ci {M:Mem} {cs:List D} {d:D} (hl:vs.size=cs.length)
  (hr:∀(i:Nat) (d:D) (x:Value),cs[i]?=some d->vs[i]?=some x->R M bs d x) (h1:∀(i:Nat) (x:Value),vs[i]?=some x->x.oneCell'=true) (hd:uH a n (cs.drop off)=some d):∀ds,d≠ .tup ds:=by
 intro ds e;subst e;unfold uH at hd;split at hd
 .split at hd <;> simp at hd
 rw [nB] at hd;have hlt:off<vs.size:=by rw [hl];exact(aJ.1 hd).1
 have hv:vs[off]?=some vs[off]:=aZ hlt;exact((hr off _ _ hd hv).one (h1 off _ hv)).2 _ rfl
def sJ(P:Program)(dst:Option Tmp)(s:TypeId)(x:Operand)(f:Nat)(st:St)(K:St->Prop):Prop:=
 match bD P s f,st.rd x with
 | some (off,a,n),.agg cs=>match uH a n (cs.drop off)with
  | some d=>K (st.put dst (.d d.s2))
  | none=>False
 | _,_=>False
theorem Sr {st:St} {K:St->Prop} (s:TypeId)(x:Operand)(f:Nat)(hd:dJ o st)(ho:o.op= .field s x f)(h:sJ P o.dst s x f st K):Does P o st K:=by
 unfold sJ at h;split at h
 .rename_i off a n cs hf hx;split at h
  .rename_i d hld;obtain⟨fs,fd,h1,h2,h3,h4,h5⟩:=Iv hf;obtain⟨td,ti,i1,i2,i3,i4⟩:=mJ h3;refine bV hd _ (fun w g tmps hok=>?_) h;have hr:=hok.rd x;rw [hx] at hr;generalize hv:ev tmps x=v at hr;cases hr with
   | agg cs vs hl hr h1'=>
    obtain⟨y,hy,hry⟩:=My (P:=P) (w:=w) hl hr h1' h3 hld;refine⟨y,?_,uO hry (Ci hl hr h1' hld)⟩;subst h5;simp [execOp,ho,Instr.field,run_underlying h1,h2,hv,asAgg,hy]
  exact h.elim
 exact h.elim
end
section
variable {P:Program}
def D.solid:D->Bool
 | .any | .tup _ | .mit _ _ _ _=>false
 | _=>true
theorem iY {d:D} (h:d.solid=true):d≠ .any/\∀cs,d≠ .tup cs:=by
 cases d <;> simp_all [D.solid]
def kW(P:Program)(dst:Option Tmp)(t:TypeId)(x i:Operand)(st:St)(K:St->Prop):Prop:=
 match st.rd i with
 | .v (.int _ n) =>
  match fH P t with
  | some (_,k,_,_)=>
   match st.rd x with
   | .sl _ es=>(0<=n/\n<es.length)/\(es.getD n.toNat .any).solid=true/\(es.getD n.toNat .any).ncells=k/\K (st.put dst (.d (.adr (es.getD n.toNat .any).cells)))
   | _=>False
  | none=>
   match aFg P t with
   | some (len,k)=>(st.rdS x).isAddr=true/\(0<=n/\n<len)/\K (st.put dst ((st.rdS x).plus (n.toNat * k)))
   | none=>False
 | _=>False
theorem Hd {k:Nat} (h:aFg P t=some (n,k)):∃e i,P.underlying t=some (.array n e)/\P.info? e=some i/\i.size=k:=by
 unfold aFg at h;split at h
 .rename_i n' e h1;split at h
  .rename_i i h2;simp only [aV,gC] at h;obtain⟨rfl,rfl⟩:=h;exact⟨e,i,h1,h2,rfl⟩
  cases h
 cases h
theorem Fo {st:St} {K:St->Prop} (t:TypeId)(x i:Operand)(hd:dJ o st)(ho:o.op= .indexAddr t x i)(h:kW P o.dst t x i st K):Does P o st K:=by
 unfold kW at h;split at h
 .rename_i kk n hi;split at h
  .rename_i e k by_ z he;obtain⟨ti,zv,h1,h2,h3,h4,h5,h6,h7,h8⟩:=iG he;split at h
   .rename_i own es hx;obtain⟨⟨hn0,hn1⟩,hs,hk,hK⟩:=h;refine bV hd _ (fun w g tmps hok=>?_) hK;have hr:=hok.rd x;rw [hx] at hr;have hri:=hok.rd i;rw [hi] at hri;have hiv:=hri.int;generalize hv:ev tmps x=v at hr;have hlt:n.toNat<es.length:=by omega
    have hel:es[n.toNat]?=some (es.getD n.toNat .any):=by simp [List.getD,aS hlt]
    cases hr with
    | nil o=>simp at hlt
    | emp o a cap hm=>simp at hlt
    | sl o' es b off m cap k' vs hl hm hk' hc hmx hrr hss hxx=>
     have hvlt:n.toNat<vs.length:=by omega
     have hvv:vs[n.toNat]?=some vs[n.toNat]:=aS hvlt;have hkk:k'=k:=by rw [<- hk];exact(hss _ _ hel).symm
     subst hkk;refine⟨.pointer (some ⟨b,off+n.toNat * k',none⟩),?_,bI ?_ rfl⟩
     .have hc2:0<=n/\n<(m:Int):=⟨hn0,by omega⟩;simp [execOp,ho,Instr.indexAt,hv,hiv,asIntOf,run_underlying h1,bQ h2,h5,hc2,Addr.add_none]
     have hre:=hrr _ _ _ hel hvv;have hsz:=(hxx _ _ hvv).1;refine .adr _ b _ vs[n.toNat].cells.toList ?_ (fun j d y a1 a2=>?_) (fun j y a1=>?_)
     .rw [bP,hsz,<- hk];cases (es.getD n.toNat D.any) <;> rfl
     .exact(hre.each (iY hs).1 (iY hs).2 j d y a1 (by simpa using a2)).1
     have:=(hxx _ _ hvv).2 j y (by simpa using a1);rw [show off+n.toNat * k'+j=off+(n.toNat * k'+j) by omega];exact this
   exact h.elim
  split at h
  .rename_i len k ha;obtain⟨e,ti,h1,h2,h3⟩:=Hd ha;obtain⟨hx,⟨hn0,hn1⟩,hK⟩:=h;refine bV hd _ (fun w g tmps hok=>?_) hK;have hri:=hok.rd i;rw [hi] at hri;have hiv:=hri.int;obtain⟨b,off,hv,hs⟩:=hok.plus (n.toNat * k) hx;refine⟨_,?_,hs⟩;have hc2:0<=n/\n<(len:Int):=⟨hn0,hn1⟩;simp [execOp,ho,Instr.indexAt,hv,hiv,asIntOf,run_underlying h1,bQ h2,h3,Instr.sureAddr,hc2,Addr.add_none]
  exact h.elim
 exact h.elim
def sN (P : Program) (dst : Option Tmp) (t : TypeId) (x i : Operand) (st : St) (K : St -> Prop) : Prop :=
 match st.rd x,st.rd i with
 | .v (.string s),.v (.int _ n)=>P.underlying t=some .string/\(0<=n/\n<s.size)/\K (st.put dst (.d (.v (.int .u8 ((s.data.toList.getD n.toNat 0).toNat:Nat)))))
 | .agg cs, .v (.int _ n) => match P.underlying t with
  | some (.array len e) => match fI P e with
   | some (a,m)=>match uH a m (cs.drop (n.toNat * m))with
    | some d=>(0<=n/\n<len)/\K (st.put dst (.d d.s2))
    | none=>False
   | none=>False
  | _=>False
 | _,_=>False
theorem Rt {st:St} {K:St->Prop} (t:TypeId)(x i:Operand)(hd:dJ o st)(ho:o.op= .index t x i)(h:sN P o.dst t x i st K):Does P o st K:=by
 unfold sN at h;split at h
 .rename_i s kk n hx hi;obtain⟨ht,⟨hn0,hn1⟩,hK⟩:=h;refine bV hd _ (fun w g tmps hok=>?_) hK;have hr:=hok.rd x;rw [hx] at hr;have hxv:=hr.vEq;have hri:=hok.rd i;rw [hi] at hri;have hiv:=hri.int;refine⟨_,?_,bI (.v _ rfl) rfl⟩;have hlt:n.toNat<s.size:=by omega
  have hl2:n.toNat<s.data.size:=hlt;have e:s[n.toNat]?=some (s.data.toList.getD n.toNat 0):=by
   rw [getElem?_pos s n.toNat hlt];have e2:s.data.toList.getD n.toNat 0=s.data[n.toNat]:=by simp [List.getD,aZ hl2]
   rw [e2];rfl
  simp [execOp,ho,Instr.index,hxv,hiv,asIntOf,run_underlying ht,hn0,e]
 .rename_i cs kk n hx hi;split at h
  .rename_i len e hu;split at h
   .rename_i a m hty;split at h
    .rename_i d hld;obtain⟨⟨hn0,hn1⟩,hK⟩:=h;obtain⟨td,ti,i1,i2,i3,i4⟩:=mJ hty;refine bV hd _ (fun w g tmps hok=>?_) hK;have hr:=hok.rd x;rw [hx] at hr;have hri:=hok.rd i;rw [hi] at hri;have hiv:=hri.int;generalize hv:ev tmps x=v at hr;cases hr with
     | agg cs vs hl hr h1'=>
      obtain⟨y,hy,hry⟩:=My (P:=P) (w:=w) hl hr h1' hty hld;refine⟨y,?_,uO hry (Ci hl hr h1' hld)⟩;simp [execOp,ho,Instr.index,hv,hiv,asIntOf,run_underlying hu,hn0,hn1,bQ i2,i4,hy]
    exact h.elim
   exact h.elim
  exact h.elim
 exact h.elim
def fK(st:St)(d:Int):Option Operand->Option Int
 | none=>some d
 | some x=>match st.rd x with
  | .v (.int _ n)=>some n
  | _=>none
def sL (P : Program) (dst : Option Tmp) (t : TypeId) (x : Operand) (lo hi mx : Option Operand) (st : St) (K : St -> Prop) : Prop :=
 match st.rd x with
 | .v (.string s)=>mx=none/\P.underlying t=some .string/\match fK st 0 lo,fK st s.size hi with
  | some l,some h=>(0<=l/\l<=h/\h<=s.size)/\K (st.put dst (.d (.str (s.extract l.toNat h.toNat))))
  | _,_=>False
 | .sl _ es => match fH P t with
  | some (_, k, _, _) => match mx with
   | none=>match fK st 0 lo,fK st es.length hi with
    | some l,some h=>(0<=l/\l<=h/\h<=es.length)/\(∀d∈es,d.ncells=k)/\K (st.put dst (.d (.sl false ((es.take h.toNat).drop l.toNat))))
    | _,_=>False
   | some m=>match fK st 0 lo,fK st 0 hi,fK st 0 (some m)with
    | some l,some h,some m=>(l=0/\h=0/\m=0)/\hi≠none/\K (st.put dst (.d (.sl true [])))
    | _,_,_=>False
  | none=>False
 | _=>False
theorem kZ {st:St} (hok:Ok w g st (cC tmps)) {d n:Int} {x:Option Operand} (h:fK st d x=some n):(x=none/\n=d)\/∃y k,x=some y/\ev tmps y= .int k n:=by
 cases x with
 | none=>simp [fK] at h;exact .inl ⟨rfl,h.symm⟩
 | some y=>
  simp only [fK] at h;split at h
  .rename_i k m hy;simp at h;subst h;have hr:=hok.rd y;rw [hy] at hr;exact .inr ⟨y,k,rfl,hr.int⟩
  cases h
theorem eC {k:IntKind} {i:Int} {y:Nat} {code:BoundsCode} (h:0<=i/\i<=y):(Instr.sliceBound (.int k i) y code).run P w= .ok i.toNat w:=by
 simp [Instr.sliceBound,asIntOf,h]
theorem gX {st:St} (hok:Ok w g st (cC tmps)) {isSlice:Bool} {len cap:Nat} {lo hi:Option Operand} {l h:Int} (hcap:len<=cap)
  (h1:fK st 0 lo=some l) (h2:fK st len hi=some h) (hb:0<=l/\l<=h/\h<=len):
  (Instr.sliceBounds isSlice len cap (lo.map (ev tmps)) (hi.map (ev tmps)) none).run P w= .ok (l.toNat,h.toNat,cap) w:=by
 obtain⟨b1,b2,b3⟩:=hb;rcases kZ hok h1 with ⟨rfl,rfl⟩ | ⟨y,k,rfl,e1⟩ <;> rcases kZ hok h2 with ⟨rfl,rfl⟩ | ⟨z,k',rfl,e2⟩
 .simp [Instr.sliceBounds]
 .simp [Instr.sliceBounds,e2,eC (P:=P) (w:=w) (k:=k') (i:=h) (y:=cap) (code:=if isSlice=true then .sliceAcap else .sliceAlen) (by omega)]
 .have:=eC (P:=P) (w:=w) (k:=k) (i:=l) (y:=len) (code:= .sliceB) (by omega);simp [Instr.sliceBounds,e1,this]
 have a1:=eC (P:=P) (w:=w) (k:=k') (i:=h) (y:=cap) (code:=if isSlice=true then .sliceAcap else .sliceAlen) (by omega);have a2:=eC (P:=P) (w:=w) (k:=k) (i:=l) (y:=h.toNat) (code:= .sliceB) (by omega);simp [Instr.sliceBounds,e1,e2,a1,a2]
theorem Sw {st : St} {K : St -> Prop} (t : TypeId) (x : Operand) (lo hi mx : Option Operand) (hd : dJ o st) (ho : o.op = .slice t x lo hi mx) (h : sL P o.dst t x lo hi mx st K) : Does P o st K := by
 unfold sL at h;split at h
 .rename_i s hx;obtain⟨rfl,ht,h⟩:=h;split at h
  .rename_i l hh e1 e2;obtain⟨hb,hK⟩:=h;refine bV hd _ (fun w g tmps hok=>?_) hK;have hr:=hok.rd x;rw [hx] at hr;have hxv:=hr.vEq;refine⟨_,?_,bI (.v _ rfl) rfl⟩;have:=gX (P:=P) (isSlice:=false) hok (bG s.size) e1 e2 hb;simp [execOp,ho,Instr.sliceAt,hxv,run_underlying ht,Instr.slice,this]
  exact h.elim
 .rename_i own es hx;split at h
  .rename_i e k by_ z he;obtain⟨ti,zv,h1,h2,h3,h4,h5,h6,h7,h8⟩:=iG he;split at h
   .split at h
    .rename_i l hh e1 e2;obtain⟨hb,hnc,hK⟩:=h;refine bV hd _ (fun w g tmps hok=>?_) hK;have hr:=hok.rd x;rw [hx] at hr;generalize hv:ev tmps x=v at hr;cases hr with
     | nil o=>
      have:=gX (P:=P) (isSlice:=true) hok (bG 0) e1 e2 hb;have hl0:l=0:=by have:=hb.2.2;have:=hb.2.1;have:=hb.1;simp at *;omega
      have hh0:hh=0:=by have:=hb.2.2;have:=hb.2.1;have:=hb.1;simp at *;omega
      subst hl0;subst hh0;refine⟨.slice none 0 0,?_,bI (by simpa using R.nil false) rfl⟩;simp at this;simp [execOp,ho,Instr.sliceAt,hv,run_underlying h1,Instr.slice,this,bQ h2]
     | emp o a cap hm=>
      have:=gX (P:=P) (isSlice:=true) hok (cE cap) e1 e2 hb;have hl0:l=0:=by have:=hb.2.2;have:=hb.2.1;have:=hb.1;simp at *;omega
      have hh0:hh=0:=by have:=hb.2.2;have:=hb.2.1;have:=hb.1;simp at *;omega
      subst hl0;subst hh0;refine⟨.slice (some a) 0 cap,?_,bI (by simpa using R.emp false a cap hm) rfl⟩;simp at this;simp [execOp,ho,Instr.sliceAt,hv,run_underlying h1,Instr.slice,this,bQ h2,Addr.add]
     | sl o' es b off m cap k' vs hl hm hk' hc hmx hrr hss hxx =>
      have e2':fK st m hi=some hh:=by rw [hm];exact e2
      have:=gX (P:=P) (isSlice:=true) hok hc e1 e2' (by omega);obtain⟨b1,b2,b3⟩:=hb;by_cases hml:cap=l.toNat
      .-- the piece is empty,and lies at the end
       have hh0:hh.toNat=l.toNat:=by omega
       subst hml;refine⟨.slice (some ⟨b,off,none⟩) (hh.toNat - l.toNat) (l.toNat - l.toNat),?_,bI ?_ rfl⟩
       .simp [execOp,ho,Instr.sliceAt,hv,run_underlying h1,Instr.slice,this,bQ h2]
       have e0:(es.take hh.toNat).drop l.toNat= []:=by
        apply vE;rw [bF];omega
       rw [e0];refine .sl false [] b off _ _ k' [] rfl (by simp;omega) hk' (by omega) (by omega) (fun i d y a=>by simp at a) (fun i d a=>by simp at a) (fun i y a=>by simp at a)
      refine⟨.slice (some ⟨b,off+l.toNat * k,none⟩) (hh.toNat - l.toNat) (cap - l.toNat),?_,bI ?_ rfl⟩
      .simp [execOp,ho,Instr.sliceAt,hv,run_underlying h1,Instr.slice,this,bQ h2,hml,h5,Addr.add_none]
      have hlen:((es.take hh.toNat).drop l.toNat).length=hh.toNat - l.toNat:=by rw [dO,bF];omega
      by_cases he0:hh.toNat=l.toNat
      .have e0:(es.take hh.toNat).drop l.toNat= []:=by
        apply vE;rw [bF];omega
       rw [e0];refine .sl false [] b _ _ _ k' [] rfl (by simp;omega) hk' (by omega) (by omega) (fun i d y a=>by simp at a) (fun i d a=>by simp at a) (fun i y a=>by simp at a)
      have hkk:k'=k:=by
       have h0:0<es.length:=by omega
       have hel:es[0]?=some es[0]:=aS h0;rw [<- hss 0 _ hel];exact hnc _ (bS h0)
      subst hkk;have get:∀ {α:Type} (xs:List α) (i:Nat) (y:α),((xs.take hh.toNat).drop l.toNat)[i]?=some y->xs[l.toNat+i]?=some y:=by
       intro α xs i y a;rw [kA,eJ] at a;split at a
       .exact a
       cases a
      refine .sl false _ b _ _ _ k' ((vs.take hh.toNat).drop l.toNat) (by rw [hlen,dO,bF];omega) hlen.symm hk' (by omega) (by omega)
       (fun i d y a1 a2=>hrr _ d y (get _ _ _ a1) (get _ _ _ a2)) (fun i d a=>hss _ d (get _ _ _ a)) (fun i y a=>?_)
      have:=hxx _ _ (get _ _ _ a);refine⟨this.1,fun j c hj=>?_⟩;have h9:=this.2 j c hj;rw [show off+l.toNat * k'+(i * k'+j)=off+((l.toNat+i) * k'+j) by rw [cK];omega];exact h9
    exact h.elim
   rename_i m;split at h
   .rename_i l hh mm e1 e2 e3;obtain⟨⟨rfl,rfl,rfl⟩,hne,hK⟩:=h;refine bV hd _ (fun w g tmps hok=>?_) hK;have hr:=hok.rd x;rw [hx] at hr;generalize hv:ev tmps x=v at hr;obtain⟨y2,k2,rfl,ev2⟩:∃y k,hi=some y/\ev tmps y= .int k 0:=by
     rcases kZ hok e2 with ⟨rfl,_⟩ | h
     .exact absurd rfl hne
     exact h
    obtain⟨y3,k3,h3',ev3⟩:∃y k,some m=some y/\ev tmps y= .int k 0:=by
     rcases kZ hok e3 with ⟨h,_⟩ | h
     .cases h
     exact h
    cases h3';have b2:=eC (P:=P) (w:=w) (k:=k2) (i:=0) (y:=0) (code:= .slice3B) (by omega);have b3:∀cap:Nat,(Instr.sliceBound (.int k3 0) cap .slice3Acap).run P w= .ok 0 w:=fun cap=>eC (P:=P) (w:=w) (k:=k3) (i:=0) (y:=cap) (code:= .slice3Acap) (by omega);cases hr with
    | nil o=>
     refine⟨.slice none 0 0,?_,fun t=>⟨.nil true,.sl _ _ _ (.inl ⟨_,_,rfl⟩)⟩⟩;simp [execOp,ho,Instr.sliceAt,hv,run_underlying h1,Instr.slice,Instr.sliceBounds,ev2,ev3,b2,b3,bQ h2];rcases kZ hok e1 with ⟨rfl,_⟩ | ⟨y,k,rfl,e⟩
     .simp
     have b1:=eC (P:=P) (w:=w) (k:=k) (i:=0) (y:=0) (code:= .slice3C) (by omega);simp at b1;simp [b1,e]
    | emp o a cap hm=>
     refine⟨.slice (some a) 0 0,?_,fun t=>⟨.emp true a 0 (cE _),.sl _ _ _ (.inl ⟨_,_,rfl⟩)⟩⟩;simp [execOp,ho,Instr.sliceAt,hv,run_underlying h1,Instr.slice,Instr.sliceBounds,ev2,ev3,b2,b3,bQ h2,Addr.add];rcases kZ hok e1 with ⟨rfl,_⟩ | ⟨y,k,rfl,e⟩
     .simp
     have b1:=eC (P:=P) (w:=w) (k:=k) (i:=0) (y:=0) (code:= .slice3C) (by omega);simp at b1;simp [b1,e]
    | sl o' es b off n cap k' vs hl hm hk' hc hmx hrr hss hxx=>
     refine⟨.slice (some ⟨b,off,none⟩) 0 0,?_,fun t=>⟨.sl true [] b off _ _ k' [] rfl rfl hk' (bG _) (by simp) (fun i d y a=>by simp at a) (fun i d a=>by simp at a) (fun i y a=>by simp at a),.sl _ _ _ (.inl ⟨_,_,rfl⟩)⟩⟩;simp [execOp,ho,Instr.sliceAt,hv,run_underlying h1,Instr.slice,Instr.sliceBounds,ev2,ev3,b2,b3,bQ h2];rcases kZ hok e1 with ⟨rfl,_⟩ | ⟨y,k,rfl,e⟩
     .simp
     have b1:=eC (P:=P) (w:=w) (k:=k) (i:=0) (y:=0) (code:= .slice3C) (by omega);simp at b1;simp [b1,e]
   exact h.elim
  exact h.elim
 exact h.elim
end
end Go.Vm
