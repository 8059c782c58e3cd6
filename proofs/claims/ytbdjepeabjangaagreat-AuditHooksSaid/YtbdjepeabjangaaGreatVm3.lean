import Derived.Test.YtbdjepeabjangaaGreatVm1
set_option linter.all false
namespace Go.Vm
open Go
variable {P:Program}{args:List D}{b:Nat}{o:Oper}{p:List Nat}{val:Nat->Value}{w:World}
structure Gh where
 M:Mem
 X:Nat->Option jK
 bl:List Nat
 bs:List Nat
inductive Slot where
 | d (x:D)
 | lref (n off:Nat)
 deriving Inhabited
abbrev Slot.any:Slot:= .d .any
structure St where
 n:Nat
 env:Nat->Slot
 loc:List (List D)
 obj:List (List D)
def St.set(s:St)(t:Nat)(x:Slot):St:= { s with env:=fun u=>if u=t then x else s.env u }
def St.put(s:St)(dst:Option Tmp)(x:Slot):St:=match dst with | some t=>s.set t x | none=>s
def SlotOk(w:World)(g:Gh)(t:Nat):Slot->Value->Prop
 | .d x,v=>R g.M g.bs x v/\Own w g.M g.bs g.X (.slot t) [] x v
 | .lref n off,v=>∃b,g.bl[n]?=some b/\v= .pointer (some ⟨b,off,none⟩)
def BoxOk(w:World)(g:Gh)(h:Holder)(b:Nat)(cs:List D):Prop:=
 cs= []\/∃cur E,w.heap[b]?=some (.cells cur E (0,0))/\cur.size=cs.length/\g.X b=some (h, [])/\(∀o,g.M b o=none)/\
  ∀(i:Nat) (d:D) (x:Value),cs[i]?=some d->cur[i]?=some x->R g.M g.bs d x/\Own w g.M g.bs g.X h [i] d x/\x.oneCell'=true
structure Ok(w:World)(g:Gh)(st:St)(val:Nat->Value):Prop where
 mem:∀(b o:Nat) (c:Value),g.M b o=some c->w.cell? ⟨b,o,none⟩=some c
 xlt:∀(b:Nat) (t:jK),g.X b=some t->b<w.heap.size
 slot:∀t,SlotOk w g t (st.env t) (val t)
 ll:g.bl.length=st.loc.length
 loc:∀(n b:Nat) (cs:List D),g.bl[n]?=some b->st.loc[n]?=some cs->BoxOk w g (.loc n) b cs
 ol:g.bs.length=st.obj.length
 obj:∀(n b:Nat) (cs:List D),g.bs[n]?=some b->st.obj[n]?=some cs->BoxOk w g (.obj n) b cs
structure Fr(w:World)(g:Gh)(w':World)(g':Gh):Prop where
 os:w'.os=w.os
 tape:w'.tape=w.tape
 output:w'.output=w.output
 size:w.heap.size<=w'.heap.size
 keep:∀b,b<w.heap.size->g.X b=none->w'.heap[b]?=w.heap[b]?/\g'.X b=none/\∀o,g'.M b o=g.M b o
 mono:g.M.le g'.M
 bs:∀(n b:Nat),g.bs[n]?=some b->g'.bs[n]?=some b
theorem Fr.refl(w:World)(g:Gh):Fr w g w g:=⟨rfl,rfl,rfl,bD _,fun _ _ h=>⟨rfl,h,fun _=>rfl⟩,fun _ _ _ h=>h,fun _ _ h=>h⟩
theorem Fr.trans {w1 w2:World} {g g1 g2:Gh} (h:Fr w g w1 g1)(k:Fr w1 g1 w2 g2):Fr w g w2 g2:=
 ⟨k.os.trans h.os,k.tape.trans h.tape,k.output.trans h.output,dJ h.size k.size,
  fun b hb hx=>by
   obtain⟨a1,a2,a3⟩:=h.keep b hb hx;obtain⟨b1,b2,b3⟩:=k.keep b (lX hb h.size) a2;exact⟨b1.trans a1,b2,fun o=>(b3 o).trans (a3 o)⟩,
  fun b o c hc=>k.mono b o c (h.mono b o c hc),fun n b hb=>k.bs n b (h.bs n b hb)⟩
section
variable {w':World}{g g':Gh}
theorem SlotOk.keep {t:Nat} {s:Slot} {v:Value} (h:SlotOk w g t s v)(hM:g.M.le g'.M)(hbs:∀(n b:Nat),g.bs[n]?=some b->g'.bs[n]?=some b)(hbl:∀(n b:Nat),g.bl[n]?=some b->g'.bl[n]?=some b)
  (hk:∀(b:Nat) (q:List Nat),g.X b=some (.slot t,q)->w'.heap[b]?=w.heap[b]?/\(∀o,g.M b o=none->g'.M b o=none)/\g'.X b=some (.slot t,q)):SlotOk w' g' t s v:=by
 cases s with
 | d x=>exact⟨h.1.mono hM hbs,h.2.keep hM hbs hk⟩
 | lref n off=>obtain⟨b,hb,hv⟩:=h;exact⟨b,hbl n b hb,hv⟩
theorem BoxOk.keep {hd:Holder} {cs:List D} (h:BoxOk w g hd b cs)(hM:g.M.le g'.M)(hbs:∀(n b:Nat),g.bs[n]?=some b->g'.bs[n]?=some b)
  (hk:∀(b:Nat) (q:List Nat),g.X b=some (hd,q)->w'.heap[b]?=w.heap[b]?/\(∀o,g.M b o=none->g'.M b o=none)/\g'.X b=some (hd,q)):BoxOk w' g' hd b cs:=by
 rcases h with h | ⟨cur,E,h1,h2,h3,h4,h5⟩
 .exact .inl h
 obtain⟨k1,k2,k3⟩:=hk b [] h3;exact .inr ⟨cur,E,by rw [k1];exact h1,h2,k3,fun o=>k2 o (h4 o),fun i d x a1 a2=>⟨(h5 i d x a1 a2).1.mono hM hbs,(h5 i d x a1 a2).2.1.keep hM hbs hk,(h5 i d x a1 a2).2.2⟩⟩
theorem Ok.mlt {st:St} (h:Ok w g st val) {o:Nat} {c:Value} (hc:g.M b o=some c):b<w.heap.size:=
 World.block_lt_of_cell? w ⟨b,o,none⟩ (h.mem b o c hc)
theorem Ok.newM {st:St} (h:Ok w g st val)(o:Nat):g.M w.heap.size o=none:=by
 cases hc:g.M w.heap.size o with
 | none=>rfl
 | some c=>exact absurd (h.mlt hc) (xW _)
theorem Ok.set {st:St} (h:Ok w g st val)(t:Nat)(s:Slot)(v:Value)(hs:SlotOk w g t s v):Ok w g (st.set t s) (fun u=>if u=t then v else val u):=by
 refine⟨h.mem,h.xlt,fun u=>?_,h.ll,h.loc,h.ol,h.obj⟩;simp only [St.set];by_cases hu:u=t
 .subst hu;simpa using hs
 simpa [hu] using h.slot u
theorem Ok.drew {st:St} (h:Ok w g st val):Ok w.drew g st val:=
 ⟨h.mem,h.xlt,fun t=>(h.slot t).keep (fun _ _ _ h=>h) (fun _ _ h=>h) (fun _ _ h=>h) fun b q hx=>⟨rfl,fun _ h=>h,hx⟩,h.ll,
  fun n b cs h1 h2=>(h.loc n b cs h1 h2).keep (fun _ _ _ h=>h) (fun _ _ h=>h) fun b q hx=>⟨rfl,fun _ h=>h,hx⟩,h.ol,
  fun n b cs h1 h2=>(h.obj n b cs h1 h2).keep (fun _ _ _ h=>h) (fun _ _ h=>h) fun b q hx=>⟨rfl,fun _ h=>h,hx⟩⟩
theorem Fr.drew(w:World)(g:Gh):Fr w g w.drew g:=⟨rfl,rfl,rfl,bD _,fun _ _ h=>⟨rfl,h,fun _=>rfl⟩,fun _ _ _ h=>h,fun _ _ h=>h⟩
def fG(f:jK->jK)(X:Nat->Option jK):Nat->Option jK:=fun b=>(X b).map f
def iF(h:Holder)(p:List Nat)(h':Holder)(p':List Nat):jK->jK:=fun t=>
 if t.1=h/\t.2.take p.length=p then(h',p'++t.2.drop p.length)else t
theorem mD {h:Holder} {h':Holder} {p':List Nat} {t:jK} (ht:t.1≠h):iF h p h' p' t=t:=by simp [iF,ht]
theorem Ok.take {st:St} (h:Ok w g st val)(s t:Nat)(hst:s≠t)(x:D)(hx:st.env s= .d x)(hnt:∀cs,x≠ .tup cs):
  Ok w { g with X:=fG (iF (.slot s) [] (.slot t) []) g.X } ((st.set s (.d x.s2)).set t (.d x)) (fun u=>if u=t then val s else val u):=by
 have hs:=h.slot s;rw [hx] at hs;have other:∀(hd:Holder),hd≠ .slot s->∀(b:Nat) (q:List Nat),g.X b=some (hd,q)->w.heap[b]?=w.heap[b]?/\(∀o,g.M b o=none->g.M b o=none)/\fG (iF (.slot s) [] (.slot t) []) g.X b=some (hd,q):=by
  intro hd hne b q hb;exact⟨rfl,fun _ h=>h,by simp [fG,hb,mD (t:=(hd,q)) hne]⟩
 refine⟨h.mem,fun b tg hb=>?_,fun u=>?_,h.ll,fun n b cs h1 h2=>(h.loc n b cs h1 h2).keep (fun _ _ _ h=>h) (fun _ _ h=>h) (other _ (by simp)),h.ol,
  fun n b cs h1 h2=>(h.obj n b cs h1 h2).keep (fun _ _ _ h=>h) (fun _ _ h=>h) (other _ (by simp))⟩
 .simp only [fG,cU] at hb;obtain⟨tg',hb,_⟩:=hb;exact h.xlt b tg' hb
 simp only [St.set];by_cases hu:u=t
 .subst hu;simp only [aJ];refine⟨hs.1,hs.2.move (fun _ _ _ h=>h) (fun _ _ h=>h) [] fun b q hb=>⟨rfl,fun _ h=>h,?_⟩⟩;simp only [aK] at hb |-;simp [fG,hb,iF]
 simp only [hu,aZ];by_cases hus:u=s
 .subst hus;simp only [aJ];exact⟨hs.1.s2,uX hs.1 hnt⟩
 simp only [hus,aZ];exact(h.slot u).keep (fun _ _ _ h=>h) (fun _ _ h=>h) (fun _ _ h=>h) (other _ (by simp [hus]))
theorem Fr.ren(w:World)(g:Gh)(f:jK->jK):Fr w g w { g with X:=fG f g.X } :=
 ⟨rfl,rfl,rfl,bD _,fun b _ h=>⟨rfl,by simp [fG,h],fun _=>rfl⟩,fun _ _ _ h=>h,fun _ _ h=>h⟩
def Mem.add(M:Mem)(b:Nat)(cs:Array Value):Mem:=fun b' o=>if b'=b then cs[o]? else M b' o
theorem kK(w:World)(o:Obj) (h:b<w.heap.size):(w.alloc o).heap[b]?=w.heap[b]?:=by
 show(w.heap.push o)[b]?=_
 rw [Array.getElem?_push,aG (by omega)]
theorem oH(w:World)(o:Obj):(w.alloc o).heap[w.heap.size]?=some o:=by
 show(w.heap.push o)[w.heap.size]?=_
 simp
theorem Ok.known {st:St} (h:Ok w g st val)(cs kn:Array Value)(E:TypeId)(tg:Option jK)(hkn:∀(o:Nat) (c:Value),kn[o]?=some c->cs[o]?=some c):
  Ok (w.alloc (.cells cs E)) { g with M:=g.M.add w.heap.size kn,X:=fun b=>if b=w.heap.size then tg else g.X b } st val/\
   Fr w g (w.alloc (.cells cs E)) { g with M:=g.M.add w.heap.size kn,X:=fun b=>if b=w.heap.size then tg else g.X b } :=by
 have hM:g.M.le (g.M.add w.heap.size kn):=fun b o c hc=>by
  have:=h.mlt hc;simp only [Mem.add,aG (show ¬b=w.heap.size by omega)];exact hc
 have hk:∀(hd:Holder) (b:Nat) (q:List Nat),g.X b=some (hd,q)->(w.alloc (.cells cs E)).heap[b]?=w.heap[b]?/\(∀o,g.M b o=none->g.M.add w.heap.size kn b o=none)/\(if b=w.heap.size then tg else g.X b)=some (hd,q):=by
  intro hd b q hb;have:=h.xlt b _ hb;exact⟨kK w _ this,fun o ho=>by simp only [Mem.add,aG (show ¬b=w.heap.size by omega)];exact ho,by rw [aG (by omega)];exact hb⟩
 refine⟨⟨fun b o c hc=>?_,fun b t hb=>?_,fun t=>(h.slot t).keep hM (fun _ _ h=>h) (fun _ _ h=>h) (hk _),h.ll,fun n b ds h1 h2=>(h.loc n b ds h1 h2).keep hM (fun _ _ h=>h) (hk _),h.ol,
  fun n b ds h1 h2=>(h.obj n b ds h1 h2).keep hM (fun _ _ h=>h) (hk _)⟩,⟨rfl,rfl,rfl,by simp,fun b hb hx=>⟨kK w _ hb,?_,fun o=>?_⟩,hM,fun _ _ h=>h⟩⟩
 .simp only [Mem.add] at hc;split at hc
  .rename_i hb;subst hb;simpa using hkn o c hc
  have:=h.mlt hc;rw [World.cell?_alloc_lt w _ ⟨b,o,none⟩ this];exact h.mem b o c hc
 .simp only at hb;simp only [World.size_alloc];split at hb
  .omega
  have:=h.xlt b t hb;omega
 .simp only [aG (show ¬b=w.heap.size by omega)];exact hx
 simp only [Mem.add,aG (show ¬b=w.heap.size by omega)]
theorem Ok.forget {st:St} (h:Ok w g st val)(t:Nat):Ok w g (st.set t .any) val:=by
 have:=h.set t .any (val t) ⟨.any _,.flat _ _ _ rfl⟩;have e:(fun u=>if u=t then val t else val u)=val:=by funext u;split <;> simp_all
 rwa [e] at this
theorem Ok.extend {st:St} (h:Ok w g st val)(t b s0:Nat)(cur cur':Array Value)(E:TypeId)(kn:Nat->Option Value)(hX:g.X b=some (.slot t, []))(ht:st.env t= .any)
  (hh:w.heap[b]?=some (.cells cur E (0,0))) (hM:∀o,s0<=o->g.M b o=none) (hc:∀o,o<s0->cur'[o]?=cur[o]?) (hkn:∀(o:Nat) (c:Value),kn o=some c->s0<=o/\cur'[o]?=some c):
  Ok (w.setRow b cur') { g with M:=fun b' o=>if b'=b then(if o<s0 then g.M b o else kn o)else g.M b' o } st val/\
   Fr w g (w.setRow b cur') { g with M:=fun b' o=>if b'=b then(if o<s0 then g.M b o else kn o)else g.M b' o } :=by
 have hle:g.M.le (fun b' o=>if b'=b then(if o<s0 then g.M b o else kn o)else g.M b' o):=by
  intro b' o c hc';by_cases e:b'=b
  .subst e;by_cases ho:o<s0
   .simpa [ho] using hc'
   rw [hM o (by omega)] at hc';cases hc'
  simpa [e] using hc'
 have hk:∀(hd:Holder),hd≠ .slot t->∀(b':Nat) (q:List Nat),g.X b'=some (hd,q)->(w.setRow b cur').heap[b']?=w.heap[b']?/\(∀o,g.M b' o=none->(if b'=b then(if o<s0 then g.M b o else kn o)else g.M b' o)=none)/\g.X b'=some (hd,q):=by
  intro hd hne b' q hx;have:b'≠b:=by
   intro e;subst e;rw [hX] at hx;simp only [aP,fK] at hx;exact hne hx.1.symm
  exact⟨setRow_other w b b' cur' this,fun o ho=>by rw [aG this];exact ho,hx⟩
 refine⟨⟨fun b' o c hc'=>?_,fun b' tg hx=>by rw [size_setRow];exact h.xlt b' tg hx,fun u=>?_,h.ll,fun n b ds h1 h2=>(h.loc n b ds h1 h2).keep hle (fun _ _ h=>h) (hk _ (by simp)),h.ol,
  fun n b ds h1 h2=>(h.obj n b ds h1 h2).keep hle (fun _ _ h=>h) (hk _ (by simp))⟩,⟨rfl,rfl,rfl,by simp,fun b' hb' hx=>?_,hle,fun _ _ h=>h⟩⟩
 .simp only at hc';by_cases e:b'=b
  .subst e;simp only [aJ] at hc';rw [cell_of_row _ b' o cur' E (0,0) (setRow_heap w b' cur cur' E (0,0) hh)];split at hc'
   .rename_i ho;rw [hc o ho];have:=h.mem b' o c hc'
    rwa [cell_of_row _ b' o cur E (0,0) hh] at this
   exact(hkn o c hc').2
  simp only [aG e] at hc';rw [World.cell?_of_block (w:=w) (a:=⟨b',o,none⟩) (setRow_other w b b' cur' e)];exact h.mem b' o c hc'
 .by_cases e:u=t
  .subst e;rw [ht];exact⟨.any _,.flat _ _ _ rfl⟩
  exact(h.slot u).keep hle (fun _ _ h=>h) (fun _ _ h=>h) (hk _ (by simp [e]))
 have:b'≠b:=by intro e;subst e;rw [hX] at hx;cases hx
 exact⟨setRow_other w b b' cur' this,hx,fun o=>by simp only [aG this]⟩
theorem Ok.box {st:St} (h:Ok w g st val)(cs:List D)(cur:Array Value)(E:TypeId)(hl:cur.size=cs.length)
  (hr:∀(i:Nat) (d:D) (x:Value),cs[i]?=some d->cur[i]?=some x->R g.M g.bs d x/\Own w g.M g.bs g.X (.loc st.loc.length) [i] d x/\x.oneCell'=true):
  Ok (w.alloc (.cells cur E)) { g with X:=(fun b=>if b=w.heap.size then some (.loc st.loc.length, [])else g.X b),bl:=g.bl++ [w.heap.size] } { st with loc:=st.loc++ [cs] } val/\
   Fr w g (w.alloc (.cells cur E)) { g with X:=(fun b=>if b=w.heap.size then some (.loc st.loc.length, [])else g.X b),bl:=g.bl++ [w.heap.size] } :=by
 have hk:∀(hd:Holder) (b:Nat) (q:List Nat),g.X b=some (hd,q)->(w.alloc (.cells cur E)).heap[b]?=w.heap[b]?/\(∀o,g.M b o=none->g.M b o=none)/\(if b=w.heap.size then some (.loc st.loc.length, [])else g.X b)=some (hd,q):=by
  intro hd b q hb;have:=h.xlt b _ hb;exact⟨kK w _ this,fun o ho=>ho,by rw [aG (by omega)];exact hb⟩
 have hbl:∀(n b:Nat),g.bl[n]?=some b->(g.bl++ [w.heap.size])[n]?=some b:=fun n b hb=>by
  rw [aU (by exact(aH.1 hb).1)];exact hb
 refine⟨⟨fun b o c hc=>?_,fun b t hb=>?_,fun t=>(h.slot t).keep (fun _ _ _ h=>h) (fun _ _ h=>h) hbl (hk _),by simp [h.ll],fun n b ds h1 h2=>?_,h.ol,
  fun n b ds h1 h2=>(h.obj n b ds h1 h2).keep (fun _ _ _ h=>h) (fun _ _ h=>h) (hk _)⟩,⟨rfl,rfl,rfl,by simp,fun b hb hx=>⟨kK w _ hb,?_,fun o=>rfl⟩,fun _ _ _ h=>h,fun _ _ h=>h⟩⟩
 .have:=h.mlt hc;rw [World.cell?_alloc_lt w _ ⟨b,o,none⟩ this];exact h.mem b o c hc
 .simp only at hb;simp only [World.size_alloc];split at hb
  .omega
  have:=h.xlt b t hb;omega
 .by_cases hn:n<st.loc.length
  .have h1':g.bl[n]?=some b:=by rw [aU (by rw [h.ll];exact hn)] at h1;exact h1
   have h2':st.loc[n]?=some ds:=by rw [aU hn] at h2;exact h2
   exact(h.loc n b ds h1' h2').keep (fun _ _ _ h=>h) (fun _ _ h=>h) (hk _)
  have hlt:=(aH.1 h2).1;simp at hlt;have hn':n=st.loc.length:=by omega
  subst hn';have e1:b=w.heap.size:=by
   have h1':=h1;rw [<- h.ll] at h1';simpa using h1'.symm
  have e2:ds=cs:=by simpa using h2.symm
  subst e1;subst e2;exact .inr ⟨cur,E,oH w _,hl,by simp,fun o=>h.newM o,fun i d x a1 a2=>⟨(hr i d x a1 a2).1,(hr i d x a1 a2).2.1.keep (fun _ _ _ h=>h) (fun _ _ h=>h) (hk _),(hr i d x a1 a2).2.2⟩⟩
 simp only [aG (show ¬b=w.heap.size by omega)];exact hx
end
def bQ(tmps:Array Value):Nat->Value:=fun t=>tmps.getD t undef
theorem Zw(tmps:Array Value)(d:Nat)(v:Value)(h:d<tmps.size):bQ (tmps.setIfInBounds d v)=fun u=>if u=d then v else bQ tmps u:=by
 funext u;simp only [bQ,gJ,uA];by_cases hu:d=u
 .subst hu;simp [h]
 have:¬u=d:=fun e=>hu e.symm;simp [hu,this]
def eP(l:List D):Nat->Slot:=fun t=>match l[t]? with | some d=> .d d | none=> .any
def St.ofArgs(args:List D)(σ:List (List D)):St:= { n:=args.length,env:=eP args,loc:= [],obj:=σ }
def St.ofRes(r:D)(σ:List (List D)):St:= { n:=1,env:=eP [r],loc:= [],obj:=σ }
def vO (P : Program) (f : FuncId) : Bool := match P.funcs[f]? with | some fn => fn.name != "runtime.NumGoroutine" && fn.body.isSome | none => false
def Ct(P:Program)(f:FuncId)(args:List D)(σ:List (List D))(Q:D->List (List D)->Prop):Prop:=
 vO P f=true/\∀(w:World) (g:Gh) (vs:Array Value),vs.size=args.length->g.bl= []->Ok w g (St.ofArgs args σ) (bQ vs)->
  Calls P f vs w fun e w'=>∃r σ' x g',e= .returned x/\Q r σ'/\g'.bl= []/\Fr w g w' g'/\Ok w' g' (St.ofRes r σ') (fun t=>if t=0 then x else undef)
theorem Ct.mono {f:FuncId} {σ:List (List D)} {Q Q':D->List (List D)->Prop} (h:Ct P f args σ Q)(hq:∀r σ',Q r σ'->Q' r σ'):Ct P f args σ Q':=
 ⟨h.1,fun w g vs hs hb ho=>(h.2 w g vs hs hb ho).mono fun _ _ ⟨r,σ',x,g',he,hQ,hb',hf,hk⟩=>⟨r,σ',x,g',he,hq r σ' hQ,hb',hf,hk⟩⟩
def Does(P:Program)(o:Oper)(st:St)(K:St->Prop):Prop:=
 ∀(w:World) (g:Gh) (tmps:Array Value),Ok w g st (bQ tmps)->tmps.size=st.n->
  o.wp P ⟨tmps, []⟩ w (fun a w'=>a.defers= []/\∃st' g',K st'/\Fr w g w' g'/\Ok w' g' st' (bQ a.tmps)/\a.tmps.size=st'.n/\g'.bl.take g.bl.length=g.bl) (fun _ _ _=>False)
theorem Does.mono {st:St} {K K':St->Prop} (h:Does P o st K)(hk:∀s,K s->K' s):Does P o st K':=
 fun w g tmps h1 h2=>Oper.wp_mono (fun _ _ ⟨a1,st',g',a2,a3⟩=>⟨a1,st',g',hk _ a2,a3⟩) (h w g tmps h1 h2)
def sJ(dst:Option Tmp)(v:Value)(val:Nat->Value):Nat->Value:=match dst with | some d=>fun u=>if u=d then v else val u | none=>val
theorem wN(tmps:Array Value)(ds:List Deferred)(dst:Option Tmp)(v:Value)(h:∀d,dst=some d->d<tmps.size):bQ ((⟨tmps,ds⟩:Act).put dst v).tmps=sJ dst v (bQ tmps):=by
 cases dst with
 | none=>rfl
 | some d=>exact Zw tmps d v (h d rfl)
theorem rX(a:Act)(dst:Option Tmp)(v:Value):(a.put dst v).tmps.size=a.tmps.size:=by
 cases dst <;> simp [Act.put]
theorem oV(a:Act)(dst:Option Tmp)(v:Value):(a.put dst v).defers=a.defers:=by
 cases dst <;> simp [Act.put]
def dD(o:Oper)(st:St):Prop:=match o.dst with | some d=>d<st.n | none=>True
theorem bE {st:St} {K:St->Prop} (hd:dD o st)
  (h:∀(w:World) (g:Gh) (tmps:Array Value),Ok w g st (bQ tmps)->∃v w' g' st',((execOp (⟨tmps, []⟩:Act).eval o).run P w= .ok (.value v) w'\/((execOp (⟨tmps, []⟩:Act).eval o).run P w= .ok .skip w'/\v=undef))/\
   K st'/\Fr w g w' g'/\Ok w' g' st' (sJ o.dst v (bQ tmps))/\st'.n=st.n/\g'.bl.take g.bl.length=g.bl):Does P o st K:=by
 intro w g tmps hok hn;obtain⟨v,w',g',st',hrun,hK,hf,hok',hn',hbl⟩:=h w g tmps hok;have hdst:∀d,o.dst=some d->d<tmps.size:=by
  intro d hd';have hd2:d<st.n:=by simpa [dD,hd'] using hd
  rw [hn];exact hd2
 have e:=wN tmps [] o.dst v hdst;unfold Oper.wp;rcases hrun with hrun | ⟨hrun,rfl⟩
 .rw [hrun,Oper.upon_value];exact⟨by simp [oV],st',g',hK,hf,by rw [e];exact hok',by rw [rX,hn'];exact hn,hbl⟩
 rw [hrun,Oper.upon_skip];exact⟨by simp [oV],st',g',hK,hf,by rw [e];exact hok',by rw [rX,hn'];exact hn,hbl⟩
theorem Ok.put {g:Gh} {st:St} (h:Ok w g st val)(dst:Option Tmp)(s:Slot)(v:Value)(hs:∀t,dst=some t->SlotOk w g t s v):Ok w g (st.put dst s) (sJ dst v val):=by
 cases dst with
 | none=>exact h
 | some d=>exact h.set d s v (hs d rfl)
theorem Kt(st:St)(dst:Option Tmp)(s:Slot):(st.put dst s).n=st.n:=by cases dst <;> rfl
theorem bL {st:St} {K:St->Prop} (hd:dD o st)(s:Slot)
  (h:∀(w:World) (g:Gh) (tmps:Array Value),Ok w g st (bQ tmps)->∃v,(execOp (⟨tmps, []⟩:Act).eval o).run P w= .ok (.value v) w/\∀t,SlotOk w g t s v) (hK:K (st.put o.dst s)):Does P o st K:=by
 refine bE hd fun w g tmps hok=>?_;obtain⟨v,hrun,hs⟩:=h w g tmps hok;exact⟨v,w,g,_,.inl hrun,hK,Fr.refl w g,hok.put o.dst s v (fun t _=>hs t),Kt _ _ _,by simp⟩
theorem bC {g:Gh} {d:D} {v:Value} (h:R g.M g.bs d v)(hf:d.flat=true):∀t,SlotOk w g t (.d d) v:=fun _=>⟨h,.flat _ _ _ hf⟩
def Bq(ts:List (Option Nat)):jK->Option jK
 | (.slot t,q)=>(ts.findIdx? (· ==some t)).map fun p=>(.slot p,q)
 | (.obj n,q)=>some (.obj n,q)
 | (.loc _,_)=>none
def aCe(dst:Option Tmp):jK->Option jK
 | (.slot 0,q)=>dst.map fun d=>(.slot d,q)
 | (.obj n,q)=>some (.obj n,q)
 | _=>none
def fF(ts:List (Option Nat))(env:Nat->Slot):Nat->Slot:=fun t=>if ts.contains (some t)then(match env t with | .d x=> .d x.strip | s=>s)else env t
theorem jY {M M':Mem} {bs bs':List Nat} {X:Nat->Option jK} {h:Holder} {d:D} {x:Value} (hr:R M bs d x)(hnt:∀cs,d= .tup cs->∀c∈cs,∀ds,c≠ .tup ds):Own w M' bs' X h p d.strip x:=by
 cases d with
 | tup cs =>
  cases hr with
  | tup cs vs hl hr=>
   refine .tup p _ vs fun i d x h3 h4=>?_;rw [bP,cU] at h3;obtain⟨d',h3,rfl⟩:=h3;exact uX (hr i d' x h3 h4) (hnt cs rfl d' (aS h3))
 | _=>rw [D.strip_of (by intro cs h;cases h)];exact uX hr (by intro cs h;cases h)
def uJ:Slot->Bool
 | .d (.tup _)=>false
 | _=>true
theorem rB {p:Nat} {d:D} (h:args[p]?=some d):eP args p= .d d:=by simp [eP,h]
theorem Ok.enter {g:Gh} {st:St} (h:Ok w g st val)(args:List D)(vs:Array Value)(ts:List (Option Nat))(hl:vs.size=args.length)
  (ha:∀(p:Nat) (d:D) (v:Value),args[p]?=some d->vs[p]?=some v->R g.M g.bs d v/\
   ((∀X h p,Own w g.M g.bs X h p d v)\/∃t,ts[p]?=some (some t)/\ts.findIdx? (· ==some t)=some p/\st.env t= .d d/\val t=v)):
  Ok w { g with X:=(fun b=>(g.X b).bind (Bq ts)),bl:= [] } (St.ofArgs args st.obj) (bQ vs):=by
 refine⟨h.mem,fun b t hb=>?_,fun t=>?_,rfl,fun n b cs h1 h2=>by simp at h1,h.ol,fun n b cs h1 h2=>?_⟩
 .simp only [jE] at hb;obtain⟨t',hb,_⟩:=hb;exact h.xlt b t' hb
 .show SlotOk w _ t (eP args t) (bQ vs t)
  cases hd:args[t]? with
  | none=>
   simp only [eP,hd];exact⟨.any _,.flat _ _ _ rfl⟩
  | some d=>
   have hlt:t<vs.size:=by rw [hl];exact(aH.1 hd).1
   have hv:vs[t]?=some vs[t]:=aV hlt;have hvv:bQ vs t=vs[t]:=by simp [bQ,hlt]
   rw [rB hd,hvv];obtain⟨hr,ho⟩:=ha t d _ hd hv;refine⟨hr,?_⟩;rcases ho with hall | ⟨s,h1,h2,h3,h4⟩
   .exact hall _ _ _
   have hs:=h.slot s;rw [h3,h4] at hs;refine hs.2.move (fun _ _ _ h=>h) (fun _ _ h=>h) [] fun b q hb=>⟨rfl,fun _ h=>h,?_⟩;simp only [aK] at hb |-;simp [hb,Bq,h2]
 refine(h.obj n b cs h1 h2).keep (fun _ _ _ h=>h) (fun _ _ h=>h) fun b q hb=>⟨rfl,fun _ h=>h,?_⟩;simp [hb,Bq]
theorem Ok.leave {w':World} {g gr:Gh} {st:St} (h:Ok w g st val)(ts:List (Option Nat))(dst:Option Tmp)(r:D)(x:Value)(σ':List (List D))
  (hf:Fr w { g with X:=(fun b=>(g.X b).bind (Bq ts)),bl:= [] } w' gr) (hr:Ok w' gr (St.ofRes r σ') (fun t=>if t=0 then x else undef))
  (hnt:∀t,some t∈ts->uJ (st.env t)=true):
  ∃g',g'.bl=g.bl/\Fr w g w' g'/\Ok w' g' (({ st with env:=fF ts st.env,obj:=σ' } :St).put dst (.d r)) (sJ dst x val):=by
 let Xc:Nat->Option jK:=fun b=>(g.X b).bind (Bq ts)
 let X':Nat->Option jK:=fun b=>if b<w.heap.size/\Xc b=none then g.X b else(gr.X b).bind (aCe dst)
 have hXc:∀b,b<w.heap.size->Xc b=none->w'.heap[b]?=w.heap[b]?/\gr.X b=none/\∀o,gr.M b o=g.M b o:=hf.keep;have hbs:∀(n b:Nat),g.bs[n]?=some b->gr.bs[n]?=some b:=hf.bs;have hM:g.M.le gr.M:=hf.mono
 -- what did not go in is as it was
 have kept:∀(hd:Holder),(∀q,Bq ts (hd,q)=none)->∀(b:Nat) (q:List Nat),g.X b=some (hd,q)->w'.heap[b]?=w.heap[b]?/\(∀o,g.M b o=none->gr.M b o=none)/\X' b=some (hd,q):=by
  intro hd hin b q hb;have hlt:=h.xlt b _ hb;have hc:Xc b=none:=by simp only [Xc,hb,pR];exact hin q
  obtain⟨h1,h2,h3⟩:=hXc b hlt hc;exact⟨h1,fun o ho=>by rw [h3];exact ho,by simp only [X',aR (And.intro hlt hc)];exact hb⟩
 -- what came out Jc its tag
 have came:∀(b:Nat) (t:jK),gr.X b=some t->X' b=aCe dst t:=by
  intro b t hb;have:¬(b<w.heap.size/\Xc b=none):=fun⟨h1,h2⟩=>by rw [(hXc b h1 h2).2.1] at hb;cases hb
  simp only [X',aG this,hb,pR]
 refine⟨{ M:=gr.M,X:=X',bl:=g.bl,bs:=gr.bs },rfl,⟨hf.os,hf.tape,hf.output,hf.size,fun b hb hx=>?_,hM,hbs⟩,?_⟩
 .have hc:Xc b=none:=by simp only [Xc,hx,Option.bind_none]
  obtain⟨h1,h2,h3⟩:=hXc b hb hc;exact⟨h1,by simp only [X',aR (And.intro hb hc)];exact hx,h3⟩
 have base:Ok w' { M:=gr.M,X:=X',bl:=g.bl,bs:=gr.bs } { st with env:=fF ts st.env,obj:=σ' } val:=by
  refine⟨hr.mem,fun b t hb=>?_,fun t=>?_,h.ll,fun n b cs h1 h2=>(h.loc n b cs h1 h2).keep hM hbs (kept _ (fun q=>rfl)),hr.ol,fun n b cs h1 h2=>?_⟩
  .simp only [X'] at hb;split at hb
   .rename_i hc;have:=hf.size;omega
   simp only [jE] at hb;obtain⟨t',hb,_⟩:=hb;exact hr.xlt b t' hb
  .have hs:=h.slot t;simp only [fF];by_cases hc:ts.contains (some t)=true
   .simp only [hc,aJ];have hn:=hnt t (by simpa using hc);cases he:st.env t with
    | lref n off=>
     rw [he] at hs;exact hs
    | d y=>
     rw [he] at hs hn;exact⟨(hs.1.mono hM hbs).strip,jY hs.1 (by intro cs e;subst e;simp [uJ] at hn)⟩
   simp only [hc];refine hs.keep hM hbs (fun _ _ h=>h) (kept _ fun q=>?_);simp only [Bq,Option.map_eq_none_iff,nG];intro y hy;cases y with
   | none=>rfl
   | some u=>
    by_cases e:u=t
    .subst e;exact absurd (by simpa using hy) hc
    simp [e]
  exact(hr.obj n b cs h1 h2).keep (fun _ _ _ h=>h) (fun _ _ h=>h) fun b q hb=>⟨rfl,fun _ h=>h,(came b _ hb).trans rfl⟩
 refine base.put dst (.d r) x fun t ht=>?_;have hs:=hr.slot 0;have hs':R gr.M gr.bs r x/\Own w' gr.M gr.bs gr.X (.slot 0) [] r x:=hs;refine⟨hs'.1,hs'.2.move (fun _ _ _ h=>h) (fun _ _ h=>h) [] fun b q hb=>⟨rfl,fun _ h=>h,?_⟩⟩;simp only [aK] at hb |-;subst ht;exact(came b _ hb).trans rfl
end Go.Vm
