import Derived.Test.YtbgfljpnhhdkoaaGreatVmX13
import Derived.Maps.RangeRun
import Derived.OrdersIn
import Derived.RangeFuncLeaves
import Derived.RangeFuncCalls
set_option linter.all false
namespace Go.Vm
open Go
variable {Q:Exit->Act->World->Prop}{all:List Oper}{c:Cfg}{ds:List Deferred}{g:Gh}{n:Nat}{tmps:Array Value}{val:Nat->Value}{w w':World}{α:Type}
section
variable {P:Program}
end
section
variable {P:Program}
def sS(P:Program)(dst:Option Tmp)(b:Builtin)(args:List Operand)(ts:List TypeId)(st:St)(K:St->Prop):Prop:=
 match b,args,ts with
 | .len, [x], [t]=>Mm P dst t x st K
 | .append, [s,x], [t,t2]=>tK P dst t t2 s x st K
 | .min, [x,y],_=>xA false dst x y st K
 | .max, [x,y],_=>xA true dst x y st K
 | _,_,_=>False
def qQ(P:Program)(c:Cfg)(dst:Option Tmp)(call:Call)(st:St)(K:St->Prop):Prop:=
 match call.callee with
 | .builtin b=>sS P dst b call.args.toList call.argTypes.toList st K
 | .value (.func f)=>match dst with
  | some d=>if c.take.contains d then pU P dst f call.args.toList st K else mQ P dst (.func f) call.args.toList st K
  | none=>mQ P dst (.func f) call.args.toList st K
 | .value f=>mQ P dst f call.args.toList st K
 | .invoke _ _=>False
def dV(P:Program)(c:Cfg)(dst:Option Tmp)(op:Op)(st:St)(K:St->Prop):Prop:=
 match op with
 | .move x=>kX c dst x st K
 | .assign x=>kX c dst x st K
 | .binOp b t x y _=>if zS y=true then Km P dst b t x st K else wQ P b t (st.rdS x) (st.rdS y) fun d=>K (st.put dst (.d d))
 | .unOp u _ x=>Ii u (st.rd x) fun d=>K (st.put dst (.d d))
 | .load t x=>lW P c dst t x st K
 | .fieldAddr s x f=>nB P dst s x f st K
 | .indexAddr t x i=>nD P dst t x i st K
 | .index t x i=>wA P dst t x i st K
 | .slice t x lo hi mx=>vR P dst t x lo hi mx st K
 | .pick a x y=>Bs dst a x y st K
 | .extract x i=>qE c dst x i st K
 | .makeFunc f first caps=>Tn dst f first.toList caps.toList st K
 | .nilCheck x=>wF dst x st K
 | .convert s d x=>qN P dst s d x st K
 | .alloc e=>tX P c dst e st K
 | .box _ x=>Hq c dst x st K
 | .store t a v=>yX P dst t a v st K
 | .build t parts=>vV P dst t parts.toList st K
 | .buildSlice t len parts=>lU P dst t len parts.toList st K
 | .call call=>qQ P c dst call st K
 | _=>False
def Ep:Op->Bool
 | .range _ _ | .next _ _ | .entry _=>true
 | _=>false
def aP8(dst:Option Tmp)(op:Op):Nat:=match dst,op with
 | some d,_=>d
 | none,.call ⟨_,args,_⟩=>match args.toList with
  | .tmp t::_=>t
  | _=>0
 | none,_=>0
def Qs(c:Cfg)(dst:Option Tmp)(op:Op):Bool:=c.xs.contains (aP8 dst op)
def isY:Op->Bool
 | .lookup _ _ _ _=>true
 | .mapUpdate _ _ _ _=>true
 | .insert _ _ _ _=>true
 | .makeMap _ _=>true
 | .mapEntry _ _ _=>true
 | .entryStore _ _ _ _=>true
 | .makeInterface _ _=>true
 | .typeAssert _ _ _ _=>true
 | .call ⟨.builtin .delete,_,_⟩=>true
 | _=>false
def Hj(c:Cfg)(dst:Option Tmp)(op:Op):Bool:=isY op || c.ys.contains (aP8 dst op)
def Ru(c:Cfg)(dst:Option Tmp)(op:Op):Bool:=c.ys.contains (aP8 dst op+1000000)
def jE(P:Program)(c:Cfg)(dst:Option Tmp)(op:Op)(st:St)(K:St->Prop):Prop:=if Hj c dst op=true then vcY P (Ru c dst op) dst op st K else if Qs c dst op=true then vcX P dst op st K else dV P c dst op st K
def aQy(P:Program)(c:Cfg)(o:Oper)(st:St)(K:St->Prop):Prop:=eF o st/\jE P c o.dst o.op st K
theorem aV2 {a:Array α} {x:α} (h:a.toList= [x]):a=#[x]:=vA.1 h
theorem aO6 {a:Array α} {x y:α} (h:a.toList= [x,y]):a=#[x,y]:=vA.1 h
theorem Qo {o:Oper} {st:St} {K:St->Prop} (h:aQy P c o st K):Does P o st K:=by
 obtain⟨hd,h⟩:=h;unfold jE at h;split at h
 .exact aJ9 hd h
 split at h
 .exact aTa hd h
 unfold dV at h;split at h
 .rename_i x ho;exact Qf c x hd (.inl ho) h
 .rename_i x ho;exact Qf c x hd (.inr ho) h
 .rename_i op t x y yt ho;split at h
  .rename_i hy;exact Vr op t x y yt hd ho hy h
  exact aJr op t x y yt hd ho h
 .rename_i op t x ho;exact aRf op t x hd ho h
 .rename_i t x ho;exact Mq c t x hd ho h
 .rename_i s x f ho;exact Kw s x f hd ho h
 .rename_i t x i ho;exact Lw t x i hd ho h
 .rename_i t x i ho;exact Yb t x i hd ho h
 .rename_i t x lo hi mx ho;exact Yf t x lo hi mx hd ho h
 .rename_i a x y ho;exact aG4 a x y hd ho h
 .rename_i x i ho;exact Rj c x i hd ho h
 .rename_i f first caps ho;exact aF6 f first caps hd ho h
 .rename_i x ho;exact My x hd ho h
 .rename_i s d x ho;exact Si s d x hd ho h
 .rename_i e ho;exact Ym c e hd ho h
 .rename_i e x ho;exact aIz c e x hd ho h
 .rename_i t a v ho;exact Zn t a v hd ho h
 .rename_i t parts ho;exact aAv t parts hd ho h
 .rename_i t len parts ho;exact Iq t len parts hd ho h
 .rename_i call ho;obtain⟨callee,args,ts⟩:=call;unfold qQ at h;simp only at h;split at h
  .rename_i b;unfold sS at h;split at h
   .rename_i x t h1 h2;rw [aV2 h1,aV2 h2] at ho;exact aNp t x hd ho h
   .rename_i s x t t2 h1 h2;rw [aO6 h1,aO6 h2] at ho;exact Tt t t2 s x hd ho h
   .rename_i x y h1;rw [aO6 h1] at ho;exact Xm false x y ts hd ho h
   .rename_i x y h1;rw [aO6 h1] at ho;exact Xm true x y ts hd ho h
   exact h.elim
  .rename_i f;split at h
   .split at h
    .exact Bi f args ts hd ho h
    exact nT _ args ts hd ho h
   exact nT _ args ts hd ho h
  .exact nT _ args ts hd ho h
  exact h.elim
 exact h.elim
def fR(ro:Option Nat):Fence:= { Fence.wide with round:=ro }
theorem aSp {ro:Option Nat} {o:Oper} {K:Array Value->World->Prop} (ds:List Deferred)(h:o.wp P ⟨tmps, []⟩ w (fun a w'=>a.defers= []/\K a.tmps w') (fun _ _ _=>False)):
  o.wpIn (fR ro) n P ⟨tmps,ds⟩ w (fun a w'=>a.defers=ds/\K a.tmps w') Q:=by
 refine⟨fun _ _=>trivial,?_⟩;have hput:∀(v:Value),((⟨tmps, []⟩:Act).put o.dst v).defers= []/\K ((⟨tmps, []⟩:Act).put o.dst v).tmps w->True:=fun _ _=>trivial;have put:∀(v:Value) (w':World),K ((⟨tmps, []⟩:Act).put o.dst v).tmps w'->((⟨tmps,ds⟩:Act).put o.dst v).defers=ds/\K ((⟨tmps,ds⟩:Act).put o.dst v).tmps w':=fun v w' hk=>by
  cases hd:o.dst with
  | none=>rw [hd] at hk;exact⟨rfl,hk⟩
  | some d=>rw [hd] at hk;exact⟨rfl,hk⟩
 have hsem:o.semAt (fR ro).round (⟨tmps,ds⟩:Act).eval=execOp (⟨tmps, []⟩:Act).eval o\/∃c,o.op= .defer c:=by
  by_cases hc:∃c,o.op= .defer c
  .exact .inr hc
  exact .inl (Oper.semAt_eq _ _ _ fun c e=>hc ⟨c,e⟩)
 rcases hsem with hsem | ⟨c,hc⟩
 .rw [hsem];unfold Oper.wp at h;generalize (execOp (⟨tmps, []⟩:Act).eval o).run P w=r at h;cases r with
  | ok x w' =>
   cases x with
   | value v=>exact put v w' h.2
   | skip=>exact put undef w' h.2
   | defer d=>simp only [Oper.upon] at h;exact absurd h.1 (by cases o.dst <;> simp [Act.put])
   | enter f args=>
    refine⟨fun hh=>by simp [fR,Fence.wide] at hh,?_⟩;have h1:CallsIn (fR ro) (n - 1) P f args w' _:=(callsIn_wide (n:=n - 1)).2 h;refine h1.mono fun e w'' he=>?_;cases e with
    | returned v=>exact put v w'' he.2
    | panicked ch=>exact he.elim
    | outgrown=>obtain⟨_,_,hh⟩:=he;exact hh.elim
   | row row args=>
    refine⟨fun hh=>by simp [fR,Fence.wide] at hh,fun c cs _=>?_⟩;obtain⟨v,w'',he,hs⟩:=h c cs;exact⟨v,w'',put v w'' he.2,stepsIn_wide.2 hs⟩
   | _=>exact h.elim
  | halt x w'=>cases x <;> exact h.elim
 exfalso;unfold Oper.wp at h;simp only [execOp,hc,Sem.run_bind] at h;generalize (resolve (⟨tmps, []⟩:Act).eval c o.type).run P w=r at h;cases r with
 | ok d w'=>simp only [Result.andThen,Sem.run_pure,Oper.upon] at h;exact absurd h.1 (by cases o.dst <;> simp [Act.put])
 | halt x w'=>cases x <;> exact h.elim
theorem Ux {F:Fence} {c:Code} (I:Nat->Act->World->Prop):∀(k:Nat) {a:Act} {w:World},I k a w->(∀k a w,I k a w->c.wpIn F n P (Exit.then (fun a' w'=>∃k',k'<k/\I k' a' w') Q) a w)->(Code.loop c).wpIn F n P Q a w:=by
 intro k0 a w h0 round;intro b kk cs hro hb hr;have key:∀j a w,I j a w->∃e a' w',Q e a' w'/\ArrivesIn (Machine.fenced P F) P (lone (b.atR a (.code c:: .inLoop c::kk)) cs w) b kk cs e a' w':=by
  intro j;induction j using Nat.strongRecOn with
  | _ j ih =>
   intro a w hI;obtain⟨e,a₁,w₁,hq,harr⟩:=round j a w hI b (.inLoop c::kk) cs hro hb hr;cases e with
   | normal=>
    obtain⟨k',hlt,hI₁⟩:=hq;obtain⟨e₂,a₂,w₂,hq₂,harr₂⟩:=ih k' hlt a₁ w₁ hI₁;exact⟨e₂,a₂,w₂,hq₂,.of_steps (StepsIn.trans harr (.one (fenced_calm hb hr rfl) stepR_inLoop)) harr₂⟩
   | exit id=>exact⟨_,a₁,w₁,hq,.pass (x:= .inLoop c) rfl (fun _ _=> .inl (by simp)) harr⟩
   | goto l=>exact⟨_,a₁,w₁,hq,.pass (x:= .inLoop c) rfl (fun _ _=> .inl (by simp)) harr⟩
   | ret=>exact⟨_,a₁,w₁,hq,.pass (x:= .inLoop c) rfl (fun _ _=> .inl (by simp)) harr⟩
   | panic ch=>exact⟨_,a₁,w₁,hq,.pass (x:= .inLoop c) rfl (fun _ _=> .inl (by simp)) harr⟩
   | outgrown=>exact⟨_,a₁,w₁,hq,.pass (x:= .inLoop c) rfl (fun _ _=> .inl (by simp)) harr⟩
 obtain⟨e,a',w',hq,harr⟩:=key k0 a w h0;exact⟨e,a',w',hq,.of_steps (.one (fenced_calm hb hr rfl) stepR_loop) harr⟩
def Mk(B:Nat)(w:World)(g:Gh)(ds:List Deferred):Prop:=ds= []\/∃D:Nat,B<=D/\ds= [{ target:= .collected D,args:=#[] }]/\w.heap[D]?=some (.deferred (some []))/\g.X D=none
structure FrM(ds:List Deferred)(w:World)(g:Gh)(w':World)(g':Gh):Prop extends Fr w g w' g' where
 mks:Mk w.heap.size w' g' ds
theorem Mk.fr {B:Nat} {g':Gh} (h:Mk B w g ds)(k:Fr w g w' g'):Mk B w' g' ds:=by
 rcases h with h | ⟨D,h0,h1,h2,h3⟩
 .exact .inl h
 obtain⟨a,b,_⟩:=k.keep D (dL.1 h2).1 h3;exact .inr ⟨D,h0,h1,a.trans h2,b⟩
theorem FrM.of {g':Gh} (h:Fr w g w' g'):FrM [] w g w' g':=⟨h,.inl rfl⟩
theorem Ok.turn {st:St} (h:Ok w g st val)(hs:w.heap.size<=w'.heap.size)(hX:∀(b:Nat) (t:mV),g.X b=some t->w'.heap[b]?=w.heap[b]?)
  (hM:∀(b o:Nat) (c:Value),g.M b o=some c->w'.cell? ⟨b,o,none⟩=w.cell? ⟨b,o,none⟩):Ok w' g st val:=
 ⟨fun b o c hc=>(hM b o c hc).trans (h.mem b o c hc),fun b t hb=>sF (h.xlt b t hb) hs,fun t=>(h.slot t).keep (fun _ _ _ h=>h) (fun _ _ h=>h) (fun _ _ h=>h) fun b q hx=>⟨hX b _ hx,fun _ h=>h,hx⟩,h.ll,
  fun n b cs h1 h2=>(h.loc n b cs h1 h2).keep (fun _ _ _ h=>h) (fun _ _ h=>h) fun b q hx=>⟨hX b _ hx,fun _ h=>h,hx⟩,h.ol,
  fun n b cs h1 h2=>(h.obj n b cs h1 h2).keep (fun _ _ _ h=>h) (fun _ _ h=>h) fun b q hx=>⟨hX b _ hx,fun _ h=>h,hx⟩⟩
theorem World.cell_not {b o:Nat} {ob:Obj} (h:w.heap[b]?=some ob)(hc:ob.isCells=false):w.cell? ⟨b,o,none⟩=none:=by
 unfold World.cell?;simp only [h];cases ob <;> first | rfl | simp [Obj.isCells] at hc
theorem World.putObj_at {D b:Nat} {ob:Obj} (h:b≠D):(w.putObj D ob).heap[b]?=w.heap[b]?:=World.putObj_heap_other h
theorem Ok.putObj {st:St} (h:Ok w g st val) {D:Nat} {o o':Obj} (hD:w.heap[D]?=some o)(hc:o.isCells=false)(hX:g.X D=none):Ok (w.putObj D o') g st val:=by
 refine h.turn (by simp [World.putObj]) (fun b t hb=>World.putObj_at (by rintro rfl;rw [hX] at hb;cases hb)) fun b p c hm=>?_;have hne:b≠D:=by rintro rfl;have:=h.mem b p c hm;rw [World.cell_not hD hc] at this;cases this
 exact World.cell?_of_block (w:=w) (a:=⟨b,p,none⟩) (World.putObj_at hne)
theorem FrM.trans {w1 w2:World} {g1 g2:Gh} (h:FrM ds w g w1 g1)(k:Fr w1 g1 w2 g2):FrM ds w g w2 g2:=⟨h.toFr.trans k,h.mks.fr k⟩
def aN(all:List Oper)(j:Nat):Option Tmp:=(all[j]?).bind (·.dst)
abbrev Slot.und:Slot:= .d (.tup [])
def Hy(s:Slot)(want:Bool):Option Bool:=match s with
 | .d (.v (.bool b))=>some b
 | .d (.tup [])=>some (!want)
 | _=>none
def qK (P : Program) (c : Cfg) (all : List Oper) : List Oper -> St -> (St -> Prop) -> Prop
 | [],st,K=>K st
 | o :: r, st, K => match o.guard with
  | none=>aQy P c o st fun st'=>qK P c all r st' K
  | some (j, want) => match aN all j with
   | some t=>match Hy (st.env t) want with
    | some b=>(b=want->aQy P c o st fun st'=>qK P c all r st' K)/\(b= !want->eF o st/\qK P c all r (st.put o.dst .und) K)
    | none=>False
   | none=>False
def Nj(ds:List Deferred)(w0:World)(g0:Gh)(Q:Exit->St->Prop):Exit->Act->World->Prop:=fun e a w'=>
 (e≠ .ret->a.defers=ds)/\∃st' g',Q e st'/\FrM a.defers w0 g0 w' g'/\Ok w' g' st' (cJ a.tmps)/\a.tmps.size=st'.n
def fD(ro:Option Nat)(ds:List Deferred)(P:Program)(c:Code)(Q:Exit->St->Prop)(st:St):Prop:=
 ∀(w0:World) (g0:Gh) (w:World) (g:Gh) (tmps:Array Value),FrM ds w0 g0 w g->Ok w g st (cJ tmps)->tmps.size=st.n->c.wpIn (fR ro) 0 P (Nj ds w0 g0 Q) ⟨tmps,ds⟩ w
abbrev AWP:=fD none []
variable {ro:Option Nat}
theorem Zu {j t:Nat} {b:Bool} {st:St} (hok:Ok w g st (cJ tmps))(hg:aN all j=some t)(hs:st.env t= .d (.v (.bool b))):yielded all.toArray tmps j=some b:=by
 have hsl:=hok.slot t;rw [hs] at hsl;have hv:cJ tmps t= .bool b:=hsl.1.vEq;unfold aN at hg;unfold yielded;simp only [fZ];rw [hg];simp only [vD];unfold cJ at hv;rw [kO] at hv;cases ht:tmps[t]? with
 | none=>rw [ht] at hv;simp [undef] at hv
 | some v=>rw [ht] at hv;simp at hv;rw [hv]
theorem Fk {j t:Nat} {b want:Bool} {st:St} (hok:Ok w g st (cJ tmps))(hg:aN all j=some t)(hs:Hy (st.env t) want=some b):(yielded all.toArray tmps j==some want)=(b==want):=by
 unfold Hy at hs;split at hs
 .rename_i b' he;simp only [bF] at hs;subst hs;rw [Zu hok hg he];rfl
 .rename_i he;simp only [bF] at hs;subst hs;have hsl:=hok.slot t;rw [he] at hsl;obtain⟨hr,_⟩:=hsl;have hv:cJ tmps t= .tuple #[]:=by
   generalize cJ tmps t=v at hr;cases hr with
   | tup cs vs hl hr=>simp at hl;rw [hl]
  have:yielded all.toArray tmps j=none:=by
   unfold aN at hg;unfold yielded;simp only [fZ];rw [hg];simp only [vD];unfold cJ at hv;rw [kO] at hv;cases ht:tmps[t]? with
   | none=>rfl
   | some v=>rw [ht] at hv;simp at hv;rw [hv]
  rw [this];cases want <;> rfl
 cases hs
theorem aN0 (t:Nat):SlotOk w g t .und undef:=
 ⟨.tup [] #[] rfl (fun i d x h _=>by simp at h),.tup [] [] #[] (fun i d x h _=>by simp at h)⟩
theorem Fb {w0:World} {g0:Gh} {Q:Exit->St->Prop} :∀(r:List Oper) (k:Nat) (st:St) (w:World) (g:Gh) (tmps:Array Value),(∀j,r[j]?=all[k+j]?)->qK P c all r st (Q .normal)->FrM ds w0 g0 w g->Ok w g st (cJ tmps)->tmps.size=st.n->
  wpOpsIn (fR ro) 0 P all.toArray (Nj ds w0 g0 Q) ((List.range r.length).map (k+ ·)) ⟨tmps,ds⟩ w
 | [],k,st,w,g,tmps,_,h,hf,hok,hn=>⟨fun _=>rfl,st,g,h,hf,hok,hn⟩
 | o :: r, k, st, w, g, tmps, hr, h, hf, hok, hn => by
  have ho:all.toArray[k]?=some o:=by
   have:=hr 0;simpa using this.symm
  have hr':∀j,r[j]?=all[k+1+j]?:=fun j=>by
   have:=hr (j+1);simpa [Nat.add_assoc,sK 1] using this
  have hl:(List.range (o::r).length).map (k+ ·)=k::(List.range r.length).map (k+1+ ·):=by
   simp only [bJ,List.range_succ_eq_map,cC,eA,kK];congr 1;apply cW;intro x _;simp;omega
  rw [hl];simp only [wpOpsIn,ho];have run:aQy P c o st (fun st'=>qK P c all r st' (Q .normal))->o.wpIn (fR ro) 0 P ⟨tmps,ds⟩ w (wpOpsIn (fR ro) 0 P all.toArray (Nj ds w0 g0 Q) ((List.range r.length).map (k+1+ ·))) (Nj ds w0 g0 Q):=by
   intro h;have hd:=Qo h w g tmps hok hn;refine Oper.wpIn_mono (fun a w'=>?_) (aSp (K:=fun tmps' w'=>∃st' g',qK P c all r st' (Q .normal)/\Fr w g w' g'/\Ok w' g' st' (cJ tmps')/\tmps'.size=st'.n/\g'.bl.take g.bl.length=g.bl) ds hd);rintro⟨hdf,st',g',hK,hf',hok',hn',_⟩;obtain⟨tmps',ds'⟩:=a;simp only at hdf;rw [hdf];exact Fb r (k+1) st' w' g' tmps' hr' hK (hf.trans hf') hok' hn'
  unfold qK at h;split at h
  .rename_i hg;have:Region.wanted o (yielded all.toArray tmps)=true:=by simp [Region.wanted,hg]
   rw [aK this];exact run h
  rename_i j want hg;split at h
  .rename_i t ht;split at h
   .rename_i b hs;have hy:=Fk (all:=all) (j:=j) hok ht hs;by_cases hb:b=want
    .have:Region.wanted o (yielded all.toArray tmps)=true:=by simp [Region.wanted,hg,hy,hb]
     rw [aK this];exact run (h.1 hb)
    have:¬Region.wanted o (yielded all.toArray tmps)=true:=by simp [Region.wanted,hg,hy,hb]
    rw [aD this];have hb':b= !want:=by cases b <;> cases want <;> simp_all
    obtain⟨hd,h2⟩:=h.2 hb';have hdst:∀d,o.dst=some d->d<tmps.size:=by
     intro d hd';have hd2:d<st.n:=by simpa [eF,hd'] using hd
     rw [hn];exact hd2
    have hp:=hok.put o.dst .und undef (fun t _=>aN0 t);have e:=Cf tmps ds o.dst undef hdst;have hds:=sV ⟨tmps,ds⟩ o.dst undef;have hsz:=xP ⟨tmps,ds⟩ o.dst undef;refine⟨fun _ _=>trivial,?_⟩;generalize hA:(⟨tmps,ds⟩:Act).put o.dst undef=A at *;obtain⟨tmps',ds'⟩:=A;simp only at hds hsz e;rw [hds];exact Fb r (k+1) _ w g tmps' hr' h2 hf (by rw [e];exact hp) (by rw [hsz,Vv];exact hn)
   exact h.elim
  exact h.elim
theorem aA7 {id:Nat} {ops:List Oper} {Q:Exit->St->Prop} {st:St} (h:∀K:St->Prop,(∀s,Q .normal s->K s)->qK P c ops ops st K):fD ro ds P (.region id ops.toArray false) Q st:=by
 intro w0 g0 w g tmps hf hok hn;refine wpIn_region ?_;have:=Fb (P:=P) (ro:=ro) (ds:=ds) (c:=c) (all:=ops) (w0:=w0) (g0:=g0) (Q:=Q) ops 0 st w g tmps (fun j=>by simp) (h _ fun _ h=>h) hf hok hn;simpa using this
theorem xN {Q:Exit->St->Prop} {st:St} (h:Q .normal st):fD ro ds P .skip Q st:=
 fun _ _ _ g _ hf hok hn=>wpIn_skip ⟨fun _=>rfl,st,g,h,hf,hok,hn⟩
theorem Dw {id:Nat} {Q:Exit->St->Prop} {st:St} (h:Q (.exit id) st):fD ro ds P (.exit id) Q st:=
 fun _ _ _ g _ hf hok hn=>wpIn_exit ⟨fun _=>rfl,st,g,h,hf,hok,hn⟩
theorem aC {Q:Exit->St->Prop} {st:St} (h:Q .ret st):fD ro ds P .ret Q st:=
 fun _ _ _ g _ hf hok hn=>wpIn_ret ⟨fun _=>rfl,st,g,h,hf,hok,hn⟩
def uF(ro:Option Nat)(ds:List Deferred)(P:Program)(y:Code)(Q:Exit->St->Prop):Exit->St->Prop
 | .normal,s=>fD ro ds P y Q s
 | e,s=>Q e s
theorem aE {x y:Code} {Q:Exit->St->Prop} {st:St} (h:fD ro ds P x (uF ro ds P y Q) st):fD ro ds P (.seq x y) Q st:=by
 intro w0 g0 w g tmps hf hok hn;refine wpIn_seq (wpIn_mono (h w0 g0 w g tmps hf hok hn) ?_);rintro e ⟨tmps',ds'⟩ w' ⟨hd,st',g',hq,hf',hok',hn'⟩;cases e with
 | normal=>
  have hd:=hd (by simp);simp only at hd;subst hd;exact hq w0 g0 w' g' tmps' hf' hok' hn'
 | _=>exact⟨hd,st',g',hq,hf',hok',hn'⟩
theorem bA {x:Operand} {a b:Code} {t:Bool} {Q:Exit->St->Prop} {st:St} (hx:st.rd x= .v (.bool t))(h1:t=true->fD ro ds P a Q st)(h2:t=false->fD ro ds P b Q st):fD ro ds P (.cond x a b) Q st:=by
 intro w0 g0 w g tmps hf hok hn;have hr:=hok.rd x;rw [hx] at hr;exact wpIn_cond_split hr.vEq (fun ht=>h1 ht w0 g0 w g tmps hf hok hn) (fun ht=>h2 ht w0 g0 w g tmps hf hok hn)
def rI(id:Nat)(Q:Exit->St->Prop):Exit->St->Prop
 | .exit id',s=>if id'=id then Q .normal s else Q (.exit id') s
 | e,s=>Q e s
theorem aR {id:Nat} {x:Code} {Q:Exit->St->Prop} {st:St} (h:fD ro ds P x (rI id Q) st):fD ro ds P (.block id x) Q st:=by
 intro w0 g0 w g tmps hf hok hn;refine wpIn_block (wpIn_mono (h w0 g0 w g tmps hf hok hn) ?_);rintro e a w' ⟨hd,st',g',hq,hrest⟩;cases e with
 | exit id'=>
  simp only [Exit.inBlock];simp only [rI] at hq;split
  .rename_i e;rw [aK e] at hq;exact⟨fun _=>hd (by simp),st',g',hq,hrest⟩
  rename_i e;rw [aD e] at hq;exact⟨hd,st',g',hq,hrest⟩
 | _=>exact⟨hd,st',g',hq,hrest⟩
def Tp(n:Nat):Slot->Slot->Prop
 | _,.d .any=>True
 | .lref m off,s=>s= .lref m off/\m<n
 | .d (.sl true es),s=>s= .d (.sl true es)\/s= .d (.sl false es)
 | .d x,s=>s= .d x
structure Weak(st st':St):Prop where
 n:st.n=st'.n
 env:∀t,Tp st'.loc.length (st.env t) (st'.env t)
 loc:st'.loc<+:st.loc
 obj:st'.obj=st.obj
theorem Ok.weak {st st':St} (h:Ok w g st val)(hw:Weak st st'):∃g',Fr w g w g'/\Ok w g' st' val:=by
 obtain⟨rest,hloc⟩:=hw.loc;have hlen:st'.loc.length<=g.bl.length:=by rw [h.ll,<- hloc];simp
 refine⟨{ g with bl:=g.bl.take st'.loc.length },⟨rfl,rfl,rfl,aW _,fun b _ hx=>⟨rfl,hx,fun _=>rfl⟩,fun _ _ _ h=>h,fun _ _ h=>h⟩,⟨h.mem,h.xlt,fun t=>?_,by rw [bG];omega,fun n b cs h1 h2=>?_,by rw [hw.obj];exact h.ol,fun n b cs h1 h2=>?_⟩⟩
 .have hs:=h.slot t;have hl:=hw.env t;generalize st.env t=s at hs hl;generalize st'.env t=s' at hl;have any:SlotOk w { g with bl:=g.bl.take st'.loc.length } t .any (val t):=⟨.any _,.flat _ _ _ rfl⟩;unfold Tp at hl;split at hl
  .exact any
  .rename_i m off _;obtain⟨rfl,hm⟩:=hl;obtain⟨b,hb,hv⟩:=hs;exact⟨b,by simp [eN,hm,hb],hv⟩
  .rename_i es _;rcases hl with rfl | rfl
   .exact hs
   exact⟨hs.1.s1,.flat _ _ _ rfl⟩
  subst hl;exact hs
 .simp only at h1;rw [eN] at h1;split at h1
  .refine h.loc n b cs h1 ?_;rw [<- hloc,bC (by exact(aP.1 h2).1)];exact h2
  cases h1
 rw [hw.obj] at h2;exact h.obj n b cs h1 h2
def eK:List (Nat×Slot)->Nat->Slot
 | [],_=> .any
 | (a,s)::r,t=>if t=a then s else eK r t
def St.mk'(n:Nat)(l:List (Nat×Slot))(loc obj:List (List D)):St:= { n,env:=eK l,loc,obj }
theorem Qx {st:St} {l:List (Nat×Slot)} {loc obj:List (List D)} (hn:st.n=n)(hl:∀p∈l,Tp loc.length (st.env p.1) p.2)(hloc:loc<+:st.loc)(hobj:st.obj=obj):Weak st (St.mk' n l loc obj):=by
 refine⟨hn,fun t=>?_,hloc,hobj.symm⟩;show Tp loc.length (st.env t) (eK l t)
 induction l with
 | nil=>unfold eK Tp;split <;> simp_all
 | cons p l ih=>
  obtain⟨a,s⟩:=p;unfold eK;split
  .rename_i e;subst e;exact hl (t,s) (by simp)
  exact ih (fun q hq=>hl q (by simp [hq]))
def Dl {α:Type} (S:α->St)(p:α->Prop)(m:α->Nat)(x:α)(Q:Exit->St->Prop):Exit->St->Prop
 | .normal,s=>∃y,p y/\m y<m x/\Weak s (S y)
 | e,s=>Q e s
theorem Wd (S:α->St)(p:α->Prop)(m:α->Nat)(x0:α) {body:Code} {Q:Exit->St->Prop} {st:St} (hw:Weak st (S x0))(hp:p x0)(h:∀x,p x->fD ro ds P body (Dl S p m x Q) (S x)):fD ro ds P (.loop body) Q st:=by
 intro w0 g0 w g tmps hf hok hn;have key:∀k (a:Act) (w:World),(a.defers=ds/\∃x g,p x/\m x=k/\FrM ds w0 g0 w g/\Ok w g (S x) (cJ a.tmps)/\a.tmps.size=(S x).n)->
   body.wpIn (fR ro) 0 P (Exit.then (fun a' w'=>a'.defers=ds/\∃k',k'<k/\∃x g,p x/\m x=k'/\FrM ds w0 g0 w' g/\Ok w' g (S x) (cJ a'.tmps)/\a'.tmps.size=(S x).n) (Nj ds w0 g0 Q)) a w:=by
  rintro k ⟨tmps,ds'⟩ w ⟨hd,x,g,hp,hm,hf,hok,hn⟩;simp only at hd;subst hd;refine wpIn_mono (h x hp w0 g0 w g tmps hf hok hn) ?_;rintro e a' w' ⟨hd',st',g',hq,hf',hok',hn'⟩;cases e with
  | normal=>
   obtain⟨y,hy,hlt,hwk⟩:=hq;obtain⟨g'',hf'',hok''⟩:=hok'.weak hwk;have hd':=hd' (by simp);rw [hd'] at hf';exact⟨hd',m y,by omega,y,g'',hy,rfl,hf'.trans hf'',hok'',by rw [hn',hwk.n]⟩
  | _=>exact⟨hd',st',g',hq,hf',hok',hn'⟩
 obtain⟨g1,hf1,hok1⟩:=hok.weak hw;exact Ux (fun k a w=>a.defers=ds/\∃x g,p x/\m x=k/\FrM ds w0 g0 w g/\Ok w g (S x) (cJ a.tmps)/\a.tmps.size=(S x).n) (m x0)
  ⟨rfl,x0,g1,hp,rfl,hf.trans hf1,hok1,by rw [hn,hw.n]⟩ fun k a w hI=>wpIn_mono (key k a w hI) fun e a' w' he=>by
   cases e with
   | normal=>obtain⟨hd,k',hk,hrest⟩:=he;exact⟨k',hk,hd,hrest⟩
   | _=>exact he
end
section
variable {P:Program}
def Mf (P : Program) (s : St) : ResultVar -> Option (D × Option Holder)
 | .tmp t=>match s.env t with
  | .d (.tup _)=>none
  | .d d=>some (d,some (.slot t))
  | .lref _ _=>none
 | .cell a t => match kJ P t, s.env a with
  | some (ag, n), .lref m off => match s.loc[m]? with
   | some cs=>match Ae ag n (cs.drop off)with
    | some y=>if ag=true/\off=0 then some (y,some (.loc m))else some (y.s2,none)
    | none=>none
   | none=>none
  | _,_=>none
def Hk(P:Program)(s:St):List ResultVar->Option (List (D×Option Holder))
 | []=>some []
 | r::rs=>match Mf P s r,Hk P s rs with
  | some x,some xs=>some (x::xs)
  | _,_=>none
def D.ofList:List D->D
 | [d]=>d
 | ds=> .tup ds
def Fw(hs:List (Option Holder)):mV->Option mV
 | (.obj n,q)=>some (.obj n,q)
 | (h,q)=>(hs.findIdx? (· ==some h)).map fun i=>(.slot 0,(if hs.length=1 then [] else [i])++q)
def Sy(hs:List (Option Holder)):Bool:=decide (hs.filterMap id).Nodup
def aH(P:Program)(rs:List ResultVar)(Q:D->List (List D)->Prop):Exit->St->Prop:=fun e s=>
 (match e with | .normal | .ret=>True | _=>False)/\match Hk P s rs with
  | some xs=>Sy (xs.map (·.2))=true/\Q (D.ofList (xs.map (·.1))) s.obj
  | none=>False
theorem xH:∀(hs:List (Option Holder)) (i:Nat) (h:Holder),(hs.filterMap id).Nodup->hs[i]?=some (some h)->hs.findIdx? (· ==some h)=some i
 | [],i,h,_,e=>by simp at e
 | x :: hs, i, h, hn, e => by
  match i with
  | 0=>
   simp only [Aa,bF] at e;simp [zP,e]
  | i + 1 =>
   have e':hs[i]?=some (some h):=by simpa using e
   have hne:x≠some h:=by
    intro ex;subst ex;have hmem:h∈hs.filterMap id:=oU.2 ⟨some h,bE e',rfl⟩;simp only [uS,id] at hn;exact(gY.1 hn).1 hmem
   have hn':(hs.filterMap id).Nodup:=by
    simp only [uS] at hn;split at hn
    .exact hn
    exact(gY.1 hn).2
   have ih:=xH hs i h hn' e';simp [zP,hne,ih]
def aKb(tmps:Array Value):ResultVar->Sem Value
 | .tmp t=>pure (tmps.getD t undef)
 | .cell a t=>do loadVar t (<- asAddr (tmps.getD a undef))
def aLj(w:World)(g:Gh)(d:D)(v:Value):Option Holder->Prop
 | some hd=>(∀n,hd≠ .obj n)/\Own w g.M g.bs g.X hd [] d v
 | none=>∀X h p,Own w g.M g.bs X h p d v
theorem Rf {s : St} (hok : Ok w g s (cJ tmps)) {r : ResultVar} {d : D} {ho : Option Holder} (h : Mf P s r = some (d, ho)) :
  ∃v,(aKb tmps r).run P w= .ok v w/\R g.M g.bs d v/\(∀cs,d≠ .tup cs)/\aLj w g d v ho:=by
 cases r with
 | tmp t=>
  have hs:=hok.slot t;simp only [Mf] at h;split at h
  .cases h
  .rename_i y hne hy;simp only [bF,gI] at h;obtain⟨rfl,rfl⟩:=h;rw [hy] at hs;exact⟨_,rfl,hs.1,fun cs e=>hne cs e,by simp,hs.2⟩
  cases h
 | cell a t =>
  simp only [Mf] at h;split at h
  .rename_i ag n m off ht ha;split at h
   .rename_i cs hcs;split at h
    .rename_i y hld;obtain⟨b,hb,hv⟩:=hok.rdL (x:= .tmp a) ha;have hv':tmps.getD a undef= .pointer (some ⟨b,off,none⟩):=hv;have hbx:=hok.loc m b cs hb hcs;obtain⟨v,hrun,hr⟩:=xO (P:=P) (Gs hbx off) ht hld;have hnt:=uB (Gs hbx off) hld;have hrun':(aKb tmps (.cell a t)).run P w= .ok v w:=by
      simp only [aKb,hv'];simp [asAddr,hrun]
     split at h
     .rename_i hc;simp only [bF,gI] at h;obtain⟨rfl,rfl⟩:=h;obtain⟨rfl,rfl⟩:=hc;refine⟨v,hrun',hr,hnt,by simp,?_⟩;rcases hbx with rfl | ⟨cur,E,h1,h2,h3,h4,h5⟩
      .simp only [Ae,aU,zZ,List.take_nil] at hld;split at hld
       .simp only [bF] at hld;subst hld;cases hr with
        | agg _ vs hl hrr h1'=>exact .agg _ _ vs fun i e c a1 a2=>by simp at a1
       cases hld
      simp only [Ae,aU,zZ] at hld;split at hld
      .simp only [bF] at hld;subst hld;cases hr with
       | agg _ vs hl hrr h1' =>
        refine .agg _ _ vs fun i e c a1 a2=>?_;rw [eN] at a1;split at a1
        .rename_i hin
         -- the value's cells are the box's
         have hcu:cur[i]?=some c:=by
          obtain⟨td,ti,i1,i2,i3,i4⟩:=rH ht;have e1:∀(j:Nat) (x:Value),(cur.toList.take n)[j]?=some x->w.cell? ((⟨b,0,none⟩:Addr).add j)=some x:=by
           intro j x hj;rw [Addr.add_none,eL,cell_of_row w b j cur E (0,0) h1];rw [eN] at hj;split at hj
           .rw [dM] at hj;exact hj
           cases hj
          have hlen:(cur.toList.take n).length=n:=by
           rw [bG,cG,h2];omega
          have hl2:=run_loadCells_list (P:=P) w ⟨b,0,none⟩ (cur.toList.take n) e1;rw [hlen] at hl2;have:(loadVar t ⟨b,0,none⟩).run P w= .ok (.agg (cur.toList.take n).toArray) w:=by simp [loadVar,oZ i1,i3,cD i2,i4,hl2]
          rw [this] at hrun;simp only [Result.ok.injEq,oR,Value.agg.injEq] at hrun;rw [<- hrun,fZ,eN,aK hin,dM] at a2;exact a2
         exact(h5 i e c a1 hcu).2.1
        cases a1
      cases hld
     simp only [bF,gI] at h;obtain⟨rfl,rfl⟩:=h;refine⟨v,hrun',hr.s2,?_,fun X h p=>Bk hr hnt⟩;intro ds e;cases y <;> simp [D.s2,D.s1] at e;exact absurd rfl (hnt _)
    cases h
   cases h
  cases h
theorem Cn {s:St} (hok:Ok w g s (cJ tmps)):∀(rs:List ResultVar) (xs:List (D×Option Holder)),Hk P s rs=some xs->∃vs:List Value,vs.length=xs.length/\
  (rs.mapM (aKb tmps)).run P w= .ok vs w/\
  ∀(i:Nat) (x:D×Option Holder) (v:Value),xs[i]?=some x->vs[i]?=some v->R g.M g.bs x.1 v/\(∀cs,x.1≠ .tup cs)/\aLj w g x.1 v x.2
 | [],xs,h=>by
  simp only [Hk,bF] at h;subst h;exact⟨[],rfl,rfl,fun i x v h=>by simp at h⟩
 | r :: rs, xs, h => by
  simp only [Hk] at h;split at h
  .rename_i x ys h1 h2;simp only [bF] at h;subst h;obtain⟨d,ho⟩:=x;obtain⟨v,a1,a2,a3,a4⟩:=Rf hok h1;obtain⟨vs,b1,b2,b3⟩:=Cn hok rs ys h2;refine⟨v::vs,by simp [b1],?_,fun i x u c1 c2=>?_⟩
   .rw [List.mapM_cons,Sem.run_bind];rw [a1,Result.andThen_ok,Sem.run_bind,b2];rfl
   match i with
   | 0=>simp at c1 c2;subst c1;subst c2;exact⟨a2,a3,a4⟩
   | i+1=>exact b3 i x u (by simpa using c1) (by simpa using c2)
  cases h
theorem aV9 {f : FuncId} {fn : Func} {c : Code} {args : List D} {σ : List (List D)} {Q : D → List (List D) → Prop} (hf : P.funcs[f]? = some fn) (hb : fn.body = some c) (hname : (fn.name != "runtime.NumGoroutine") = true)
  (h:AWP P c (aH P fn.results.toList Q) { n:=args.length+(fn.ntmps - args.length),env:=fT args,loc:= [],obj:=σ }):Ct P f args σ Q:=by
 refine⟨by simp only [Ef,hf,hb];simp only [hname];rfl,fun w g vs hsz hbl hok=>?_⟩;refine(callsIn_wide (n:=0)).1 (callsIn_of_wp_marks hf hb trivial ?_);have hok':Ok w g { n:=args.length+(fn.ntmps - args.length),env:=fT args,loc:= [],obj:=σ } (cJ (vs++Array.replicate (fn.ntmps - vs.size) undef)):=by
  refine⟨hok.mem,hok.xlt,fun t=>?_,hok.ll,hok.loc,hok.ol,hok.obj⟩;have hs:=hok.slot t;have e:(St.ofArgs args σ).env t=fT args t:=rfl;rw [e] at hs;show SlotOk w g t (fT args t) _
  by_cases ht:t<vs.size
  .have:cJ (vs++Array.replicate (fn.ntmps - vs.size) undef) t=cJ vs t:=by
    simp [cJ,zW,ht]
   rw [this];exact hs
  have:fT args t= .any:=by
   simp only [fT];rw [iR (by omega)]
  rw [this];exact⟨.any _,.flat _ _ _ rfl⟩
 refine wpIn_mono (F:=fR none) (h w g w g _ (.of (Fr.refl w g)) hok' (by simp [hsz])) ?_;rintro e a w1 ⟨hd,st',g',⟨hexit,hq⟩,hf1,hok1,hn'⟩;have main:∀w':World,Fr w g w' g'->Ok w' g' st' (cJ a.tmps)->∃v,(results fn a.tmps).run P w'= .ok v w'/\∃r σ' x g',Ending.returned v= .returned x/\Q r σ'/\g'.bl= []/\Fr w g w' g'/\Ok w' g' (St.ofRes r σ') (fun t=>if t=0 then x else undef):=by
  intro w' hf' hok'';split at hq
  .rename_i xs hxs;obtain⟨hh,hQ⟩:=hq;obtain⟨vs',b1,b2,b3⟩:=Cn hok'' _ xs hxs;have hnd:((xs.map (·.2)).filterMap id).Nodup:=by simpa [Sy] using hh
   have hrun:(results fn a.tmps).run P w'= .ok (if h:vs'.toArray.size=1 then vs'.toArray[0] else .tuple vs'.toArray) w':=by
    have e0:results fn a.tmps=(do let vs <- fn.results.mapM (aKb a.tmps);pure (if h:vs.size=1 then vs[0] else .tuple vs)):=by
     unfold results;congr 1
    rw [e0,Sem.run_bind,Ns,Sem.run_map,b2];rfl
   refine⟨_,hrun,D.ofList (xs.map (·.1)),st'.obj,_, { M:=g'.M,X:=fun b=>(g'.X b).bind (Fw (xs.map (·.2))),bl:= [],bs:=g'.bs },rfl,hQ,rfl,?_,?_⟩
   .exact⟨hf'.os,hf'.tape,hf'.output,hf'.size,fun b hb hx=>by
     obtain⟨c1,c2,c3⟩:=hf'.keep b hb hx;exact⟨c1,by simp [c2],c3⟩,hf'.mono,hf'.bs⟩
   refine⟨hok''.mem,fun b t hb=>?_,fun t=>?_,rfl,fun n b cs h1 h2=>by simp at h1,hok''.ol,fun n b cs h1 h2=>?_⟩
   .simp only [mC] at hb;obtain⟨t',hb,_⟩:=hb;exact hok''.xlt b t' hb
   .show SlotOk w' _ t (fT [D.ofList (xs.map (·.1))] t) _
    by_cases ht:t=0
    .subst ht;simp only [fT,Aa,aU]
     -- each result with its rights
     have each:∀(i:Nat) (x:D×Option Holder) (v:Value),xs[i]?=some x->vs'[i]?=some v->R g'.M g'.bs x.1 v/\(∀cs,x.1≠ .tup cs)/\Own w' g'.M g'.bs (fun b=>(g'.X b).bind (Fw (xs.map (·.2)))) (.slot 0) (if(xs.map (·.2)).length=1 then [] else [i]) x.1 v:=by
      intro i x v c1 c2;obtain⟨d1,d2,d3⟩:=b3 i x v c1 c2;refine⟨d1,d2,?_⟩;cases hx2:x.2 with
      | none=>rw [hx2] at d3;exact d3 _ _ _
      | some hd=>
       rw [hx2] at d3;refine d3.2.move (fun _ _ _ h=>h) (fun _ _ h=>h) _ fun b q hb=>⟨rfl,fun _ h=>h,?_⟩;have hi:(xs.map (·.2))[i]?=some (some hd):=by rw [cF,c1,gJ,hx2]
       have hidx:=xH _ i hd hnd hi;simp only [aO] at hb;simp only [hb,vD];have hno:=d3.1;cases hd with
       | obj n=>exact absurd rfl (hno n)
       | slot t=>simp only [Fw,hidx,gJ]
       | loc t=>simp only [Fw,hidx,gJ]
     rcases xs with _ | ⟨x,_ | ⟨y,xs⟩⟩
     .rcases vs' with _ | ⟨v,vs'⟩
      .simp only [D.ofList,kP];exact⟨.tup [] #[] rfl (fun i d x h=>by simp at h),.tup _ [] #[] (fun i d x h=>by simp at h)⟩
      simp at b1
     .rcases vs' with _ | ⟨v,_ | ⟨u,vs'⟩⟩
      .simp at b1
      .obtain⟨d1,d2,d3⟩:=each 0 x v rfl rfl;have d3':Own w' g'.M g'.bs (fun b=>(g'.X b).bind (Fw [x.2])) (.slot 0) [] x.1 v:=by simpa using d3
       exact⟨d1,d3'⟩
      simp at b1
     rcases vs' with _ | ⟨v,_ | ⟨u,vs'⟩⟩
     .simp at b1
     .simp at b1
     have hlen:((x::y::xs).map (·.2)).length≠1:=by simp
     simp only [aD hlen] at each;have e1:D.ofList ((x::y::xs).map (·.1))= .tup ((x::y::xs).map (·.1)):=rfl;rw [e1];have e2:(if h:(v::u::vs').toArray.size=1 then(v::u::vs').toArray[0] else Value.tuple (v::u::vs').toArray)= .tuple (v::u::vs').toArray:=by
      rw [dif_neg (by simp)]
     rw [e2];refine⟨.tup _ _ (by simpa using b1) (fun i d z c1 c2=>?_),.tup _ _ _ fun i d z c1 c2=>?_⟩
     .rw [cF,dG] at c1;obtain⟨x',c1,rfl⟩:=c1;exact(each i x' z c1 (by simpa using c2)).1
     rw [cF,dG] at c1;obtain⟨x',c1,rfl⟩:=c1;simpa using(each i x' z c1 (by simpa using c2)).2.2
    have:fT [D.ofList (xs.map (·.1))] t= .any:=by
     simp only [fT];rw [iR (by simp;omega)]
    rw [this];exact⟨.any _,.flat _ _ _ rfl⟩
   exact(hok''.obj n b cs h1 h2).keep (fun _ _ _ h=>h) (fun _ _ h=>h) fun b q hb=>⟨rfl,fun _ h=>h,by simp [hb,Fw]⟩
  exact hq.elim
 have out:LeavesInM Fence.wide 0 P fn a.tmps (fun e w'=>∃r σ' x g',e=Ending.returned x/\Q r σ'/\g'.bl= []/\Fr w g w' g'/\Ok w' g' (St.ofRes r σ') (fun t=>if t=0 then x else undef)) a.defers .returning w1:=by
  rcases hf1.mks with h0 | ⟨D,hB,h0,hD,hX⟩
  .rw [h0];exact main w1 hf1.toFr hok1
  rw [h0];refine⟨by simp,.inl ⟨D,_,rfl,run_takeDeferred hD,main _ ⟨hf1.os,hf1.tape,hf1.output,by simpa [World.putObj] using hf1.size,fun b hb hx=>?_,hf1.mono,hf1.bs⟩ (hok1.putObj hD rfl hX)⟩⟩;obtain⟨c1,c2,c3⟩:=hf1.keep b hb hx;exact⟨(World.putObj_at (by omega)).trans c1,c2,c3⟩
 cases e with
 | normal=>exact out
 | ret=>exact out
 | _=>exact hexit.elim
end
section
variable {P:Program}{st:St}{K:St->Prop}
def tG:Nat->List D->List (Nat×Slot)
 | _, []=> []
 | i,d::l=>(i,.d d)::tG (i+1) l
theorem Kv(l:List D):fT l=eK (tG 0 l):=by
 funext t;have:∀(l:List D) (i:Nat),(∀u,eK (tG i l) (i+u)=fT l u)/\∀u,u<i->eK (tG i l) u= .any:=by
  intro l;induction l with
  | nil=>intro i;exact⟨fun u=>by simp [tG,eK,fT],fun u _=>rfl⟩
  | cons d l ih =>
   intro i;refine⟨fun u=>?_,fun u hu=>?_⟩
   .simp only [tG,eK]
    match u with
    | 0=>simp [fT]
    | u+1=>
     rw [aD (by omega)];have:=(ih (i+1)).1 u;rw [show i+(u+1)=i+1+u by omega,this];simp [fT]
   simp only [tG,eK];rw [aD (by omega)];exact(ih (i+1)).2 u (by omega)
 have:=(this l 0).1 t;rw [eL] at this;exact this.symm
theorem aH5 {f : FuncId} {fn : Func} {cd : Code} {args : List D} {σ : List (List D)} {Q : D → List (List D) → Prop} {rs : List ResultVar} (hf : P.funcs[f]? = some fn) (hb : fn.body = some cd) (hname : (fn.name != "runtime.NumGoroutine") = true)
  (hn:fn.ntmps=n) (hrs:fn.results=rs.toArray) (hle:args.length<=n)
  (h:AWP P cd (aH P rs Q) (St.mk' n (tG 0 args) [] σ)):Ct P f args σ Q:=by
 refine aV9 hf hb hname ?_;rw [hn,hrs,Kv,show args.length+(n - args.length)=n by omega];exact h
theorem aBw(n:Nat)(l:List (Nat×Slot))(loc obj:List (List D)):(St.mk' n l loc obj).n=n:=rfl
theorem Ix(n:Nat)(l:List (Nat×Slot))(loc obj:List (List D)):(St.mk' n l loc obj).env=eK l:=rfl
theorem Jc(n:Nat)(l:List (Nat×Slot))(loc obj:List (List D)):(St.mk' n l loc obj).loc=loc:=rfl
theorem Je(n:Nat)(l:List (Nat×Slot))(loc obj:List (List D)):(St.mk' n l loc obj).obj=obj:=rfl
theorem sT(a:Nat)(s:Slot)(r:List (Nat×Slot))(t:Nat):eK ((a,s)::r) t=if t=a then s else eK r t:=rfl
theorem Ov(t:Nat):eK [] t= .any:=rfl
theorem aOv(n:Nat)(l:List (Nat×Slot))(loc obj:List (List D))(t:Nat)(s:Slot):(St.mk' n l loc obj).set t s=St.mk' n ((t,s)::l) loc obj:=rfl
theorem aI0(t:Nat)(s:Slot):st.put (some t) s=st.set t s:=rfl
theorem aLb(s:Slot):st.put none s=st:=rfl
theorem aMw(n:Nat)(l:List (Nat×Slot))(loc obj loc':List (List D)):({ St.mk' n l loc obj with loc:=loc' } :St)=St.mk' n l loc' obj:=rfl
theorem aJz(n:Nat)(l:List (Nat×Slot))(loc obj obj':List (List D)):({ St.mk' n l loc obj with obj:=obj' } :St)=St.mk' n l loc obj':=rfl
theorem aBr(t:Nat):st.rdS (.tmp t)=st.env t:=rfl
theorem aFo(v:Value):st.rdS (.const v)= .d (D.ofV v):=rfl
theorem aJ7(f:FuncId):st.rdS (.func f)= .d (.clo (.func f) [] []):=rfl
def Slot.toD:Slot->D
 | .d x=>x
 | .lref _ _=> .any
theorem aUv(t:Nat):st.rd (.tmp t)=(st.env t).toD:=by
 unfold St.rd;rw [aBr];cases st.env t <;> rfl
theorem aMz(v:Value):st.rd (.const v)=D.ofV v:=rfl
theorem yK(f:FuncId):st.rd (.func f)= .clo (.func f) [] []:=rfl
theorem aV7(d:D):(Slot.d d).toD=d:=rfl
theorem aM1(n o:Nat):(Slot.lref n o).toD= .any:=rfl
theorem aR2(k:IntKind)(n:Int):D.ofV (.int k n)= .v (.int k n):=rfl
theorem aN7(b:Bool):D.ofV (.bool b)= .v (.bool b):=rfl
theorem Zd(s:ByteArray):D.ofV (.string s)= .v (.string s):=rfl
theorem aPq:D.ofV (.slice none 0 0)= .sl true []:=rfl
theorem aO4:D.ofV (.pointer none)= .v (.pointer none):=rfl
theorem aQp(x:Value):D.strip (.v x)= .v x:=rfl
theorem aJ2(o:Bool)(es:List D):D.strip (.sl o es)= .sl false es:=rfl
theorem aFj(cs:List D):D.strip (.agg cs)= .agg (cs.map D.s1):=rfl
theorem aG6(cs:List D):D.strip (.adr cs)= .adr cs:=rfl
theorem aHl(n o:Nat):D.strip (.ref n o)= .ref n o:=rfl
theorem aDt:D.strip .any= .any:=rfl
theorem aGn(f:Go.Fn)(a b:List D):D.strip (.clo f a b)= .clo f a b:=rfl
theorem aZh(x:Value):D.s2 (.v x)= .v x:=rfl
theorem aWs(o:Bool)(es:List D):D.s2 (.sl o es)= .sl false es:=rfl
theorem aUq(cs:List D):D.s2 (.agg cs)= .agg (cs.map D.s1):=rfl
theorem aTy(cs:List D):D.s2 (.adr cs)= .adr cs:=rfl
theorem aVk(n o:Nat):D.s2 (.ref n o)= .ref n o:=rfl
theorem aTn:D.s2 .any= .any:=rfl
theorem aZv(x:Value):D.s1 (.v x)= .v x:=rfl
theorem aWm(o:Bool)(es:List D):D.s1 (.sl o es)= .sl false es:=rfl
theorem aUi(cs:List D):D.s1 (.adr cs)= .adr cs:=rfl
theorem aTg(n o:Nat):D.s1 (.ref n o)= .ref n o:=rfl
theorem aTv:D.s1 .any= .any:=rfl
theorem aQ5(x:Value):D.plain (.v x)=true:=rfl
theorem aJu(o:Bool)(es:List D):D.plain (.sl o es)=true:=rfl
theorem aD0(cs:List D):D.plain (.agg cs)=true:=rfl
theorem aEp(cs:List D):D.plain (.adr cs)=true:=rfl
theorem aHk(n o:Nat):D.plain (.ref n o)=true:=rfl
theorem aDw(f:Go.Fn)(a b:List D):D.plain (.clo f a b)=true:=rfl
theorem aE5:D.plain .any=true:=rfl
theorem aOw(x:Value):D.solid (.v x)=true:=rfl
theorem aI4(o:Bool)(es:List D):D.solid (.sl o es)=true:=rfl
theorem aF8(cs:List D):D.solid (.agg cs)=true:=rfl
theorem aFv(cs:List D):D.solid (.adr cs)=true:=rfl
theorem aFa(n o:Nat):D.solid (.ref n o)=true:=rfl
theorem aGr(f:Go.Fn)(a b:List D):D.solid (.clo f a b)=true:=rfl
theorem aKz(x:Value):D.ncells (.v x)=1:=rfl
theorem aDr(o:Bool)(es:List D):D.ncells (.sl o es)=1:=rfl
theorem Yx(cs:List D):D.ncells (.agg cs)=cs.length:=rfl
theorem Ye(n o:Nat):D.ncells (.ref n o)=1:=rfl
theorem aQ8(x:Value):D.cells (.v x)= [.v x]:=rfl
theorem aIe(o:Bool)(es:List D):D.cells (.sl o es)= [.sl o es]:=rfl
theorem aF4(cs:List D):D.cells (.agg cs)=cs:=rfl
theorem aDp(n o:Nat):D.cells (.ref n o)= [.ref n o]:=rfl
def Ws(d:Option Tmp)(st:St):Prop:=match d with | some d=>d<st.n | none=>True
theorem eJ(all:List Oper):qK P c all [] st K=K st:=rfl
theorem Ph(all r:List Oper)(d:Option Tmp)(op:Op)(ty:TypeId)(pos:String)(after:Array Edge)(j:Nat)(want:Bool):qK P c all (⟨d,op,ty,pos,after,some (j,want)⟩::r) st K=
  match aN all j with
   | some t=>match Hy (st.env t) want with
    | some b=>(b=want->Ws d st/\jE P c d op st fun st'=>qK P c all r st' K)/\(b= !want->Ws d st/\qK P c all r (st.put d .und) K)
    | none=>False
   | none=>False:=rfl
theorem aJc(d:Nat)(n:Nat)(l:List (Nat×Slot))(loc obj:List (List D)):Ws (some d) (St.mk' n l loc obj)=(d<n):=rfl
theorem aMo:Ws none st=True:=rfl
end
end Go.Vm
