import Derived.Test.YtbgfljpnhhdkoaaGreatVmX14
import Derived.OrdersIn
import Derived.RangeFuncLeaves
import Derived.RangeFuncCalls
namespace Go.Vm
open Go
set_option linter.all false
section
variable {P:Program}
def lW(P:Program)(dst:Option Tmp)(b:Builtin)(args:List Operand)(ts:List TypeId)(st:St)(K:St→Prop):Prop:=
 match b,args,ts with
 | .len, [x], [t]=>yW P dst t x st K
 | .append, [s,x], [t,t2]=>mI P dst t t2 s x st K
 | .min, [x,y],_=>pW false dst x y st K
 | .max, [x,y],_=>pW true dst x y st K
 | _,_,_=>False
def jS(P:Program)(c:Cfg)(dst:Option Tmp)(call:Call)(st:St)(K:St→Prop):Prop:=
 match call.callee with
 | .builtin b=>lW P dst b call.args.toList call.argTypes.toList st K
 | .value (.func f)=>match dst with
  | some d=>if c.take.contains d then kC P dst f call.args.toList st K else iC P dst (.func f) call.args.toList st K
  | none=>iC P dst (.func f) call.args.toList st K
 | .value f=>iC P dst f call.args.toList st K
 | .invoke r m=>nI P dst r m call.args.toList st K
def cN(P:Program)(c:Cfg)(dst:Option Tmp)(op:Op)(st:St)(K:St→Prop):Prop:=
 match op with
 | .move x=>fX c dst x st K
 | .assign x=>fX c dst x st K
 | .binOp b t x y _=>if rF y=true then zA P dst b t x st K else oZ P b t (st.rdS x) (st.rdS y) fun d=>K (st.put dst (.d d))
 | .unOp u _ x=>xL u (st.rd x) fun d=>K (st.put dst (.d d))
 | .load t x=>gO P c dst t x st K
 | .fieldAddr s x f=>iQ P dst s x f st K
 | .field s x f=>oI P dst s x f st K
 | .indexAddr t x i=>iP P dst t x i st K
 | .index t x i=>oM P dst t x i st K
 | .slice t x lo hi mx=>oN P dst t x lo hi mx st K
 | .pick a x y=>sC dst a x y st K
 | .extract x i=>kL c dst x i st K
 | .makeFunc f first caps=>Ev dst f first.toList caps.toList st K
 | .nilCheck x=>nY dst x st K
 | .convert s d x=>kI P dst s d x st K
 | .alloc e=>mZ P c dst e st K
 | .box _ x=>wZ c dst x st K
 | .store t a v=>qN P dst t a v st K
 | .build t parts=>oF P dst t parts.toList st K
 | .buildSlice t len parts=>gM P dst t len parts.toList st K
 | .call call=>jS P c dst call st K
 | .range t x=>oB P dst t x st K
 | .next x false=>rZ dst x st K
 | .entry x=>oQ dst x st K
 | _=>False
def vD:Op→Bool
 | .range _ _ | .next _ _ | .entry _=>true
 | _=>false
def aDi(dst:Option Tmp)(op:Op):Nat:=match dst,op with
 | some d,_=>d
 | none,.call ⟨_,args,_⟩=>match args.toList with
  | .tmp t::_=>t
  | _=>0
 | none,_=>0
def Gt(c:Cfg)(dst:Option Tmp)(op:Op):Bool:=c.xs.contains (aDi dst op)
def isY:Op→Bool
 | .lookup _ _ _ _=>true
 | .mapUpdate _ _ _ _=>true
 | .insert _ _ _ _=>true
 | .makeMap _ _=>true
 | .mapEntry _ _ _=>true
 | .entryStore _ _ _ _=>true
 | .makeInterface _ _=>true
 | .typeAssert _ _ _ _=>true
 | .call ⟨.builtin .delete,_,_⟩=>true
 | _=>false
def wE(c:Cfg)(dst:Option Tmp)(op:Op):Bool:=isY op || c.ys.contains (aDi dst op)
def Ep(c:Cfg)(dst:Option Tmp)(op:Op):Bool:=c.ys.contains (aDi dst op+1000000)
def fA(P:Program)(c:Cfg)(dst:Option Tmp)(op:Op)(st:St)(K:St→Prop):Prop:=if wE c dst op=true then vcY P (Ep c dst op) dst op st K else if Gt c dst op=true then Rc P dst op st K else cN P c dst op st K
def aEl(P:Program)(c:Cfg)(o:Oper)(st:St)(K:St→Prop):Prop:=cQ o st∧fA P c o.dst o.op st K
theorem aJb {α:Type} {a:Array α} {x:α} (h:a.toList= [x]):a=#[x]:=Array.toList_inj.1 h
theorem aDz {α:Type} {a:Array α} {x y:α} (h:a.toList= [x,y]):a=#[x,y]:=Array.toList_inj.1 h
theorem Eh {c:Cfg} {o:Oper} {st:St} {K:St→Prop} (h:aEl P c o st K):Does P o st K:=by
 obtain⟨hd,h⟩:=h;unfold fA at h;split at h
 ·exact Za hd h
 split at h
 ·exact aG8 hd h
 unfold cN at h;split at h
 ·rename_i x ho;exact Cv c x hd (.inl ho) h
 ·rename_i x ho;exact Cv c x hd (.inr ho) h
 ·rename_i op t x y yt ho;split at h
  ·rename_i hy;exact Hj op t x y yt hd ho hy h
  exact Ys op t x y yt hd ho h
 ·rename_i op t x ho;exact aFl op t x hd ho h
 ·rename_i t x ho;exact Bt c t x hd ho h
 ·rename_i s x f ho;exact Au s x f hd ho h
 ·rename_i s x f ho;exact Kp s x f hd ho h
 ·rename_i t x i ho;exact yZ t x i hd ho h
 ·rename_i t x i ho;exact Mv t x i hd ho h
 ·rename_i t x lo hi mx ho;exact Mg t x lo hi mx hd ho h
 ·rename_i a x y ho;exact Vb a x y hd ho h
 ·rename_i x i ho;exact Er c x i hd ho h
 ·rename_i f first caps ho;exact Re f first caps hd ho h
 ·rename_i x ho;exact Bm x hd ho h
 ·rename_i s d x ho;exact Fc s d x hd ho h
 ·rename_i e ho;exact Oe c e hd ho h
 ·rename_i e x ho;exact Yq c e x hd ho h
 ·rename_i t a v ho;exact Lu t a v hd ho h
 ·rename_i t parts ho;exact Nf t parts hd ho h
 ·rename_i t len parts ho;exact xK t len parts hd ho h
 ·rename_i call ho;obtain⟨callee,args,ts⟩:=call;unfold jS at h;simp only at h;split at h
  ·rename_i b;unfold lW at h;split at h
   ·rename_i x t h1 h2;rw [aJb h1,aJb h2] at ho;exact Zd t x hd ho h
   ·rename_i s x t t2 h1 h2;rw [aDz h1,aDz h2] at ho;exact Is t t2 s x hd ho h
   ·rename_i x y h1;rw [aDz h1] at ho;exact Hm false x y ts hd ho h
   ·rename_i x y h1;rw [aDz h1] at ho;exact Hm true x y ts hd ho h
   exact h.elim
  ·rename_i f;split at h
   ·split at h
    ·exact sD f args ts hd ho h
    exact iT _ args ts hd ho h
   exact iT _ args ts hd ho h
  ·exact iT _ args ts hd ho h
  exact Jo _ _ args ts hd ho h
 ·rename_i t x ho;exact Mz t x hd ho h
 ·rename_i x ho;exact Vd x hd ho h
 ·rename_i x ho;exact Mf x hd ho h
 exact h.elim
def fR(ro:Option Nat):Fence:= { Fence.wide with round:=ro }
theorem aGa {ro:Option Nat} {n:Nat} {o:Oper} {tmps:Array Value} {w:World} {K:Array Value→World→Prop} {Q:Exit→Act→World→Prop} (ds:List Deferred)(h:o.wp P ⟨tmps, []⟩ w (fun a w'=>a.defers= []∧K a.tmps w') (fun _ _ _=>False)):
  o.wpIn (fR ro) n P ⟨tmps,ds⟩ w (fun a w'=>a.defers=ds∧K a.tmps w') Q:=by
 refine⟨fun _ _=>trivial,?_⟩;have hput:∀(v:Value),((⟨tmps, []⟩:Act).put o.dst v).defers= []∧K ((⟨tmps, []⟩:Act).put o.dst v).tmps w→True:=fun _ _=>trivial;have put:∀(v:Value) (w':World),K ((⟨tmps, []⟩:Act).put o.dst v).tmps w'→((⟨tmps,ds⟩:Act).put o.dst v).defers=ds∧K ((⟨tmps,ds⟩:Act).put o.dst v).tmps w':=fun v w' hk=>by
  cases hd:o.dst with
  | none=>rw [hd] at hk;exact⟨rfl,hk⟩
  | some d=>rw [hd] at hk;exact⟨rfl,hk⟩
 have hsem:o.semAt (fR ro).round (⟨tmps,ds⟩:Act).eval=execOp (⟨tmps, []⟩:Act).eval o∨∃c,o.op= .defer c:=by
  by_cases hc:∃c,o.op= .defer c
  ·exact .inr hc
  exact .inl (Oper.semAt_eq _ _ _ fun c e=>hc ⟨c,e⟩)
 rcases hsem with hsem | ⟨c,hc⟩
 ·rw [hsem];unfold Oper.wp at h;generalize (execOp (⟨tmps, []⟩:Act).eval o).run P w=r at h;cases r with
  | ok x w' =>
   cases x with
   | value v=>exact put v w' h.2
   | skip=>exact put undef w' h.2
   | defer d=>simp only [Oper.upon] at h;exact absurd h.1 (by cases o.dst <;> simp [Act.put])
   | enter f args=>
    refine⟨fun hh=>by simp [fR,Fence.wide] at hh,?_⟩;have h1:CallsIn (fR ro) (n - 1) P f args w' _:=(callsIn_wide (n:=n - 1)).2 h;refine h1.mono fun e w'' he=>?_;cases e with
    | returned v=>exact put v w'' he.2
    | panicked ch=>exact he.elim
    | outgrown=>obtain⟨_,_,hh⟩:=he;exact hh.elim
   | row row args=>
    refine⟨fun hh=>by simp [fR,Fence.wide] at hh,fun c cs _=>?_⟩;obtain⟨v,w'',he,hs⟩:=h c cs;exact⟨v,w'',put v w'' he.2,stepsIn_wide.2 hs⟩
   | _=>exact h.elim
  | halt x w'=>cases x <;> exact h.elim
 exfalso;unfold Oper.wp at h;simp only [execOp,hc,Sem.run_bind] at h;generalize (resolve (⟨tmps, []⟩:Act).eval c o.type).run P w=r at h;cases r with
 | ok d w'=>simp only [Result.andThen,Sem.run_pure,Oper.upon] at h;exact absurd h.1 (by cases o.dst <;> simp [Act.put])
 | halt x w'=>cases x <;> exact h.elim
theorem Jy {F:Fence} {n:Nat} {c:Code} {Q:Exit→Act→World→Prop} (I:Nat→Act→World→Prop):∀(k:Nat) {a:Act} {w:World},I k a w→(∀k a w,I k a w→c.wpIn F n P (Exit.then (fun a' w'=>∃k',k'<k∧I k' a' w') Q) a w)→(Code.loop c).wpIn F n P Q a w:=by
 intro k0 a w h0 round;intro b kk cs hro hb hr;have key:∀j a w,I j a w→∃e a' w',Q e a' w'∧ArrivesIn (Machine.fenced P F) P (lone (b.atR a (.code c:: .inLoop c::kk)) cs w) b kk cs e a' w':=by
  intro j;induction j using Nat.strongRecOn with
  | _ j ih =>
   intro a w hI;obtain⟨e,a₁,w₁,hq,harr⟩:=round j a w hI b (.inLoop c::kk) cs hro hb hr;cases e with
   | normal=>
    obtain⟨k',hlt,hI₁⟩:=hq;obtain⟨e₂,a₂,w₂,hq₂,harr₂⟩:=ih k' hlt a₁ w₁ hI₁;exact⟨e₂,a₂,w₂,hq₂,.of_steps (StepsIn.trans harr (.one (fenced_calm hb hr rfl) stepR_inLoop)) harr₂⟩
   | exit id=>exact⟨_,a₁,w₁,hq,.pass (x:= .inLoop c) rfl (fun _ _=> .inl (by simp)) harr⟩
   | goto l=>exact⟨_,a₁,w₁,hq,.pass (x:= .inLoop c) rfl (fun _ _=> .inl (by simp)) harr⟩
   | ret=>exact⟨_,a₁,w₁,hq,.pass (x:= .inLoop c) rfl (fun _ _=> .inl (by simp)) harr⟩
   | panic ch=>exact⟨_,a₁,w₁,hq,.pass (x:= .inLoop c) rfl (fun _ _=> .inl (by simp)) harr⟩
   | outgrown=>exact⟨_,a₁,w₁,hq,.pass (x:= .inLoop c) rfl (fun _ _=> .inl (by simp)) harr⟩
 obtain⟨e,a',w',hq,harr⟩:=key k0 a w h0;exact⟨e,a',w',hq,.of_steps (.one (fenced_calm hb hr rfl) stepR_loop) harr⟩
def Mk(B:Nat)(w:World)(g:Gh)(ds:List Deferred):Prop:=ds= []∨∃D:Nat,B≤D∧ds= [{ target:= .collected D,args:=#[] }]∧w.heap[D]?=some (.deferred (some []))∧g.X D=none
structure FrM(ds:List Deferred)(w:World)(g:Gh)(w':World)(g':Gh):Prop extends Fr w g w' g' where
 mks:Mk w.heap.size w' g' ds
theorem Mk.fr {B:Nat} {w w':World} {g g':Gh} {ds:List Deferred} (h:Mk B w g ds)(k:Fr w g w' g'):Mk B w' g' ds:=by
 rcases h with h | ⟨D,h0,h1,h2,h3⟩
 ·exact .inl h
 obtain⟨a,b,_⟩:=k.keep D (Array.getElem?_eq_some_iff.1 h2).1 h3;exact .inr ⟨D,h0,h1,a.trans h2,b⟩
theorem FrM.of {w w':World} {g g':Gh} (h:Fr w g w' g'):FrM [] w g w' g':=⟨h,.inl rfl⟩
theorem Ok.turn {w w':World} {g:Gh} {st:St} {val:Nat→Value} (h:Ok w g st val)(hs:w.heap.size≤w'.heap.size)(hX:∀(b:Nat) (t:iJ),g.X b=some t→w'.heap[b]?=w.heap[b]?)
  (hM:∀(b o:Nat) (c:Value),g.M b o=some c→w'.cell? ⟨b,o,none⟩=w.cell? ⟨b,o,none⟩):Ok w' g st val:=
 ⟨fun b o c hc=>(hM b o c hc).trans (h.mem b o c hc),fun b t hb=>Nat.lt_of_lt_of_le (h.xlt b t hb) hs,fun t=>(h.slot t).keep (fun _ _ _ h=>h) (fun _ _ h=>h) (fun _ _ h=>h) fun b q hx=>⟨hX b _ hx,fun _ h=>h,hx⟩,h.ll,
  fun n b cs h1 h2=>(h.loc n b cs h1 h2).keep (fun _ _ _ h=>h) (fun _ _ h=>h) fun b q hx=>⟨hX b _ hx,fun _ h=>h,hx⟩,h.ol,
  fun n b cs h1 h2=>(h.obj n b cs h1 h2).keep (fun _ _ _ h=>h) (fun _ _ h=>h) fun b q hx=>⟨hX b _ hx,fun _ h=>h,hx⟩⟩
theorem World.cell_not {w:World} {b o:Nat} {ob:Obj} (h:w.heap[b]?=some ob)(hc:ob.isCells=false):w.cell? ⟨b,o,none⟩=none:=by
 unfold World.cell?;simp only [h];cases ob <;> first | rfl | simp [Obj.isCells] at hc
theorem World.putObj_at {w:World} {D b:Nat} {ob:Obj} (h:b≠D):(w.putObj D ob).heap[b]?=w.heap[b]?:=World.putObj_heap_other h
theorem Ok.putObj {w:World} {g:Gh} {st:St} {val:Nat→Value} (h:Ok w g st val) {D:Nat} {o o':Obj} (hD:w.heap[D]?=some o)(hc:o.isCells=false)(hX:g.X D=none):Ok (w.putObj D o') g st val:=by
 refine h.turn (by simp [World.putObj]) (fun b t hb=>World.putObj_at (by rintro rfl;rw [hX] at hb;cases hb)) fun b p c hm=>?_;have hne:b≠D:=by rintro rfl;have:=h.mem b p c hm;rw [World.cell_not hD hc] at this;cases this
 exact World.cell?_of_block (w:=w) (a:=⟨b,p,none⟩) (World.putObj_at hne)
theorem FrM.trans {ds:List Deferred} {w w1 w2:World} {g g1 g2:Gh} (h:FrM ds w g w1 g1)(k:Fr w1 g1 w2 g2):FrM ds w g w2 g2:=⟨h.toFr.trans k,h.mks.fr k⟩
def aN(all:List Oper)(j:Nat):Option Tmp:=(all[j]?).bind (·.dst)
abbrev Slot.und:Slot:= .d (.tup [])
def xI(s:Slot)(want:Bool):Option Bool:=match s with
 | .d (.v (.bool b))=>some b
 | .d (.tup [])=>some (!want)
 | _=>none
def lE (P : Program) (c : Cfg) (all : List Oper) : List Oper → St → (St → Prop) → Prop
 | [],st,K=>K st
 | o :: r, st, K => match o.guard with
  | none=>aEl P c o st fun st'=>lE P c all r st' K
  | some (j, want) => match aN all j with
   | some t=>match xI (st.env t) want with
    | some b=>(b=want→aEl P c o st fun st'=>lE P c all r st' K)∧(b= !want→cQ o st∧lE P c all r (st.put o.dst .und) K)
    | none=>False
   | none=>False
def vS(ds:List Deferred)(w0:World)(g0:Gh)(Q:Exit→St→Prop):Exit→Act→World→Prop:=fun e a w'=>
 (e≠ .ret→a.defers=ds)∧∃st' g',Q e st'∧FrM a.defers w0 g0 w' g'∧Ok w' g' st' (bM a.tmps)∧a.tmps.size=st'.n
def dI(ro:Option Nat)(ds:List Deferred)(P:Program)(c:Code)(Q:Exit→St→Prop)(st:St):Prop:=
 ∀(w0:World) (g0:Gh) (w:World) (g:Gh) (tmps:Array Value),FrM ds w0 g0 w g→Ok w g st (bM tmps)→tmps.size=st.n→c.wpIn (fR ro) 0 P (vS ds w0 g0 Q) ⟨tmps,ds⟩ w
abbrev AWP:=dI none []
variable {ro:Option Nat} {ds:List Deferred}
theorem Ny {all:List Oper} {j t:Nat} {b:Bool} {w:World} {g:Gh} {st:St} {tmps:Array Value} (hok:Ok w g st (bM tmps))(hg:aN all j=some t)(hs:st.env t= .d (.v (.bool b))):yielded all.toArray tmps j=some b:=by
 have hsl:=hok.slot t;rw [hs] at hsl;have hv:bM tmps t= .bool b:=hsl.1.vEq;unfold aN at hg;unfold yielded;simp only [List.getElem?_toArray];rw [hg];simp only [Option.bind_some];unfold bM at hv;rw [Array.getD_eq_getD_getElem?] at hv;cases ht:tmps[t]? with
 | none=>rw [ht] at hv;simp [undef] at hv
 | some v=>rw [ht] at hv;simp at hv;rw [hv]
theorem vX {all:List Oper} {j t:Nat} {b want:Bool} {w:World} {g:Gh} {st:St} {tmps:Array Value} (hok:Ok w g st (bM tmps))(hg:aN all j=some t)(hs:xI (st.env t) want=some b):(yielded all.toArray tmps j==some want)=(b==want):=by
 unfold xI at hs;split at hs
 ·rename_i b' he;simp only [Option.some.injEq] at hs;subst hs;rw [Ny hok hg he];rfl
 ·rename_i he;simp only [Option.some.injEq] at hs;subst hs;have hsl:=hok.slot t;rw [he] at hsl;obtain⟨hr,_⟩:=hsl;have hv:bM tmps t= .tuple #[]:=by
   generalize bM tmps t=v at hr;cases hr with
   | tup cs vs hl hr=>simp at hl;rw [hl]
  have:yielded all.toArray tmps j=none:=by
   unfold aN at hg;unfold yielded;simp only [List.getElem?_toArray];rw [hg];simp only [Option.bind_some];unfold bM at hv;rw [Array.getD_eq_getD_getElem?] at hv;cases ht:tmps[t]? with
   | none=>rfl
   | some v=>rw [ht] at hv;simp at hv;rw [hv]
  rw [this];cases want <;> rfl
 cases hs
theorem Zr {w:World} {g:Gh} (t:Nat):SlotOk w g t .und undef:=
 ⟨.tup [] #[] rfl (fun i d x h _=>by simp at h),.tup [] [] #[] (fun i d x h _=>by simp at h)⟩
theorem wJ {c:Cfg} {all:List Oper} {w0:World} {g0:Gh} {Q:Exit→St→Prop} :∀(r:List Oper) (k:Nat) (st:St) (w:World) (g:Gh) (tmps:Array Value),(∀j,r[j]?=all[k+j]?)→lE P c all r st (Q .normal)→FrM ds w0 g0 w g→Ok w g st (bM tmps)→tmps.size=st.n→
  wpOpsIn (fR ro) 0 P all.toArray (vS ds w0 g0 Q) ((List.range r.length).map (k+ ·)) ⟨tmps,ds⟩ w
 | [],k,st,w,g,tmps,_,h,hf,hok,hn=>⟨fun _=>rfl,st,g,h,hf,hok,hn⟩
 | o :: r, k, st, w, g, tmps, hr, h, hf, hok, hn => by
  have ho:all.toArray[k]?=some o:=by
   have:=hr 0;simpa using this.symm
  have hr':∀j,r[j]?=all[k+1+j]?:=fun j=>by
   have:=hr (j+1);simpa [Nat.add_assoc,Nat.add_comm 1] using this
  have hl:(List.range (o::r).length).map (k+ ·)=k::(List.range r.length).map (k+1+ ·):=by
   simp only [List.length_cons,List.range_succ_eq_map,List.map_cons,List.map_map,Nat.add_zero];congr 1;apply List.map_congr_left;intro x _;simp;omega
  rw [hl];simp only [wpOpsIn,ho];have run:aEl P c o st (fun st'=>lE P c all r st' (Q .normal))→o.wpIn (fR ro) 0 P ⟨tmps,ds⟩ w (wpOpsIn (fR ro) 0 P all.toArray (vS ds w0 g0 Q) ((List.range r.length).map (k+1+ ·))) (vS ds w0 g0 Q):=by
   intro h;have hd:=Eh h w g tmps hok hn;refine Oper.wpIn_mono (fun a w'=>?_) (aGa (K:=fun tmps' w'=>∃st' g',lE P c all r st' (Q .normal)∧Fr w g w' g'∧Ok w' g' st' (bM tmps')∧tmps'.size=st'.n∧g'.bl.take g.bl.length=g.bl) ds hd);rintro⟨hdf,st',g',hK,hf',hok',hn',_⟩;obtain⟨tmps',ds'⟩:=a;simp only at hdf;rw [hdf];exact wJ r (k+1) st' w' g' tmps' hr' hK (hf.trans hf') hok' hn'
  unfold lE at h;split at h
  ·rename_i hg;have:Region.wanted o (yielded all.toArray tmps)=true:=by simp [Region.wanted,hg]
   rw [if_pos this];exact run h
  rename_i j want hg;split at h
  ·rename_i t ht;split at h
   ·rename_i b hs;have hy:=vX (all:=all) (j:=j) hok ht hs;by_cases hb:b=want
    ·have:Region.wanted o (yielded all.toArray tmps)=true:=by simp [Region.wanted,hg,hy,hb]
     rw [if_pos this];exact run (h.1 hb)
    have:¬Region.wanted o (yielded all.toArray tmps)=true:=by simp [Region.wanted,hg,hy,hb]
    rw [if_neg this];have hb':b= !want:=by cases b <;> cases want <;> simp_all
    obtain⟨hd,h2⟩:=h.2 hb';have hdst:∀d,o.dst=some d→d<tmps.size:=by
     intro d hd';have hd2:d<st.n:=by simpa [cQ,hd'] using hd
     rw [hn];exact hd2
    have hp:=hok.put o.dst .und undef (fun t _=>Zr t);have e:=tL tmps ds o.dst undef hdst;have hds:=mA ⟨tmps,ds⟩ o.dst undef;have hsz:=qE ⟨tmps,ds⟩ o.dst undef;refine⟨fun _ _=>trivial,?_⟩;generalize hA:(⟨tmps,ds⟩:Act).put o.dst undef=A at *;obtain⟨tmps',ds'⟩:=A;simp only at hds hsz e;rw [hds];exact wJ r (k+1) _ w g tmps' hr' h2 hf (by rw [e];exact hp) (by rw [hsz,Iq];exact hn)
   exact h.elim
  exact h.elim
theorem Kz {c:Cfg} {id:Nat} {ops:List Oper} {Q:Exit→St→Prop} {st:St} (h:∀K:St→Prop,(∀s,Q .normal s→K s)→lE P c ops ops st K):dI ro ds P (.region id ops.toArray false) Q st:=by
 intro w0 g0 w g tmps hf hok hn;refine wpIn_region ?_;have:=wJ (P:=P) (ro:=ro) (ds:=ds) (c:=c) (all:=ops) (w0:=w0) (g0:=g0) (Q:=Q) ops 0 st w g tmps (fun j=>by simp) (h _ fun _ h=>h) hf hok hn;simpa using this
theorem aE {Q:Exit→St→Prop} {st:St} (h:Q .normal st):dI ro ds P .skip Q st:=
 fun _ _ _ g _ hf hok hn=>wpIn_skip ⟨fun _=>rfl,st,g,h,hf,hok,hn⟩
theorem bA {id:Nat} {Q:Exit→St→Prop} {st:St} (h:Q (.exit id) st):dI ro ds P (.exit id) Q st:=
 fun _ _ _ g _ hf hok hn=>wpIn_exit ⟨fun _=>rfl,st,g,h,hf,hok,hn⟩
theorem aB {Q:Exit→St→Prop} {st:St} (h:Q .ret st):dI ro ds P .ret Q st:=
 fun _ _ _ g _ hf hok hn=>wpIn_ret ⟨fun _=>rfl,st,g,h,hf,hok,hn⟩
def Oj(ro:Option Nat)(ds:List Deferred)(P:Program)(y:Code)(Q:Exit→St→Prop):Exit→St→Prop
 | .normal,s=>dI ro ds P y Q s
 | e,s=>Q e s
theorem aC {x y:Code} {Q:Exit→St→Prop} {st:St} (h:dI ro ds P x (Oj ro ds P y Q) st):dI ro ds P (.seq x y) Q st:=by
 intro w0 g0 w g tmps hf hok hn;refine wpIn_seq (wpIn_mono (h w0 g0 w g tmps hf hok hn) ?_);rintro e ⟨tmps',ds'⟩ w' ⟨hd,st',g',hq,hf',hok',hn'⟩;cases e with
 | normal=>
  have hd:=hd (by simp);simp only at hd;subst hd;exact hq w0 g0 w' g' tmps' hf' hok' hn'
 | _=>exact⟨hd,st',g',hq,hf',hok',hn'⟩
theorem bD {x:Operand} {a b:Code} {t:Bool} {Q:Exit→St→Prop} {st:St} (hx:st.rd x= .v (.bool t))(h1:t=true→dI ro ds P a Q st)(h2:t=false→dI ro ds P b Q st):dI ro ds P (.cond x a b) Q st:=by
 intro w0 g0 w g tmps hf hok hn;have hr:=hok.rd x;rw [hx] at hr;exact wpIn_cond_split hr.vEq (fun ht=>h1 ht w0 g0 w g tmps hf hok hn) (fun ht=>h2 ht w0 g0 w g tmps hf hok hn)
def uP(id:Nat)(Q:Exit→St→Prop):Exit→St→Prop
 | .exit id',s=>if id'=id then Q .normal s else Q (.exit id') s
 | e,s=>Q e s
theorem aH {id:Nat} {x:Code} {Q:Exit→St→Prop} {st:St} (h:dI ro ds P x (uP id Q) st):dI ro ds P (.block id x) Q st:=by
 intro w0 g0 w g tmps hf hok hn;refine wpIn_block (wpIn_mono (h w0 g0 w g tmps hf hok hn) ?_);rintro e a w' ⟨hd,st',g',hq,hrest⟩;cases e with
 | exit id'=>
  simp only [Exit.inBlock];simp only [uP] at hq;split
  ·rename_i e;rw [if_pos e] at hq;exact⟨fun _=>hd (by simp),st',g',hq,hrest⟩
  rename_i e;rw [if_neg e] at hq;exact⟨hd,st',g',hq,hrest⟩
 | _=>exact⟨hd,st',g',hq,hrest⟩
def Bj(n:Nat):Slot→Slot→Prop
 | _,.d .any=>True
 | .lref m off,s=>s= .lref m off∧m<n
 | .d (.sl true es),s=>s= .d (.sl true es)∨s= .d (.sl false es)
 | .d x,s=>s= .d x
structure Weak(st st':St):Prop where
 n:st.n=st'.n
 env:∀t,Bj st'.loc.length (st.env t) (st'.env t)
 loc:st'.loc<+:st.loc
 obj:st'.obj=st.obj
theorem Ok.weak {w:World} {g:Gh} {st st':St} {val:Nat→Value} (h:Ok w g st val)(hw:Weak st st'):∃g',Fr w g w g'∧Ok w g' st' val:=by
 obtain⟨rest,hloc⟩:=hw.loc;have hlen:st'.loc.length≤g.bl.length:=by rw [h.ll,← hloc];simp
 refine⟨{ g with bl:=g.bl.take st'.loc.length },⟨rfl,rfl,rfl,Nat.le_refl _,fun b _ hx=>⟨rfl,hx,fun _=>rfl⟩,fun _ _ _ h=>h,fun _ _ h=>h⟩,⟨h.mem,h.xlt,fun t=>?_,by rw [List.length_take];omega,fun n b cs h1 h2=>?_,by rw [hw.obj];exact h.ol,fun n b cs h1 h2=>?_⟩⟩
 ·have hs:=h.slot t;have hl:=hw.env t;generalize st.env t=s at hs hl;generalize st'.env t=s' at hl;have any:SlotOk w { g with bl:=g.bl.take st'.loc.length } t .any (val t):=⟨.any _,.flat _ _ _ rfl⟩;unfold Bj at hl;split at hl
  ·exact any
  ·rename_i m off _;obtain⟨rfl,hm⟩:=hl;obtain⟨b,hb,hv⟩:=hs;exact⟨b,by simp [List.getElem?_take,hm,hb],hv⟩
  ·rename_i es _;rcases hl with rfl | rfl
   ·exact hs
   exact⟨hs.1.s1,.flat _ _ _ rfl⟩
  subst hl;exact hs
 ·simp only at h1;rw [List.getElem?_take] at h1;split at h1
  ·refine h.loc n b cs h1 ?_;rw [← hloc,List.getElem?_append_left (by exact(List.getElem?_eq_some_iff.1 h2).1)];exact h2
  cases h1
 rw [hw.obj] at h2;exact h.obj n b cs h1 h2
def cO:List (Nat×Slot)→Nat→Slot
 | [],_=> .any
 | (a,s)::r,t=>if t=a then s else cO r t
def St.mk'(n:Nat)(l:List (Nat×Slot))(loc obj:List (List D)):St:= { n,env:=cO l,loc,obj }
theorem xW {st:St} {n:Nat} {l:List (Nat×Slot)} {loc obj:List (List D)} (hn:st.n=n)(hl:∀p∈l,Bj loc.length (st.env p.1) p.2)(hloc:loc<+:st.loc)(hobj:st.obj=obj):Weak st (St.mk' n l loc obj):=by
 refine⟨hn,fun t=>?_,hloc,hobj.symm⟩;show Bj loc.length (st.env t) (cO l t)
 induction l with
 | nil=>unfold cO Bj;split <;> simp_all
 | cons p l ih=>
  obtain⟨a,s⟩:=p;unfold cO;split
  ·rename_i e;subst e;exact hl (t,s) (by simp)
  exact ih (fun q hq=>hl q (by simp [hq]))
def sU {α:Type} (S:α→St)(p:α→Prop)(m:α→Nat)(x:α)(Q:Exit→St→Prop):Exit→St→Prop
 | .normal,s=>∃y,p y∧m y<m x∧Weak s (S y)
 | e,s=>Q e s
theorem zU {α:Type} (S:α→St)(p:α→Prop)(m:α→Nat)(x0:α) {body:Code} {Q:Exit→St→Prop} {st:St} (hw:Weak st (S x0))(hp:p x0)(h:∀x,p x→dI ro ds P body (sU S p m x Q) (S x)):dI ro ds P (.loop body) Q st:=by
 intro w0 g0 w g tmps hf hok hn;have key:∀k (a:Act) (w:World),(a.defers=ds∧∃x g,p x∧m x=k∧FrM ds w0 g0 w g∧Ok w g (S x) (bM a.tmps)∧a.tmps.size=(S x).n)→
   body.wpIn (fR ro) 0 P (Exit.then (fun a' w'=>a'.defers=ds∧∃k',k'<k∧∃x g,p x∧m x=k'∧FrM ds w0 g0 w' g∧Ok w' g (S x) (bM a'.tmps)∧a'.tmps.size=(S x).n) (vS ds w0 g0 Q)) a w:=by
  rintro k ⟨tmps,ds'⟩ w ⟨hd,x,g,hp,hm,hf,hok,hn⟩;simp only at hd;subst hd;refine wpIn_mono (h x hp w0 g0 w g tmps hf hok hn) ?_;rintro e a' w' ⟨hd',st',g',hq,hf',hok',hn'⟩;cases e with
  | normal=>
   obtain⟨y,hy,hlt,hwk⟩:=hq;obtain⟨g'',hf'',hok''⟩:=hok'.weak hwk;have hd':=hd' (by simp);rw [hd'] at hf';exact⟨hd',m y,by omega,y,g'',hy,rfl,hf'.trans hf'',hok'',by rw [hn',hwk.n]⟩
  | _=>exact⟨hd',st',g',hq,hf',hok',hn'⟩
 obtain⟨g1,hf1,hok1⟩:=hok.weak hw;exact Jy (fun k a w=>a.defers=ds∧∃x g,p x∧m x=k∧FrM ds w0 g0 w g∧Ok w g (S x) (bM a.tmps)∧a.tmps.size=(S x).n) (m x0)
  ⟨rfl,x0,g1,hp,rfl,hf.trans hf1,hok1,by rw [hn,hw.n]⟩ fun k a w hI=>wpIn_mono (key k a w hI) fun e a' w' he=>by
   cases e with
   | normal=>obtain⟨hd,k',hk,hrest⟩:=he;exact⟨k',hk,hd,hrest⟩
   | _=>exact he
end
end Go.Vm
