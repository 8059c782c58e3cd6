import Derived.Test.YtbdjepeabjangaaGreatVmX13
import Derived.Maps.RangeRun
import Derived.OrdersIn
import Derived.RangeFuncLeaves
import Derived.RangeFuncCalls
set_option linter.all false
namespace Go.Vm
open Go
variable {Q:Exit->Act->World->Prop}{all:List Oper}{b n t:Nat}{c:Cfg}{ds:List Deferred}{dst:Option Tmp}{g:Gh}{o:Oper}{tmps:Array Value}{val:Nat->Value}{w w':World}{x:Operand}{α:Type}
section
variable {P:Program}
def qO(P:Program)(dst:Option Tmp)(t:TypeId)(x:Operand)(st:St)(K:St->Prop):Prop:=
 match dst,st.rdS x,mpI P t with
 | some d,.d (.mref N),some (kd,_)=>∃m i clock kvs,vV st.obj m i N kd clock kvs/\K (st.set d (.d (.mit N clock [] clock)))
 | _,_,_=>False
def aHl(kvs:List (Value×Nat×D))(d t N clock:Nat)(seen:List Nat)(st:St)(K:St->Prop):Prop:=
 (kvs.map fun e=>e.2.1).Nodup->((∀(j s:Nat) (key:Value) (dv:D),kvs[j]?=some (key,s,dv)->s∈seen)->K (st.set d (.d (.tup [.bool false]))))/\
 ∀(j s:Nat) (key:Value) (dv:D),kvs[j]?=some (key,s,dv)->s∉seen->K ((st.set t (.d (.mit N clock (seen++ [s]) clock))).set d (.d (.tup [.bool true,.any,.any])))
def vH(dst:Option Tmp)(x:Operand)(st:St)(K:St->Prop):Prop:=
 match dst,x with
 | some d,.tmp t=>match st.env t with
  | .d (.mit N since seen last)=>∃m i kd clock kvs,(vV st.obj m i N kd clock kvs/\since=clock/\last=clock/\d≠t)/\aHl kvs d t N clock seen st K
  | _=>False
 | _,_=>False
def qW(dst:Option Tmp)(x:Operand)(st:St)(K:St->Prop):Prop:=
 match dst,x with
 | some d,.tmp t=>match st.env t with
  | .d (.mit N since seen last)=>∃(m i:Nat) (kd:TypeDesc) (clock:Nat) (kvs:List (Value×Nat×D)) (seen':List Nat) (s:Nat) (key:Value) (dv:D) (j:Nat),(vV st.obj m i N kd clock kvs/\last=clock/\seen=seen'++ [s]/\kvs[j]?=some (key,s,dv)/\key.oneCell'=true)/\K (st.set d (.d (.tup [.v key,dv])))
  | _=>False
 | _,_=>False
theorem Gq {t:TypeId} {st:St} {K K':St->Prop} (hk:∀s,K s->K' s)(h:qO P dst t x st K):qO P dst t x st K':=by
 unfold qO at h |-;split at h
 .obtain⟨m,i,c,kvs,h1,h2⟩:=h;exact⟨m,i,c,kvs,h1,hk _ h2⟩
 exact h.elim
theorem Lb {st:St} {K K':St->Prop} (hk:∀s,K s->K' s)(h:vH dst x st K):vH dst x st K':=by
 unfold vH at h |-;split at h
 .split at h
  .obtain⟨m,i,kd,c,kvs,h1,h2⟩:=h;exact⟨m,i,kd,c,kvs,h1,fun hn=>⟨fun a=>hk _ ((h2 hn).1 a),fun j s key dv a b=>hk _ ((h2 hn).2 j s key dv a b)⟩⟩
  exact h.elim
 exact h.elim
theorem Ix {st:St} {K K':St->Prop} (hk:∀s,K s->K' s)(h:qW dst x st K):qW dst x st K':=by
 unfold qW at h |-;split at h
 .split at h
  .obtain⟨m,i,kd,c,kvs,s',s,key,dv,j,h1,h2⟩:=h;exact⟨m,i,kd,c,kvs,s',s,key,dv,j,h1,hk _ h2⟩
  exact h.elim
 exact h.elim
theorem Ok.newIt {st:St} (h:Ok w g st val)(d N clock bm:Nat)(hbm:g.bs[N]?=some bm):
  Ok (w.alloc (.mapIter (some bm) clock #[] clock)) { g with X:=(fun b=>if b=w.heap.size then some (.slot d, [])else g.X b) } (st.set d (.d (.mit N clock [] clock))) (fun u=>if u=d then .pointer (some ⟨w.heap.size,0,none⟩)else val u)/\
   Fr w g (w.alloc (.mapIter (some bm) clock #[] clock)) { g with X:=(fun b=>if b=w.heap.size then some (.slot d, [])else g.X b) } :=by
 have hk:∀(hd:Holder) (b:Nat) (q:List Nat),g.X b=some (hd,q)->(w.alloc (.mapIter (some bm) clock #[] clock)).heap[b]?=w.heap[b]?/\(∀o,g.M b o=none->g.M b o=none)/\(if b=w.heap.size then some (Holder.slot d, [])else g.X b)=some (hd,q):=by
  intro hd b q hb;have:=h.xlt b _ hb;exact⟨kK w _ this,fun o ho=>ho,by rw [aG (by omega)];exact hb⟩
 have base:Ok (w.alloc (.mapIter (some bm) clock #[] clock)) { g with X:=(fun b=>if b=w.heap.size then some (.slot d, [])else g.X b) } st val:=by
  refine⟨fun b o c hc=>?_,fun b t hb=>?_,fun t=>(h.slot t).keep (fun _ _ _ h=>h) (fun _ _ h=>h) (fun _ _ h=>h) (hk _),h.ll,fun n b ds h1 h2=>(h.loc n b ds h1 h2).keep (fun _ _ _ h=>h) (fun _ _ h=>h) (hk _),h.ol,fun n b ds h1 h2=>(h.obj n b ds h1 h2).keep (fun _ _ _ h=>h) (fun _ _ h=>h) (hk _)⟩
  .have:=h.mlt hc;rw [World.cell?_alloc_lt w _ ⟨b,o,none⟩ this];exact h.mem b o c hc
  simp only at hb;simp only [World.size_alloc];split at hb
  .omega
  have:=h.xlt b t hb;omega
 refine⟨base.set d _ _ ⟨.mit _ _ _ _ w.heap.size,.mit _ _ _ _ _ _ ⟨w.heap.size,bm,rfl,hbm,by simp,oH w _,fun o=>h.newM o⟩⟩,rfl,rfl,rfl,by simp,fun b hb hx=>⟨kK w _ hb,?_,fun o=>rfl⟩,fun _ _ _ h=>h,fun _ _ h=>h⟩;simp only [aG (show ¬b=w.heap.size by omega)];exact hx
theorem Qa {st:St} {K:St->Prop} (t:TypeId)(x:Operand)(hd:dD o st)(ho:o.op= .range t x)(h:qO P o.dst t x st K):Does P o st K:=by
 unfold qO at h;split at h
 .rename_i d N kd z hdst hx hmp;obtain⟨m,i,clock,kvs,hh,hK⟩:=h;obtain⟨kt,et,ti,u1,u2,u3,u4⟩:=oU hmp;refine bE hd fun w g tmps hok=>?_;have hrx:=hok.rd x;rw [cS hx] at hrx;obtain⟨bl,es,hv,o1,o2,o3,o4,o5,o6,o7⟩:=vB hok hh hrx;obtain⟨q1,q2⟩:=hok.newIt d N clock bl o7;rw [hdst];refine⟨.pointer (some ⟨w.heap.size,0,none⟩),_,_,_,.inl ?_,hK,q2,q1,rfl,by simp⟩;simp [execOp,ho,Instr.range,hv,run_underlying u1,MapKept.run_getObj_map o2,newObj];rfl
 exact h.elim
theorem Ok.stepIt {st:St} (h:Ok w g st val) {N since last clock bm:Nat} {seen seen':List Nat} (hX:g.X b=some (.slot t, []))(hb:w.heap[b]?=some (.mapIter (some bm) since seen.toArray last))(hM:∀o,g.M b o=none)(hbn:g.bs[N]?=some bm)(hv:val t= .pointer (some ⟨b,0,none⟩)):
  Ok (ChangeMaps.setBlock w b (.mapIter (some bm) since seen'.toArray clock)) g (st.set t (.d (.mit N since seen' clock))) val/\Fr w g (ChangeMaps.setBlock w b (.mapIter (some bm) since seen'.toArray clock)) g:=by
 have hlt:b<w.heap.size:=(cZ.1 hb).1;have hself:(w.heap.setIfInBounds b (.mapIter (some bm) since seen'.toArray clock))[b]?=some (.mapIter (some bm) since seen'.toArray clock):=by rw [uA];simp [hlt]
 have hoth:∀b',b'≠b->(w.heap.setIfInBounds b (.mapIter (some bm) since seen'.toArray clock))[b']?=w.heap[b']?:=fun b' hne=>by rw [uA,aG (Ne.symm hne)]
 have other:∀(hd:Holder),hd≠ .slot t->∀(b':Nat) (q:List Nat),g.X b'=some (hd,q)->(w.heap.setIfInBounds b (.mapIter (some bm) since seen'.toArray clock))[b']?=w.heap[b']?/\(∀o,g.M b' o=none->g.M b' o=none)/\g.X b'=some (hd,q):=fun hd hne' b' q hq=>by
  have:b'≠b:=by rintro rfl;rw [hX] at hq;simp only [aP,fK] at hq;exact hne' hq.1.symm
  exact⟨hoth b' this,fun _ h=>h,hq⟩
 refine⟨⟨fun b' o c hc=>?_,fun b' t ht=>?_,fun u=>?_,h.ll,fun n b' ds a1 a2=>(h.loc n b' ds a1 a2).keep (fun _ _ _ h=>h) (fun _ _ h=>h) (other _ (by simp)),h.ol,fun n b' ds a1 a2=>(h.obj n b' ds a1 a2).keep (fun _ _ _ h=>h) (fun _ _ h=>h) (other _ (by simp))⟩,⟨rfl,rfl,rfl,by simp [ChangeMaps.setBlock],fun b' hb' hx'=>?_,fun _ _ _ h=>h,fun _ _ h=>h⟩⟩
 .have hne':b'≠b:=by intro e;subst e;rw [hM] at hc;cases hc
  rw [World.cell?_of_block (w:=w) (a:=⟨b',o,none⟩) (hoth b' hne')];exact h.mem b' o c hc
 .have:=h.xlt b' t ht;simpa [ChangeMaps.setBlock] using this
 .by_cases e:u=t
  .subst e;rw [hv];show SlotOk _ g u ((st.set u (.d (.mit N since seen' clock))).env u) _
   simp only [St.set,aJ];exact⟨.mit _ _ _ _ b,.mit _ _ _ _ _ _ ⟨b,bm,rfl,hbn,hX,hself,hM⟩⟩
  show SlotOk _ g u ((st.set t (.d (.mit N since seen' clock))).env u) _
  simp only [St.set,aG e];exact(h.slot u).keep (fun _ _ _ h=>h) (fun _ _ h=>h) (fun _ _ h=>h) (other _ (by simp;exact e))
 have:b'≠b:=by intro e;subst e;rw [hX] at hx';cases hx'
 exact⟨hoth b' this,hx',fun _=>rfl⟩
theorem Vl {st:St} {K:St->Prop} (x:Operand)(hd:dD o st)(ho:o.op= .next x false)(h:vH o.dst x st K):Does P o st K:=by
 unfold vH at h;split at h
 .rename_i d t hdst;split at h
  .rename_i N since seen last henv;obtain⟨m,i,kd,clock,kvs,⟨hh,rfl,rfl,hne⟩,hKK⟩:=h;refine bE hd fun w g tmps hok=>?_;have hsl:=hok.slot t;rw [henv] at hsl;obtain⟨hR,hO⟩:=hsl;cases hO with
   | flat _ _ _ hf=>simp [D.flat] at hf
   | mit _ _ _ _ _ _ hit =>
    obtain⟨b,bm,hv,hbn,hX,hb,hM⟩:=hit;obtain⟨bl,es,hv2,o1,o2,o3,o4,o5,o6,o7⟩:=vB hok hh (v:= .map (some bm)) (.mref _ _ hbn);simp only [Value.map.injEq,aP] at hv2;subst hv2;have hev:ev tmps (.tmp t)= .pointer (some ⟨b,0,none⟩):=hv;have hkn:(kvs.map fun e=>e.2.1).Nodup:=by
     have:(kvs.map fun e=>e.2.1)=es.toList.map (·.born):=by
      refine List.ext_getElem (by simp [o4]) fun i h1 h2=>?_;simp only [cC,bF] at h1 h2;rcases hkv:kvs[i] with ⟨k,s,d⟩;have:=(o6 i k s d es[i] (by rw [aN h1,hkv]) (aV h2)).2.1;simp [hkv,this]
     rw [this];exact o5.1.2.1
    obtain⟨hK1,hK2⟩:=hKK hkn;have hrun:=run_next_at (P:=P) w o.type b bm last last seen.toArray es last hb o2 o5.1.1 (bD _);rw [hdst];rcases hrun with ⟨h0,hrun⟩ | ⟨e,he,w1,hw1,hrun⟩
    .refine⟨.tuple #[.bool false],w,g,_,.inl ?_,hK1 fun j s key dv hj=>?_,Fr.refl w g,hok.set d _ _ ⟨.tup _ _ rfl fun i d x a1 a2=>?_,.tup _ _ _ fun i d x a1 a2=>?_⟩,rfl,by simp⟩
     .simp [execOp,ho,hev,hrun,Sem.run_bind,Result.andThen]
     .have hlt:j<es.size:=by rw [o4];exact(aH.1 hj).1
      have hej:es[j]?=some es[j]:=aV hlt;obtain⟨_,hbs,_,_⟩:=o6 j key s dv _ hj hej;have hemp:leftOf es seen.toArray=#[]:=Eu h0;unfold leftOf at hemp;rw [Array.filter_eq_empty_iff] at hemp;have:=hemp es[j] (by simp);rw [<- hbs];simpa using this
     .match i with
      | 0=>simp at a1 a2;subst a1;subst a2;exact .v _ rfl
      | i+1=>simp at a1
     match i with
     | 0=>simp at a1 a2;subst a1;subst a2;exact .flat _ _ _ rfl
     | i+1=>simp at a1
    unfold leftOf at he;simp only [Array.toList_filter,iH,Array.mem_toList_iff] at he;obtain⟨he1,he2⟩:=he;obtain⟨j,hj,hej⟩:=Array.getElem_of_mem he1;obtain⟨s,dv,k1,k2,k3,k4⟩:=aBs o4 o6 j e (by rw [aV hj,hej]);have hns:¬e.born∈seen:=by simpa using he2
    have hok1:Ok w1 g st (bQ tmps):=by
     rcases hw1 with rfl | rfl
     .exact hok
     exact hok.drew
    have hfr1:Fr w g w1 g:=by
     rcases hw1 with rfl | rfl
     .exact Fr.refl _ _
     exact Fr.drew w g
    have hb1:w1.heap[b]?=some (.mapIter (some bm) last seen.toArray last):=by
     rcases hw1 with rfl | rfl <;> exact hb
    obtain⟨p1,p2⟩:=hok1.stepIt (seen':=seen++ [s]) (clock:=last) hX hb1 hM hbn hv;rw [show(seen++ [s]).toArray=seen.toArray.push e.born by rw [k2];simp] at p1 p2;refine⟨.tuple #[.bool true,e.key,e.val],_,g,_,.inl ?_,hK2 j s e.key dv k1 (by rw [<- k2];exact hns),hfr1.trans p2,p1.set d _ _ ⟨.tup _ _ rfl fun i d x a1 a2=>?_,.tup _ _ _ fun i d x a1 a2=>?_⟩,rfl,by simp⟩
    .simp [execOp,ho,hev,hrun,Sem.run_bind,Result.andThen]
    .match i with
     | 0=>simp at a1 a2;subst a1;subst a2;exact .v _ rfl
     | 1=>simp at a1 a2;subst a1;exact .any _
     | 2=>simp at a1 a2;subst a1;exact .any _
     | i+3=>simp at a1
    match i with
    | 0=>simp at a1 a2;subst a1;subst a2;exact .flat _ _ _ rfl
    | 1=>simp at a1 a2;subst a1;exact .flat _ _ _ rfl
    | 2=>simp at a1 a2;subst a1;exact .flat _ _ _ rfl
    | i+3=>simp at a1
  exact h.elim
 exact h.elim
theorem Ot {st:St} {K:St->Prop} (x:Operand)(hd:dD o st)(ho:o.op= .entry x)(h:qW o.dst x st K):Does P o st K:=by
 unfold qW at h;split at h
 .rename_i d t hdst;split at h
  .rename_i N since seen last henv;obtain⟨m,i,kd,clock,kvs,seen',s,key,dv,j,⟨hh,rfl,rfl,hj,hone⟩,hK⟩:=h;refine bE hd fun w g tmps hok=>?_;have hsl:=hok.slot t;rw [henv] at hsl;obtain⟨hR,hO⟩:=hsl;cases hO with
   | flat _ _ _ hf=>simp [D.flat] at hf
   | mit _ _ _ _ _ _ hit =>
    obtain⟨b,bm,hv,hbn,hX,hb,hM⟩:=hit;obtain⟨bl,es,hv2,o1,o2,o3,o4,o5,o6,o7⟩:=vB hok hh (v:= .map (some bm)) (.mref _ _ hbn);simp only [Value.map.injEq,aP] at hv2;subst hv2;have hev:ev tmps (.tmp t)= .pointer (some ⟨b,0,none⟩):=hv;have hlt:j<es.size:=by rw [o4];exact(aH.1 hj).1
    have hej:es[j]?=some es[j]:=aV hlt;obtain⟨k1,k2,k3,k4⟩:=o6 j key s dv _ hj hej;have hrun:=run_entry_at (P:=P) w b bm since seen'.toArray es last es[j] (by rw [hb,k2];simp) o2 (by simp) o5.1.2.1;rw [hdst];refine⟨.tuple #[es[j].key,es[j].val],w,g,_,.inl ?_,hK,Fr.refl w g,hok.set d _ _ ⟨.tup _ _ rfl fun i d x a1 a2=>?_,.tup _ _ _ fun i d x a1 a2=>?_⟩,rfl,by simp⟩
    .simp [execOp,ho,hev,hrun,Sem.run_bind,Result.andThen]
    .match i with
     | 0=>simp at a1 a2;subst a1;subst a2;rw [k1];exact .v _ hone
     | 1=>simp at a1 a2;subst a1;subst a2;exact k3
     | i+2=>simp at a1
    match i with
    | 0=>simp at a1 a2;subst a1;exact .flat _ _ _ rfl
    | 1=>simp at a1 a2;subst a1;subst a2;exact Ht k3 k4
    | i+2=>simp at a1
  exact h.elim
 exact h.elim
end
section
variable {P:Program}
def nE(P:Program)(dst:Option Tmp)(b:Builtin)(args:List Operand)(ts:List TypeId)(st:St)(K:St->Prop):Prop:=
 match b,args,ts with
 | .len, [x], [t]=>Da P dst t x st K
 | .append, [s,x], [t,t2]=>oF P dst t t2 s x st K
 | .min, [x,y],_=>rM false dst x y st K
 | .max, [x,y],_=>rM true dst x y st K
 | _,_,_=>False
def lY(P:Program)(c:Cfg)(dst:Option Tmp)(call:Call)(st:St)(K:St->Prop):Prop:=
 match call.callee with
 | .builtin b=>nE P dst b call.args.toList call.argTypes.toList st K
 | .value (.func f)=>match dst with
  | some d=>if c.take.contains d then lC P dst f call.args.toList st K else jH P dst (.func f) call.args.toList st K
  | none=>jH P dst (.func f) call.args.toList st K
 | .value f=>jH P dst f call.args.toList st K
 | .invoke _ _=>False
def cY(P:Program)(c:Cfg)(dst:Option Tmp)(op:Op)(st:St)(K:St->Prop):Prop:=
 match op with
 | .move x=>iD c dst x st K
 | .assign x=>iD c dst x st K
 | .binOp b t x y _=>if tP y=true then Ba P dst b t x st K else rD P b t (st.rdS x) (st.rdS y) fun d=>K (st.put dst (.d d))
 | .unOp u _ x=>Ai u (st.rd x) fun d=>K (st.put dst (.d d))
 | .load t x=>iW P c dst t x st K
 | .fieldAddr s x f=>jN P dst s x f st K
 | .field s x f=>qY P dst s x f st K
 | .indexAddr t x i=>jQ P dst t x i st K
 | .index t x i=>qQ P dst t x i st K
 | .slice t x lo hi mx=>qZ P dst t x lo hi mx st K
 | .pick a x y=>uU dst a x y st K
 | .extract x i=>lV c dst x i st K
 | .makeFunc f first caps=>Hi dst f first.toList caps.toList st K
 | .nilCheck x=>qU dst x st K
 | .convert s d x=>lO P dst s d x st K
 | .alloc e=>pA P c dst e st K
 | .box _ x=>zJ c dst x st K
 | .store t a v=>sQ P dst t a v st K
 | .build t parts=>qS P dst t parts.toList st K
 | .buildSlice t len parts=>iU P dst t len parts.toList st K
 | .call call=>lY P c dst call st K
 | .range t x=>qO P dst t x st K
 | .next x false=>vH dst x st K
 | .entry x=>qW dst x st K
 | _=>False
def xL:Op->Bool
 | .range _ _ | .next _ _ | .entry _=>true
 | _=>false
def aGh(dst:Option Tmp)(op:Op):Nat:=match dst,op with
 | some d,_=>d
 | none,.call ⟨_,args,_⟩=>match args.toList with
  | .tmp t::_=>t
  | _=>0
 | none,_=>0
def Ij(c:Cfg)(dst:Option Tmp)(op:Op):Bool:=c.xs.contains (aGh dst op)
def isY:Op->Bool
 | .lookup _ _ _ _=>true
 | .mapUpdate _ _ _ _=>true
 | .insert _ _ _ _=>true
 | .makeMap _ _=>true
 | .mapEntry _ _ _=>true
 | .entryStore _ _ _ _=>true
 | .makeInterface _ _=>true
 | .typeAssert _ _ _ _=>true
 | .call ⟨.builtin .delete,_,_⟩=>true
 | _=>false
def yH(c:Cfg)(dst:Option Tmp)(op:Op):Bool:=isY op || c.ys.contains (aGh dst op)
def Ia(c:Cfg)(dst:Option Tmp)(op:Op):Bool:=c.ys.contains (aGh dst op+1000000)
def gK(P:Program)(c:Cfg)(dst:Option Tmp)(op:Op)(st:St)(K:St->Prop):Prop:=if yH c dst op=true then vcY P (Ia c dst op) dst op st K else if Ij c dst op=true then Vc P dst op st K else cY P c dst op st K
def aHa(P:Program)(c:Cfg)(o:Oper)(st:St)(K:St->Prop):Prop:=dD o st/\gK P c o.dst o.op st K
theorem aLx {a:Array α} {x:α} (h:a.toList= [x]):a=#[x]:=pL.1 h
theorem aG9 {a:Array α} {x y:α} (h:a.toList= [x,y]):a=#[x,y]:=pL.1 h
theorem Hm {st:St} {K:St->Prop} (h:aHa P c o st K):Does P o st K:=by
 obtain⟨hd,h⟩:=h;unfold gK at h;split at h
 .exact aDf hd h
 split at h
 .exact aJl hd h
 unfold cY at h;split at h
 .rename_i x ho;exact Es c x hd (.inl ho) h
 .rename_i x ho;exact Es c x hd (.inr ho) h
 .rename_i op t x y yt ho;split at h
  .rename_i hy;exact Mf op t x y yt hd ho hy h
  exact aDl op t x y yt hd ho h
 .rename_i op t x ho;exact aFs op t x hd ho h
 .rename_i t x ho;exact Dm c t x hd ho h
 .rename_i s x f ho;exact Bh s x f hd ho h
 .rename_i s x f ho;exact Nz s x f hd ho h
 .rename_i t x i ho;exact Cz t x i hd ho h
 .rename_i t x i ho;exact Oa t x i hd ho h
 .rename_i t x lo hi mx ho;exact Nf t x lo hi mx hd ho h
 .rename_i a x y ho;exact Tq a x y hd ho h
 .rename_i x i ho;exact Hv c x i hd ho h
 .rename_i f first caps ho;exact Ts f first caps hd ho h
 .rename_i x ho;exact Dn x hd ho h
 .rename_i s d x ho;exact Hb s d x hd ho h
 .rename_i e ho;exact Mo c e hd ho h
 .rename_i e x ho;exact aA4 c e x hd ho h
 .rename_i t a v ho;exact No t a v hd ho h
 .rename_i t parts ho;exact Nt t parts hd ho h
 .rename_i t len parts ho;exact Af t len parts hd ho h
 .rename_i call ho;obtain⟨callee,args,ts⟩:=call;unfold lY at h;simp only at h;split at h
  .rename_i b;unfold nE at h;split at h
   .rename_i x t h1 h2;rw [aLx h1,aLx h2] at ho;exact aBd t x hd ho h
   .rename_i s x t t2 h1 h2;rw [aG9 h1,aG9 h2] at ho;exact Lf t t2 s x hd ho h
   .rename_i x y h1;rw [aG9 h1] at ho;exact Lu false x y ts hd ho h
   .rename_i x y h1;rw [aG9 h1] at ho;exact Lu true x y ts hd ho h
   exact h.elim
  .rename_i f;split at h
   .split at h
    .exact vD f args ts hd ho h
    exact jX _ args ts hd ho h
   exact jX _ args ts hd ho h
  .exact jX _ args ts hd ho h
  exact h.elim
 .rename_i t x ho;exact Qa t x hd ho h
 .rename_i x ho;exact Vl x hd ho h
 .rename_i x ho;exact Ot x hd ho h
 exact h.elim
def fR(ro:Option Nat):Fence:= { Fence.wide with round:=ro }
theorem aHv {ro:Option Nat} {K:Array Value->World->Prop} (ds:List Deferred)(h:o.wp P ⟨tmps, []⟩ w (fun a w'=>a.defers= []/\K a.tmps w') (fun _ _ _=>False)):
  o.wpIn (fR ro) n P ⟨tmps,ds⟩ w (fun a w'=>a.defers=ds/\K a.tmps w') Q:=by
 refine⟨fun _ _=>trivial,?_⟩;have hput:∀(v:Value),((⟨tmps, []⟩:Act).put o.dst v).defers= []/\K ((⟨tmps, []⟩:Act).put o.dst v).tmps w->True:=fun _ _=>trivial;have put:∀(v:Value) (w':World),K ((⟨tmps, []⟩:Act).put o.dst v).tmps w'->((⟨tmps,ds⟩:Act).put o.dst v).defers=ds/\K ((⟨tmps,ds⟩:Act).put o.dst v).tmps w':=fun v w' hk=>by
  cases hd:o.dst with
  | none=>rw [hd] at hk;exact⟨rfl,hk⟩
  | some d=>rw [hd] at hk;exact⟨rfl,hk⟩
 have hsem:o.semAt (fR ro).round (⟨tmps,ds⟩:Act).eval=execOp (⟨tmps, []⟩:Act).eval o\/∃c,o.op= .defer c:=by
  by_cases hc:∃c,o.op= .defer c
  .exact .inr hc
  exact .inl (Oper.semAt_eq _ _ _ fun c e=>hc ⟨c,e⟩)
 rcases hsem with hsem | ⟨c,hc⟩
 .rw [hsem];unfold Oper.wp at h;generalize (execOp (⟨tmps, []⟩:Act).eval o).run P w=r at h;cases r with
  | ok x w' =>
   cases x with
   | value v=>exact put v w' h.2
   | skip=>exact put undef w' h.2
   | defer d=>simp only [Oper.upon] at h;exact absurd h.1 (by cases o.dst <;> simp [Act.put])
   | enter f args=>
    refine⟨fun hh=>by simp [fR,Fence.wide] at hh,?_⟩;have h1:CallsIn (fR ro) (n - 1) P f args w' _:=(callsIn_wide (n:=n - 1)).2 h;refine h1.mono fun e w'' he=>?_;cases e with
    | returned v=>exact put v w'' he.2
    | panicked ch=>exact he.elim
    | outgrown=>obtain⟨_,_,hh⟩:=he;exact hh.elim
   | row row args=>
    refine⟨fun hh=>by simp [fR,Fence.wide] at hh,fun c cs _=>?_⟩;obtain⟨v,w'',he,hs⟩:=h c cs;exact⟨v,w'',put v w'' he.2,stepsIn_wide.2 hs⟩
   | _=>exact h.elim
  | halt x w'=>cases x <;> exact h.elim
 exfalso;unfold Oper.wp at h;simp only [execOp,hc,Sem.run_bind] at h;generalize (resolve (⟨tmps, []⟩:Act).eval c o.type).run P w=r at h;cases r with
 | ok d w'=>simp only [Result.andThen,Sem.run_pure,Oper.upon] at h;exact absurd h.1 (by cases o.dst <;> simp [Act.put])
 | halt x w'=>cases x <;> exact h.elim
theorem Kr {F:Fence} {c:Code} (I:Nat->Act->World->Prop):∀(k:Nat) {a:Act} {w:World},I k a w->(∀k a w,I k a w->c.wpIn F n P (Exit.then (fun a' w'=>∃k',k'<k/\I k' a' w') Q) a w)->(Code.loop c).wpIn F n P Q a w:=by
 intro k0 a w h0 round;intro b kk cs hro hb hr;have key:∀j a w,I j a w->∃e a' w',Q e a' w'/\ArrivesIn (Machine.fenced P F) P (lone (b.atR a (.code c:: .inLoop c::kk)) cs w) b kk cs e a' w':=by
  intro j;induction j using Nat.strongRecOn with
  | _ j ih =>
   intro a w hI;obtain⟨e,a₁,w₁,hq,harr⟩:=round j a w hI b (.inLoop c::kk) cs hro hb hr;cases e with
   | normal=>
    obtain⟨k',hlt,hI₁⟩:=hq;obtain⟨e₂,a₂,w₂,hq₂,harr₂⟩:=ih k' hlt a₁ w₁ hI₁;exact⟨e₂,a₂,w₂,hq₂,.of_steps (StepsIn.trans harr (.one (fenced_calm hb hr rfl) stepR_inLoop)) harr₂⟩
   | exit id=>exact⟨_,a₁,w₁,hq,.pass (x:= .inLoop c) rfl (fun _ _=> .inl (by simp)) harr⟩
   | goto l=>exact⟨_,a₁,w₁,hq,.pass (x:= .inLoop c) rfl (fun _ _=> .inl (by simp)) harr⟩
   | ret=>exact⟨_,a₁,w₁,hq,.pass (x:= .inLoop c) rfl (fun _ _=> .inl (by simp)) harr⟩
   | panic ch=>exact⟨_,a₁,w₁,hq,.pass (x:= .inLoop c) rfl (fun _ _=> .inl (by simp)) harr⟩
   | outgrown=>exact⟨_,a₁,w₁,hq,.pass (x:= .inLoop c) rfl (fun _ _=> .inl (by simp)) harr⟩
 obtain⟨e,a',w',hq,harr⟩:=key k0 a w h0;exact⟨e,a',w',hq,.of_steps (.one (fenced_calm hb hr rfl) stepR_loop) harr⟩
def Mk(B:Nat)(w:World)(g:Gh)(ds:List Deferred):Prop:=ds= []\/∃D:Nat,B<=D/\ds= [{ target:= .collected D,args:=#[] }]/\w.heap[D]?=some (.deferred (some []))/\g.X D=none
structure FrM(ds:List Deferred)(w:World)(g:Gh)(w':World)(g':Gh):Prop extends Fr w g w' g' where
 mks:Mk w.heap.size w' g' ds
theorem Mk.fr {B:Nat} {g':Gh} (h:Mk B w g ds)(k:Fr w g w' g'):Mk B w' g' ds:=by
 rcases h with h | ⟨D,h0,h1,h2,h3⟩
 .exact .inl h
 obtain⟨a,b,_⟩:=k.keep D (cZ.1 h2).1 h3;exact .inr ⟨D,h0,h1,a.trans h2,b⟩
theorem FrM.of {g':Gh} (h:Fr w g w' g'):FrM [] w g w' g':=⟨h,.inl rfl⟩
theorem Ok.turn {st:St} (h:Ok w g st val)(hs:w.heap.size<=w'.heap.size)(hX:∀(b:Nat) (t:jK),g.X b=some t->w'.heap[b]?=w.heap[b]?)
  (hM:∀(b o:Nat) (c:Value),g.M b o=some c->w'.cell? ⟨b,o,none⟩=w.cell? ⟨b,o,none⟩):Ok w' g st val:=
 ⟨fun b o c hc=>(hM b o c hc).trans (h.mem b o c hc),fun b t hb=>lX (h.xlt b t hb) hs,fun t=>(h.slot t).keep (fun _ _ _ h=>h) (fun _ _ h=>h) (fun _ _ h=>h) fun b q hx=>⟨hX b _ hx,fun _ h=>h,hx⟩,h.ll,
  fun n b cs h1 h2=>(h.loc n b cs h1 h2).keep (fun _ _ _ h=>h) (fun _ _ h=>h) fun b q hx=>⟨hX b _ hx,fun _ h=>h,hx⟩,h.ol,
  fun n b cs h1 h2=>(h.obj n b cs h1 h2).keep (fun _ _ _ h=>h) (fun _ _ h=>h) fun b q hx=>⟨hX b _ hx,fun _ h=>h,hx⟩⟩
theorem World.cell_not {o:Nat} {ob:Obj} (h:w.heap[b]?=some ob)(hc:ob.isCells=false):w.cell? ⟨b,o,none⟩=none:=by
 unfold World.cell?;simp only [h];cases ob <;> first | rfl | simp [Obj.isCells] at hc
theorem World.putObj_at {D:Nat} {ob:Obj} (h:b≠D):(w.putObj D ob).heap[b]?=w.heap[b]?:=World.putObj_heap_other h
theorem Ok.putObj {st:St} (h:Ok w g st val) {D:Nat} {o o':Obj} (hD:w.heap[D]?=some o)(hc:o.isCells=false)(hX:g.X D=none):Ok (w.putObj D o') g st val:=by
 refine h.turn (by simp [World.putObj]) (fun b t hb=>World.putObj_at (by rintro rfl;rw [hX] at hb;cases hb)) fun b p c hm=>?_;have hne:b≠D:=by rintro rfl;have:=h.mem b p c hm;rw [World.cell_not hD hc] at this;cases this
 exact World.cell?_of_block (w:=w) (a:=⟨b,p,none⟩) (World.putObj_at hne)
theorem FrM.trans {w1 w2:World} {g1 g2:Gh} (h:FrM ds w g w1 g1)(k:Fr w1 g1 w2 g2):FrM ds w g w2 g2:=⟨h.toFr.trans k,h.mks.fr k⟩
def aY(all:List Oper)(j:Nat):Option Tmp:=(all[j]?).bind (·.dst)
abbrev Slot.und:Slot:= .d (.tup [])
def zO(s:Slot)(want:Bool):Option Bool:=match s with
 | .d (.v (.bool b))=>some b
 | .d (.tup [])=>some (!want)
 | _=>none
def lT (P : Program) (c : Cfg) (all : List Oper) : List Oper -> St -> (St -> Prop) -> Prop
 | [],st,K=>K st
 | o :: r, st, K => match o.guard with
  | none=>aHa P c o st fun st'=>lT P c all r st' K
  | some (j, want) => match aY all j with
   | some t=>match zO (st.env t) want with
    | some b=>(b=want->aHa P c o st fun st'=>lT P c all r st' K)/\(b= !want->dD o st/\lT P c all r (st.put o.dst .und) K)
    | none=>False
   | none=>False
def Df(ds:List Deferred)(w0:World)(g0:Gh)(Q:Exit->St->Prop):Exit->Act->World->Prop:=fun e a w'=>
 (e≠ .ret->a.defers=ds)/\∃st' g',Q e st'/\FrM a.defers w0 g0 w' g'/\Ok w' g' st' (bQ a.tmps)/\a.tmps.size=st'.n
def dL(ro:Option Nat)(ds:List Deferred)(P:Program)(c:Code)(Q:Exit->St->Prop)(st:St):Prop:=
 ∀(w0:World) (g0:Gh) (w:World) (g:Gh) (tmps:Array Value),FrM ds w0 g0 w g->Ok w g st (bQ tmps)->tmps.size=st.n->c.wpIn (fR ro) 0 P (Df ds w0 g0 Q) ⟨tmps,ds⟩ w
abbrev AWP:=dL none []
variable {ro:Option Nat}
theorem Nn {j:Nat} {b:Bool} {st:St} (hok:Ok w g st (bQ tmps))(hg:aY all j=some t)(hs:st.env t= .d (.v (.bool b))):yielded all.toArray tmps j=some b:=by
 have hsl:=hok.slot t;rw [hs] at hsl;have hv:bQ tmps t= .bool b:=hsl.1.vEq;unfold aY at hg;unfold yielded;simp only [eO];rw [hg];simp only [pR];unfold bQ at hv;rw [gJ] at hv;cases ht:tmps[t]? with
 | none=>rw [ht] at hv;simp [undef] at hv
 | some v=>rw [ht] at hv;simp at hv;rw [hv]
theorem wY {j:Nat} {b want:Bool} {st:St} (hok:Ok w g st (bQ tmps))(hg:aY all j=some t)(hs:zO (st.env t) want=some b):(yielded all.toArray tmps j==some want)=(b==want):=by
 unfold zO at hs;split at hs
 .rename_i b' he;simp only [aP] at hs;subst hs;rw [Nn hok hg he];rfl
 .rename_i he;simp only [aP] at hs;subst hs;have hsl:=hok.slot t;rw [he] at hsl;obtain⟨hr,_⟩:=hsl;have hv:bQ tmps t= .tuple #[]:=by
   generalize bQ tmps t=v at hr;cases hr with
   | tup cs vs hl hr=>simp at hl;rw [hl]
  have:yielded all.toArray tmps j=none:=by
   unfold aY at hg;unfold yielded;simp only [eO];rw [hg];simp only [pR];unfold bQ at hv;rw [gJ] at hv;cases ht:tmps[t]? with
   | none=>rfl
   | some v=>rw [ht] at hv;simp at hv;rw [hv]
  rw [this];cases want <;> rfl
 cases hs
theorem aBr (t:Nat):SlotOk w g t .und undef:=
 ⟨.tup [] #[] rfl (fun i d x h _=>by simp at h),.tup [] [] #[] (fun i d x h _=>by simp at h)⟩
theorem yS {w0:World} {g0:Gh} {Q:Exit->St->Prop} :∀(r:List Oper) (k:Nat) (st:St) (w:World) (g:Gh) (tmps:Array Value),(∀j,r[j]?=all[k+j]?)->lT P c all r st (Q .normal)->FrM ds w0 g0 w g->Ok w g st (bQ tmps)->tmps.size=st.n->
  wpOpsIn (fR ro) 0 P all.toArray (Df ds w0 g0 Q) ((List.range r.length).map (k+ ·)) ⟨tmps,ds⟩ w
 | [],k,st,w,g,tmps,_,h,hf,hok,hn=>⟨fun _=>rfl,st,g,h,hf,hok,hn⟩
 | o :: r, k, st, w, g, tmps, hr, h, hf, hok, hn => by
  have ho:all.toArray[k]?=some o:=by
   have:=hr 0;simpa using this.symm
  have hr':∀j,r[j]?=all[k+1+j]?:=fun j=>by
   have:=hr (j+1);simpa [Nat.add_assoc,tJ 1] using this
  have hl:(List.range (o::r).length).map (k+ ·)=k::(List.range r.length).map (k+1+ ·):=by
   simp only [bU,List.range_succ_eq_map,fM,pX,iJ];congr 1;apply fC;intro x _;simp;omega
  rw [hl];simp only [wpOpsIn,ho];have run:aHa P c o st (fun st'=>lT P c all r st' (Q .normal))->o.wpIn (fR ro) 0 P ⟨tmps,ds⟩ w (wpOpsIn (fR ro) 0 P all.toArray (Df ds w0 g0 Q) ((List.range r.length).map (k+1+ ·))) (Df ds w0 g0 Q):=by
   intro h;have hd:=Hm h w g tmps hok hn;refine Oper.wpIn_mono (fun a w'=>?_) (aHv (K:=fun tmps' w'=>∃st' g',lT P c all r st' (Q .normal)/\Fr w g w' g'/\Ok w' g' st' (bQ tmps')/\tmps'.size=st'.n/\g'.bl.take g.bl.length=g.bl) ds hd);rintro⟨hdf,st',g',hK,hf',hok',hn',_⟩;obtain⟨tmps',ds'⟩:=a;simp only at hdf;rw [hdf];exact yS r (k+1) st' w' g' tmps' hr' hK (hf.trans hf') hok' hn'
  unfold lT at h;split at h
  .rename_i hg;have:Region.wanted o (yielded all.toArray tmps)=true:=by simp [Region.wanted,hg]
   rw [aR this];exact run h
  rename_i j want hg;split at h
  .rename_i t ht;split at h
   .rename_i b hs;have hy:=wY (all:=all) (j:=j) hok ht hs;by_cases hb:b=want
    .have:Region.wanted o (yielded all.toArray tmps)=true:=by simp [Region.wanted,hg,hy,hb]
     rw [aR this];exact run (h.1 hb)
    have:¬Region.wanted o (yielded all.toArray tmps)=true:=by simp [Region.wanted,hg,hy,hb]
    rw [aG this];have hb':b= !want:=by cases b <;> cases want <;> simp_all
    obtain⟨hd,h2⟩:=h.2 hb';have hdst:∀d,o.dst=some d->d<tmps.size:=by
     intro d hd';have hd2:d<st.n:=by simpa [dD,hd'] using hd
     rw [hn];exact hd2
    have hp:=hok.put o.dst .und undef (fun t _=>aBr t);have e:=wN tmps ds o.dst undef hdst;have hds:=oV ⟨tmps,ds⟩ o.dst undef;have hsz:=rX ⟨tmps,ds⟩ o.dst undef;refine⟨fun _ _=>trivial,?_⟩;generalize hA:(⟨tmps,ds⟩:Act).put o.dst undef=A at *;obtain⟨tmps',ds'⟩:=A;simp only at hds hsz e;rw [hds];exact yS r (k+1) _ w g tmps' hr' h2 hf (by rw [e];exact hp) (by rw [hsz,Kt];exact hn)
   exact h.elim
  exact h.elim
theorem Pi {id:Nat} {ops:List Oper} {Q:Exit->St->Prop} {st:St} (h:∀K:St->Prop,(∀s,Q .normal s->K s)->lT P c ops ops st K):dL ro ds P (.region id ops.toArray false) Q st:=by
 intro w0 g0 w g tmps hf hok hn;refine wpIn_region ?_;have:=yS (P:=P) (ro:=ro) (ds:=ds) (c:=c) (all:=ops) (w0:=w0) (g0:=g0) (Q:=Q) ops 0 st w g tmps (fun j=>by simp) (h _ fun _ h=>h) hf hok hn;simpa using this
theorem jM {Q:Exit->St->Prop} {st:St} (h:Q .normal st):dL ro ds P .skip Q st:=
 fun _ _ _ g _ hf hok hn=>wpIn_skip ⟨fun _=>rfl,st,g,h,hf,hok,hn⟩
theorem Bk {id:Nat} {Q:Exit->St->Prop} {st:St} (h:Q (.exit id) st):dL ro ds P (.exit id) Q st:=
 fun _ _ _ g _ hf hok hn=>wpIn_exit ⟨fun _=>rfl,st,g,h,hf,hok,hn⟩
theorem aC {Q:Exit->St->Prop} {st:St} (h:Q .ret st):dL ro ds P .ret Q st:=
 fun _ _ _ g _ hf hok hn=>wpIn_ret ⟨fun _=>rfl,st,g,h,hf,hok,hn⟩
def pY(ro:Option Nat)(ds:List Deferred)(P:Program)(y:Code)(Q:Exit->St->Prop):Exit->St->Prop
 | .normal,s=>dL ro ds P y Q s
 | e,s=>Q e s
theorem aE {x y:Code} {Q:Exit->St->Prop} {st:St} (h:dL ro ds P x (pY ro ds P y Q) st):dL ro ds P (.seq x y) Q st:=by
 intro w0 g0 w g tmps hf hok hn;refine wpIn_seq (wpIn_mono (h w0 g0 w g tmps hf hok hn) ?_);rintro e ⟨tmps',ds'⟩ w' ⟨hd,st',g',hq,hf',hok',hn'⟩;cases e with
 | normal=>
  have hd:=hd (by simp);simp only at hd;subst hd;exact hq w0 g0 w' g' tmps' hf' hok' hn'
 | _=>exact⟨hd,st',g',hq,hf',hok',hn'⟩
theorem cJ {a b:Code} {t:Bool} {Q:Exit->St->Prop} {st:St} (hx:st.rd x= .v (.bool t))(h1:t=true->dL ro ds P a Q st)(h2:t=false->dL ro ds P b Q st):dL ro ds P (.cond x a b) Q st:=by
 intro w0 g0 w g tmps hf hok hn;have hr:=hok.rd x;rw [hx] at hr;exact wpIn_cond_split hr.vEq (fun ht=>h1 ht w0 g0 w g tmps hf hok hn) (fun ht=>h2 ht w0 g0 w g tmps hf hok hn)
def oJ(id:Nat)(Q:Exit->St->Prop):Exit->St->Prop
 | .exit id',s=>if id'=id then Q .normal s else Q (.exit id') s
 | e,s=>Q e s
theorem aQ {id:Nat} {x:Code} {Q:Exit->St->Prop} {st:St} (h:dL ro ds P x (oJ id Q) st):dL ro ds P (.block id x) Q st:=by
 intro w0 g0 w g tmps hf hok hn;refine wpIn_block (wpIn_mono (h w0 g0 w g tmps hf hok hn) ?_);rintro e a w' ⟨hd,st',g',hq,hrest⟩;cases e with
 | exit id'=>
  simp only [Exit.inBlock];simp only [oJ] at hq;split
  .rename_i e;rw [aR e] at hq;exact⟨fun _=>hd (by simp),st',g',hq,hrest⟩
  rename_i e;rw [aG e] at hq;exact⟨hd,st',g',hq,hrest⟩
 | _=>exact⟨hd,st',g',hq,hrest⟩
theorem Zp {x:Code} {Q Q':Exit->St->Prop} {st:St} (h:dL ro ds P x Q st)(hq:∀e s,Q e s->Q' e s):dL ro ds P x Q' st:=
 fun w0 g0 w g tmps hf hok hn=>wpIn_mono (h w0 g0 w g tmps hf hok hn) fun _ _ _ ⟨hd,st',g',q,r⟩=>⟨hd,st',g',hq _ _ q,r⟩
def uL(n:Nat):Slot->Slot->Prop
 | _,.d .any=>True
 | .lref m off,s=>s= .lref m off/\m<n
 | .d (.sl true es),s=>s= .d (.sl true es)\/s= .d (.sl false es)
 | .d x,s=>s= .d x
structure Weak(st st':St):Prop where
 n:st.n=st'.n
 env:∀t,uL st'.loc.length (st.env t) (st'.env t)
 loc:st'.loc<+:st.loc
 obj:st'.obj=st.obj
theorem Ok.weak {st st':St} (h:Ok w g st val)(hw:Weak st st'):∃g',Fr w g w g'/\Ok w g' st' val:=by
 obtain⟨rest,hloc⟩:=hw.loc;have hlen:st'.loc.length<=g.bl.length:=by rw [h.ll,<- hloc];simp
 refine⟨{ g with bl:=g.bl.take st'.loc.length },⟨rfl,rfl,rfl,bD _,fun b _ hx=>⟨rfl,hx,fun _=>rfl⟩,fun _ _ _ h=>h,fun _ _ h=>h⟩,⟨h.mem,h.xlt,fun t=>?_,by rw [bB];omega,fun n b cs h1 h2=>?_,by rw [hw.obj];exact h.ol,fun n b cs h1 h2=>?_⟩⟩
 .have hs:=h.slot t;have hl:=hw.env t;generalize st.env t=s at hs hl;generalize st'.env t=s' at hl;have any:SlotOk w { g with bl:=g.bl.take st'.loc.length } t .any (val t):=⟨.any _,.flat _ _ _ rfl⟩;unfold uL at hl;split at hl
  .exact any
  .rename_i m off _;obtain⟨rfl,hm⟩:=hl;obtain⟨b,hb,hv⟩:=hs;exact⟨b,by simp [dX,hm,hb],hv⟩
  .rename_i es _;rcases hl with rfl | rfl
   .exact hs
   exact⟨hs.1.s1,.flat _ _ _ rfl⟩
  subst hl;exact hs
 .simp only at h1;rw [dX] at h1;split at h1
  .refine h.loc n b cs h1 ?_;rw [<- hloc,aU (by exact(aH.1 h2).1)];exact h2
  cases h1
 rw [hw.obj] at h2;exact h.obj n b cs h1 h2
theorem aC5 {x:Code} {Q:Exit->St->Prop} {st st':St} (hw:Weak st st')(h:dL ro ds P x Q st'):dL ro ds P x Q st:=by
 intro w0 g0 w g tmps hf hok hn;obtain⟨g',hf',hok'⟩:=hok.weak hw;exact h w0 g0 w g' tmps (hf.trans hf') hok' (by rw [hn,hw.n])
def dM:List (Nat×Slot)->Nat->Slot
 | [],_=> .any
 | (a,s)::r,t=>if t=a then s else dM r t
def St.mk'(n:Nat)(l:List (Nat×Slot))(loc obj:List (List D)):St:= { n,env:=dM l,loc,obj }
theorem Hd {st:St} {l:List (Nat×Slot)} {loc obj:List (List D)} (hn:st.n=n)(hl:∀p∈l,uL loc.length (st.env p.1) p.2)(hloc:loc<+:st.loc)(hobj:st.obj=obj):Weak st (St.mk' n l loc obj):=by
 refine⟨hn,fun t=>?_,hloc,hobj.symm⟩;show uL loc.length (st.env t) (dM l t)
 induction l with
 | nil=>unfold dM uL;split <;> simp_all
 | cons p l ih=>
  obtain⟨a,s⟩:=p;unfold dM;split
  .rename_i e;subst e;exact hl (t,s) (by simp)
  exact ih (fun q hq=>hl q (by simp [hq]))
def wQ {α:Type} (S:α->St)(p:α->Prop)(m:α->Nat)(x:α)(Q:Exit->St->Prop):Exit->St->Prop
 | .normal,s=>∃y,p y/\m y<m x/\Weak s (S y)
 | e,s=>Q e s
theorem Jh (S:α->St)(p:α->Prop)(m:α->Nat)(x0:α) {body:Code} {Q:Exit->St->Prop} {st:St} (hw:Weak st (S x0))(hp:p x0)(h:∀x,p x->dL ro ds P body (wQ S p m x Q) (S x)):dL ro ds P (.loop body) Q st:=by
 intro w0 g0 w g tmps hf hok hn;have key:∀k (a:Act) (w:World),(a.defers=ds/\∃x g,p x/\m x=k/\FrM ds w0 g0 w g/\Ok w g (S x) (bQ a.tmps)/\a.tmps.size=(S x).n)->
   body.wpIn (fR ro) 0 P (Exit.then (fun a' w'=>a'.defers=ds/\∃k',k'<k/\∃x g,p x/\m x=k'/\FrM ds w0 g0 w' g/\Ok w' g (S x) (bQ a'.tmps)/\a'.tmps.size=(S x).n) (Df ds w0 g0 Q)) a w:=by
  rintro k ⟨tmps,ds'⟩ w ⟨hd,x,g,hp,hm,hf,hok,hn⟩;simp only at hd;subst hd;refine wpIn_mono (h x hp w0 g0 w g tmps hf hok hn) ?_;rintro e a' w' ⟨hd',st',g',hq,hf',hok',hn'⟩;cases e with
  | normal=>
   obtain⟨y,hy,hlt,hwk⟩:=hq;obtain⟨g'',hf'',hok''⟩:=hok'.weak hwk;have hd':=hd' (by simp);rw [hd'] at hf';exact⟨hd',m y,by omega,y,g'',hy,rfl,hf'.trans hf'',hok'',by rw [hn',hwk.n]⟩
  | _=>exact⟨hd',st',g',hq,hf',hok',hn'⟩
 obtain⟨g1,hf1,hok1⟩:=hok.weak hw;exact Kr (fun k a w=>a.defers=ds/\∃x g,p x/\m x=k/\FrM ds w0 g0 w g/\Ok w g (S x) (bQ a.tmps)/\a.tmps.size=(S x).n) (m x0)
  ⟨rfl,x0,g1,hp,rfl,hf.trans hf1,hok1,by rw [hn,hw.n]⟩ fun k a w hI=>wpIn_mono (key k a w hI) fun e a' w' he=>by
   cases e with
   | normal=>obtain⟨hd,k',hk,hrest⟩:=he;exact⟨k',hk,hd,hrest⟩
   | _=>exact he
end
end Go.Vm
