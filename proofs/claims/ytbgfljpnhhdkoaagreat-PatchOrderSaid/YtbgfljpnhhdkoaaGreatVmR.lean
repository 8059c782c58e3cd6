import Derived.Test.YtbgfljpnhhdkoaaGreatVmZ
import Derived.RangeFuncCalls
import Derived.RangeFuncIn
namespace Go.Vm
open Go
set_option linter.all false
variable {rr:Option Nat} {dfr:List Deferred}
theorem Ok.nameSlot {w:World} {g:Gh} {st:St} {val:Nat→Value} (h:Ok w g st val) {t:Nat} {kd:TypeDesc} {clock:Nat} {kvs:List (Value×Nat×D)} (hs:st.env t= .d (.mo kd clock kvs)):
  ∃g':Gh,g'.bl=g.bl∧Fr w g w g'∧Ok w g' { st.set t (.d (.mp st.obj.length kd clock kvs))with obj:=st.obj++ [[]] } val:=by
 have hsl:=h.slot t;rw [hs] at hsl;obtain⟨_,ho⟩:=hsl;generalize hv:val t=v at ho;cases ho with
 | flat _ _ _ hf=>simp [D.flat] at hf
 | mo _ _ _ _ _ ho=>
 obtain⟨b,es,rfl,e2,e3,e4,e5,e6,e7⟩:=ho;have hbs:∀(n c:Nat),g.bs[n]?=some c→(g.bs++ [b])[n]?=some c:=fun n c hb=>by
  rw [List.getElem?_append_left (by exact(List.getElem?_eq_some_iff.1 hb).1)];exact hb
 have hnew:(g.bs++ [b])[st.obj.length]?=some b:=by rw [← h.ol];simp
 have other:∀(hd:Holder) (b':Nat) (q:List Nat),g.X b'=some (hd,q)→w.heap[b']?=w.heap[b']?∧(∀o,g.M b' o=none→g.M b' o=none)∧g.X b'=some (hd,q):=fun hd b' q hx=>⟨rfl,fun _ h=>h,hx⟩;refine⟨{ g with bs:=g.bs++ [b] },rfl,⟨rfl,rfl,rfl,Nat.le_refl _,fun b' _ hx=>⟨rfl,hx,fun _=>rfl⟩,fun _ _ _ h=>h,hbs⟩,⟨h.mem,h.xlt,fun u=>?_,h.ll,fun n b' cs h1 h2=>(h.loc n b' cs h1 h2).keep (fun _ _ _ h=>h) hbs (other _),by simp [h.ol],fun n b' cs h1 h2=>?_⟩⟩
 ·simp only [St.set];by_cases hu:u=t
  ·subst hu;simp only [if_true];rw [hv];exact⟨.mp _ _ _ b _ hnew,.mp _ _ _ _ _ _ ⟨b,es,rfl,hnew,e2,e3,e4,e5,e6,fun i k s d e a1 a2=>⟨(e7 i k s d e a1 a2).1,(e7 i k s d e a1 a2).2.1,(e7 i k s d e a1 a2).2.2.1.mono (fun _ _ _ h=>h) hbs,(e7 i k s d e a1 a2).2.2.2⟩⟩⟩
  simp only [hu,if_false];exact(h.slot u).keep (fun _ _ _ h=>h) hbs (fun _ _ h=>h) (other _)
 have h2:(st.obj++ [[]])[n]?=some cs:=h2;have h1:(g.bs++ [b])[n]?=some b':=h1;by_cases hm:n<st.obj.length
 ·rw [List.getElem?_append_left (by rw [h.ol];exact hm)] at h1;rw [List.getElem?_append_left hm] at h2;exact(h.obj n b' cs h1 h2).keep (fun _ _ _ h=>h) hbs (other _)
 have hlt:=(List.getElem?_eq_some_iff.1 h2).1;simp at hlt;have hm2:n=st.obj.length:=by omega
 subst hm2;exact .inl (by simpa using h2.symm)
theorem uF {P:Program} (t:Nat) {kd:TypeDesc} {clock:Nat} {kvs:List (Value×Nat×D)} {c:Code} {n:Nat} {l:List (Nat×Slot)} {loc obj:List (List D)} {Q:Exit→St→Prop} (ht:cQ l t= .d (.mo kd clock kvs))
  (h:dO rr dfr P c Q (St.mk' n ((t,.d (.mp obj.length kd clock kvs))::l) loc (obj++ [[]]))):dO rr dfr P c Q (St.mk' n l loc obj):=by
 intro w0 g0 w g tmps hf hok hn;obtain⟨g',_,hfr,hok'⟩:=hok.nameSlot (t:=t) ht;exact h w0 g0 w g' tmps (hf.trans hfr) hok' hn
theorem zW {P:Program} (t:Nat) {N:Nat} {kd:TypeDesc} {clock:Nat} {kvs:List (Value×Nat×D)} {c:Code} {n:Nat} {l:List (Nat×Slot)} {loc obj:List (List D)} {Q:Exit→St→Prop} (ht:cQ l t= .d (.mp N kd clock kvs))
  (h:dO rr dfr P c Q (St.mk' n ((t,.d (.mo kd clock kvs))::l) loc obj)):dO rr dfr P c Q (St.mk' n l loc obj):=by
 intro w0 g0 w g tmps hf hok hn;refine h w0 g0 w g tmps hf ⟨hok.mem,hok.xlt,fun u=>?_,hok.ll,hok.loc,hok.ol,hok.obj⟩ hn;show SlotOk w g u (cQ ((t,.d (.mo kd clock kvs))::l) u) _
 unfold cQ;split
 ·rename_i e;subst e;have hsl:=hok.slot u;change SlotOk w g u (cQ l u) _ at hsl;rw [ht] at hsl;obtain⟨_,ho⟩:=hsl;generalize bL tmps u=v at ho;cases ho with
  | flat _ _ _ hf=>simp [D.flat] at hf
  | mp _ _ _ _ _ _ ho=>
   obtain⟨b,es,rfl,e1,e2,e3,e4,e5,e6,e7⟩:=ho;exact⟨.mo _ _ b _,.mo _ _ _ _ _ ⟨b,es,rfl,e2,e3,e4,e5,e6,e7⟩⟩
 exact hok.slot u
theorem Ok.mapToSlot {w:World} {g:Gh} {st:St} {val:Nat→Value} (h:Ok w g st val) {t u N:Nat} {kd:TypeDesc} {clock:Nat} {kvs:List (Value×Nat×D)} (hs:st.env t= .d (.mp N kd clock kvs))(hu:st.env u= .d (.mref N)):
  ∃g':Gh,g'.bl=g.bl∧Fr w g w g'∧Ok w g' ((st.set t (.d (.mref N))).set u (.d (.mp N kd clock kvs))) val:=by
 have hsl:=h.slot t;rw [hs] at hsl;obtain⟨hr,ho⟩:=hsl;have hsu:=h.slot u;rw [hu] at hsu;obtain⟨hru,_⟩:=hsu;have htu:u≠t:=by rintro rfl;rw [hs] at hu;cases hu
 generalize hv:val t=v at hr ho;generalize hv2:val u=v2 at hru;cases ho with
 | flat _ _ _ hf=>simp [D.flat] at hf
 | mp _ _ _ _ _ _ ho=>
 obtain⟨b,es,rfl,e1,e2,e3,e4,e5,e6,e7⟩:=ho;cases hru with
 | mref _ b2 hb2=>
 have:b2=b:=by rw [e1] at hb2;simpa using hb2.symm
 subst this;have other:∀(hd:Holder) (b':Nat) (q:List Nat),(hd,q)≠(Holder.slot t, [])→g.X b'=some (hd,q)→w.heap[b']?=w.heap[b']?∧(∀o,g.M b' o=none→g.M b' o=none)∧dP b2 (.slot u, []) g.X b'=some (hd,q):=fun hd b' q hn hx=>by
  refine⟨rfl,fun _ h=>h,?_⟩;have:b'≠b2:=by rintro rfl;rw [e2] at hx;simp only [Option.some.injEq] at hx;exact hn hx.symm
  simp only [dP,if_neg this];exact hx
 refine⟨{ g with X:=dP b2 (.slot u, []) g.X },rfl,⟨rfl,rfl,rfl,Nat.le_refl _,fun b' hb' hx=>⟨rfl,?_,fun _=>rfl⟩,fun _ _ _ h=>h,fun _ _ h=>h⟩,?_⟩
 ·have:b'≠b2:=by rintro rfl;rw [e2] at hx;cases hx
  show dP b2 (.slot u, []) g.X b'=none
  simp only [dP,if_neg this];exact hx
 refine⟨h.mem,fun b' t' hx=>?_,fun u'=>?_,h.ll,fun n b' cs h1 h2=>(h.loc n b' cs h1 h2).keep (fun _ _ _ h=>h) (fun _ _ h=>h) (fun b' q=>other _ b' q (by simp)),h.ol,fun n b' cs' h1 h2=>(h.obj n b' cs' h1 h2).keep (fun _ _ _ h=>h) (fun _ _ h=>h) (fun b' q=>other _ b' q (by simp))⟩
 ·by_cases e:b'=b2
  ·subst e;exact h.xlt _ _ e2
  simp only [dP,if_neg e] at hx;exact h.xlt b' t' hx
 simp only [St.set];by_cases hu1:u'=u
 ·subst hu1;simp only [if_true];rw [hv2];exact⟨.mp _ _ _ b2 _ e1,.mp _ _ _ _ _ _ ⟨b2,es,rfl,e1,by simp [dP],e3,e4,e5,e6,e7⟩⟩
 simp only [hu1,if_false];by_cases hu2:u'=t
 ·subst hu2;simp only [if_true];rw [hv];exact⟨.mref _ b2 e1,.flat _ _ _ rfl⟩
 simp only [hu2,if_false];exact(h.slot u').keep (fun _ _ _ h=>h) (fun _ _ h=>h) (fun _ _ h=>h) (fun b' q=>other _ b' q (by simp [hu2]))
theorem fO {P:Program} (t u:Nat) {N:Nat} {kd:TypeDesc} {clock:Nat} {kvs:List (Value×Nat×D)} {c:Code} {n:Nat} {l:List (Nat×Slot)} {loc obj:List (List D)} {Q:Exit→St→Prop} (ht:cQ l t= .d (.mp N kd clock kvs))(hu:cQ l u= .d (.mref N))
  (h:dO rr dfr P c Q (St.mk' n ((u,.d (.mp N kd clock kvs))::(t,.d (.mref N))::l) loc obj)):dO rr dfr P c Q (St.mk' n l loc obj):=by
 intro w0 g0 w g tmps hf hok hn;obtain⟨g',_,hfr,hok'⟩:=hok.mapToSlot (t:=t) (u:=u) ht hu;exact h w0 g0 w g' tmps (hf.trans hfr) hok' hn
theorem Ok.nameCell {w:World} {g:Gh} {st:St} {val:Nat→Value} (h:Ok w g st val) {m i:Nat} {cs:List D} {kd:TypeDesc} {clock:Nat} {kvs:List (Value×Nat×D)} (hm:st.obj[m]?=some cs)(hi:cs[i]?=some (.mo kd clock kvs)):
  ∃g':Gh,g'.bl=g.bl∧Fr w g w g'∧Ok w g' { st with obj:=st.obj.set m (cs.set i (.mp st.obj.length kd clock kvs))++ [[]] } val:=by
 have hml:=(List.getElem?_eq_some_iff.1 hm).1;obtain⟨bm,hbm⟩:∃bm,g.bs[m]?=some bm:=⟨_,List.getElem?_eq_getElem (by rw [h.ol];exact hml)⟩;have hne:cs≠ []:=by rintro rfl;simp at hi
 obtain⟨cur,E,o1,o2,o3,o4,o5⟩:=(h.obj m bm cs hbm hm).resolve_left hne;have hil:=(List.getElem?_eq_some_iff.1 hi).1;obtain⟨x,hx⟩:∃x,cur[i]?=some x:=⟨_,Array.getElem?_eq_getElem (by rw [o2];exact hil)⟩;obtain⟨r1,r2,r3⟩:=o5 i _ x hi hx;cases r2 with
 | flat _ _ _ hf=>simp [D.flat] at hf
 | mo _ _ _ _ _ ho=>
 obtain⟨b,es,rfl,e2,e3,e4,e5,e6,e7⟩:=ho;have hbs:∀(n c:Nat),g.bs[n]?=some c→(g.bs++ [b])[n]?=some c:=fun n c hb=>by
  rw [List.getElem?_append_left (by exact(List.getElem?_eq_some_iff.1 hb).1)];exact hb
 have hnew:(g.bs++ [b])[st.obj.length]?=some b:=by rw [← h.ol];simp
 have other:∀(hd:Holder) (b':Nat) (q:List Nat),g.X b'=some (hd,q)→w.heap[b']?=w.heap[b']?∧(∀o,g.M b' o=none→g.M b' o=none)∧g.X b'=some (hd,q):=fun hd b' q hx=>⟨rfl,fun _ h=>h,hx⟩;refine⟨{ g with bs:=g.bs++ [b] },rfl,⟨rfl,rfl,rfl,Nat.le_refl _,fun b' _ hx=>⟨rfl,hx,fun _=>rfl⟩,fun _ _ _ h=>h,hbs⟩,⟨h.mem,h.xlt,fun u=>(h.slot u).keep (fun _ _ _ h=>h) hbs (fun _ _ h=>h) (other _),h.ll,fun n b' cs h1 h2=>(h.loc n b' cs h1 h2).keep (fun _ _ _ h=>h) hbs (other _),by simp [h.ol],fun n b' cs' h1 h2=>?_⟩⟩;have h2:(st.obj.set m (cs.set i (.mp st.obj.length kd clock kvs))++ [[]])[n]?=some cs':=h2;have h1:(g.bs++ [b])[n]?=some b':=h1;by_cases hn:n<st.obj.length
 ·rw [List.getElem?_append_left (by rw [h.ol];exact hn)] at h1;rw [List.getElem?_append_left (by simpa using hn),List.getElem?_set] at h2;by_cases e:m=n
  ·subst e;simp only [if_true,hml] at h2;have eds:cs.set i (.mp st.obj.length kd clock kvs)=cs':=by simpa using h2
   subst eds;have ebm:b'=bm:=by rw [hbm] at h1;simpa using h1.symm
   subst ebm;refine .inr ⟨cur,E,o1,by simpa using o2,o3,o4,fun j d y c1 c2=>?_⟩;rw [List.getElem?_set] at c1;by_cases ej:i=j
   ·subst ej;simp only [if_true,hil] at c1;have ed:D.mp st.obj.length kd clock kvs=d:=by simpa using c1
    subst ed;have ey:y= .map (some b):=by rw [hx] at c2;simpa using c2.symm
    subst ey;exact⟨.mp _ _ _ b _ hnew,.mp _ _ _ _ _ _ ⟨b,es,rfl,hnew,e2,e3,e4,e5,e6,fun i k s d e a1 a2=>⟨(e7 i k s d e a1 a2).1,(e7 i k s d e a1 a2).2.1,(e7 i k s d e a1 a2).2.2.1.mono (fun _ _ _ h=>h) hbs,(e7 i k s d e a1 a2).2.2.2⟩⟩,rfl⟩
   rw [if_neg ej] at c1;obtain⟨q1,q2,q3⟩:=o5 j d y c1 c2;exact⟨q1.mono (fun _ _ _ h=>h) hbs,q2.keep (fun _ _ _ h=>h) hbs (fun b' q hq=>⟨rfl,fun _ h=>h,hq⟩),q3⟩
  rw [if_neg e] at h2;exact(h.obj n b' cs' h1 h2).keep (fun _ _ _ h=>h) hbs (other _)
 have hlt:=(List.getElem?_eq_some_iff.1 h2).1;simp at hlt;have hm2:n=st.obj.length:=by omega
 subst hm2;rw [List.getElem?_append_right (by simp)] at h2;exact .inl (by simpa using h2.symm)
theorem tG {P:Program} (m i:Nat) {cs:List D} {kd:TypeDesc} {clock:Nat} {kvs:List (Value×Nat×D)} {c:Code} {n:Nat} {l:List (Nat×Slot)} {loc obj:List (List D)} {Q:Exit→St→Prop} (hm:obj[m]?=some cs)(hi:cs[i]?=some (.mo kd clock kvs))
  (h:dO rr dfr P c Q (St.mk' n l loc (obj.set m (cs.set i (.mp obj.length kd clock kvs))++ [[]]))):dO rr dfr P c Q (St.mk' n l loc obj):=by
 intro w0 g0 w g tmps hf hok hn;obtain⟨g',_,hfr,hok'⟩:=hok.nameCell hm hi;exact h w0 g0 w g' tmps (hf.trans hfr) hok' hn
def CM(M:Mem)(W:World):Prop:=∀(b o:Nat) (c:Value),M b o=some c→W.cell? ⟨b,o,none⟩=some c
def aC6(P:Program)(gf:Nat)(lb:Array Value)(L:List (Array Value))(M:Mem):Prop:=
 ∀(l:Nat) (J:Nat→World→Prop) (W:World),CM M W→
  (∀(k:Nat) (W1:World) (args:Array Value),J k W1→L[k]?=some args→YieldAt Fence.wide 0 P l args W1 fun e W'=>e= .returned (.bool true)∧J (k+1) W'∧CM M W')→
  J 0 W→CallsIn Fence.wide 0 P gf (#[.func (.yield l) #[] #[]]++lb) W fun e W'=>(∃v,e= .returned v)∧J L.length W'
theorem Fr.putObj {w w':World} {g g':Gh} (h:Fr w g w' g') {D:Nat} {o:Obj} (hB:w.heap.size≤D):Fr w g (w'.putObj D o) g':=
 ⟨h.os,h.tape,h.output,by simpa [World.putObj] using h.size,fun b hb hx=>by
  obtain⟨a,b',c⟩:=h.keep b hb hx;exact⟨(World.putObj_at (by omega)).trans a,b',c⟩,h.mono,h.bs⟩
theorem Ok.reslotCut {w w':World} {g g':Gh} {st st':St} {val val':Nat→Value} {τ J:List (List D)} (h0:Ok w g st val)(h:Ok w' g' st' val')(hM:g.M.le g'.M)(hbs:∀(n b:Nat),g.bs[n]?=some b→g'.bs[n]?=some b)(hfl:∀t,∃d,st.env t= .d d∧d.flat=true)
  (ho:st'.obj=τ++J) (hloc:∀cs∈st'.loc,cs= []) (hlen:st.obj.length≤τ.length) (hsc:∀(n:Nat) (cs:List D),τ[n]?=some cs→st.obj[n]?=some cs∨∀d∈cs,Sc τ.length d):
  (∀(n b:Nat),g.bs[n]?=some b→(g'.bs.take τ.length)[n]?=some b)∧Ok w' { g' with bs:=g'.bs.take τ.length } { st with loc:=st'.loc,obj:=τ } val:=by
 have hb2:∀(n b:Nat),g.bs[n]?=some b→(g'.bs.take τ.length)[n]?=some b:=fun n b hn=>by
  have:=(List.getElem?_eq_some_iff.1 hn).1;rw [h0.ol] at this;rw [List.getElem?_take,if_pos (by omega)];exact hbs n b hn
 refine⟨hb2,h.mem,h.xlt,fun t=>?_,h.ll,fun n b cs h1 h2=> .inl (hloc cs (List.mem_of_getElem? h2)),?_,fun n b cs h1 h2=>?_⟩
 ·obtain⟨d,hd,hf⟩:=hfl t;have hs:=h0.slot t;rw [hd] at hs;show SlotOk w' _ t (st.env t) _
  rw [hd];exact⟨hs.1.mono hM hb2,.flat _ _ _ hf⟩
 ·show(g'.bs.take τ.length).length=τ.length
  rw [List.length_take,h.ol,ho,List.length_append];omega
 have h1:(g'.bs.take τ.length)[n]?=some b:=h1;have h2:τ[n]?=some cs:=h2;rw [List.getElem?_take] at h1;split at h1
 ·have h3:st'.obj[n]?=some cs:=by rw [ho];exact yI h2
  rcases h.obj n b cs h1 h3 with hn | ⟨cur,E,o1,o2,o3,o4,o5⟩
  ·exact .inl hn
  refine .inr ⟨cur,E,o1,o2,o3,o4,fun i d x a1 a2=>?_⟩;obtain⟨r1,r2,r3⟩:=o5 i d x a1 a2;have hd:Sc τ.length d:=by
   rcases hsc n cs h2 with h4 | h4
   ·have hlt:=(List.getElem?_eq_some_iff.1 h4).1;have hN:g.bs.length≤τ.length:=by rw [h0.ol];exact hlen
    obtain⟨b0,hb0⟩:∃b0,g.bs[n]?=some b0:=⟨_,List.getElem?_eq_getElem (by rw [h0.ol];exact hlt)⟩;rcases h0.obj n b0 cs hb0 h4 with hz | ⟨cur0,E0,p1,p2,p3,p4,p5⟩
    ·subst hz;simp at a1
    have hi:=(List.getElem?_eq_some_iff.1 a1).1;obtain⟨y,hy⟩:∃y,cur0[i]?=some y:=⟨_,Array.getElem?_eq_getElem (by rw [p2];exact hi)⟩;obtain⟨q1,q2,_⟩:=p5 i d y a1 hy;exact⟨scR q1 hN,aG6 q2 hN q1⟩
   exact h4 d (List.mem_of_getElem? a1)
  exact⟨hd.1 _ _ _ r1,hd.2 _ _ _ _ _ _ _ r2,r3⟩
 cases h1
def aG7(K:St→Prop):Exit→St→Prop:=fun e s=>e= .normal∧K s
def aLb(Q:Exit→St→Prop):Exit→St→Prop:=fun e s=>e= .ret∧Q .ret s
theorem No {l:List (Nat×Slot)} (h:∀p∈l,∃d,p.2= .d d∧d.flat=true)(t:Nat):∃d,cQ l t= .d d∧d.flat=true:=by
 induction l with
 | nil=>exact⟨.any,rfl,rfl⟩
 | cons p l ih=>
  obtain⟨a,s⟩:=p;unfold cQ;split
  ·exact h (a,s) (by simp)
  exact ih fun q hq=>h q (by simp [hq])
def AWS(P:Program)(y z:Code)(Q:Exit→St→Prop)(st:St):Prop:=
 ∀(w0:World) (g0:Gh) (w:World) (g:Gh) (tmps:Array Value),FrM [] w0 g0 w g→Ok w g st (bL tmps)→tmps.size=st.n→
  y.wpIn (fR none) 0 P (Exit.then (z.wpIn (fR none) 0 P (vT [] w0 g0 Q)) (vT [] w0 g0 Q)) ⟨tmps, []⟩ w
def aKm(P:Program)(y z:Code)(Q:Exit→St→Prop):Exit→St→Prop
 | .normal,s=>AWS P y z Q s
 | e,s=>Q e s
theorem Yz {P:Program} {x y z:Code} {Q:Exit→St→Prop} {st:St} (h:AWP P x (aKm P y z Q) st):AWP P (.seq (.seq x y) z) Q st:=by
 intro w0 g0 w g tmps hf hok hn;refine wpIn_seq (wpIn_seq (wpIn_mono (h w0 g0 w g tmps hf hok hn) ?_));rintro e ⟨tmps',ds'⟩ w' ⟨hd,st',g',hq,hf',hok',hn'⟩;cases e with
 | normal=>
  have hd:=hd (by simp);simp only at hd;subst hd;exact hq w0 g0 w' g' tmps' hf' hok' hn'
 | _=>exact⟨hd,st',g',hq,hf',hok',hn'⟩
theorem zks {P:Program} (K:List Nat) {l2:List (Nat×Slot)} {y z:Code} {n:Nat} {l:List (Nat×Slot)} {loc obj:List (List D)} {Q:Exit→St→Prop} (h:AWS P y z Q (St.mk' n l2 loc obj))(hl:qM K l=l2:=by simp only [Ea,sP,vX,vF,aCd,aAr,Nat.reduceBEq] <;> rfl):AWS P y z Q (St.mk' n l loc obj):=by
 subst hl;intro w0 g0 w g tmps hf hok hn;refine h w0 g0 w g tmps hf ⟨hok.mem,hok.xlt,fun t=>?_,hok.ll,hok.loc,hok.ol,hok.obj⟩ hn;have hs:=hok.slot t;show SlotOk w g t (cQ (qM K l) t) _
 rcases wQ l t K with e | e
 ·rw [e];exact hs
 rw [e];exact⟨.any _,.flat _ _ _ rfl⟩
theorem Ud {P:Program} {tg gf p1 p2 id:Nat} {assign body y:Code} {caps:List D} {n:Nat} {l:List (Nat×Slot)} {loc obj:List (List D)} {Q:Exit→St→Prop} (L:List (D×D))(H:Nat→List (List D))
  (htg:cQ l tg= .d (.clo (.func gf) [] caps)) (eg:∀(args:Array Value) (w:World),(callFunc gf args).run P w= .ok (.enter gf args) w)
  (hseq:∀(M:Mem) (bs:List Nat) (lb:Array Value),lb.size=caps.length→(∀(i:Nat) (d:D) (x:Value),caps[i]?=some d→lb[i]?=some x→R M bs d x)→
   ∃LV:List (Array Value),LV.length=L.length∧(∀(k:Nat) (a:Array Value),LV[k]?=some a→∃p v1 v2,L[k]?=some p∧a=#[v1,v2]∧R M bs p.1 v1∧R M bs p.2 v2)∧aC6 P gf lb LV M)
  (hl:∀p∈l,∃d,p.2= .d d∧d.flat=true) (hL:∀p∈L,p.1.flat=true∧p.2.flat=true) (h0:H 0=obj) (hp1:p1<n) (hp2:p2<n) (hloc:∀cs∈loc,cs= []) (hlen:∀k,(H 0).length≤(H k).length) (hSc:∀k,k≤L.length→∀(n:Nat) (cs:List D),(H k)[n]?=some cs→(H 0)[n]?=some cs∨∀d∈cs,Sc (H k).length d)
  (hround:∀(lr k:Nat) (p:D×D),L[k]?=some p→dO (some lr) [] P assign (aG7 fun s=>dO (some lr) [] P body (aG7 fun s'=>s'.loc=loc∧∃J,s'.obj=H (k+1)++J) s) (St.mk' n ((p2,.d p.2)::(p1,.d p.1)::l) loc (H k)))
  (hend:∀D:Nat,dO none [{ target:= .collected D,args:=#[] }] P y (aLb Q) (St.mk' n l loc (H L.length))):
  AWS P (.block id (.rangeFunc (.tmp tg) #[p1,p2] assign body)) y Q (St.mk' n l loc obj):=by
 intro w0 g0 w g tmps hf hok hn;subst h0;have hsl:=hok.slot tg;change SlotOk w g tg (cQ l tg) _ at hsl;rw [htg] at hsl;obtain⟨hclo,_⟩:=hsl;obtain⟨lb,hlb,hsz,hcap⟩:∃lb:Array Value,bL tmps tg= .func (.func gf) #[] lb∧lb.size=caps.length∧∀(i:Nat) (d:D) (x:Value),caps[i]?=some d→lb[i]?=some x→R g.M g.bs d x:=by
  generalize bL tmps tg=v at hclo;cases hclo with
  | clo _ _ _ v1 v2 l1 l2 c1 c2=>
   have:v1=#[]:=Array.eq_empty_of_size_eq_zero (by simpa using l1);subst this;exact⟨v2,rfl,l2,c2⟩
 obtain⟨LV,hLV,hLR,hS⟩:=hseq g.M g.bs lb hsz hcap;have hg:(⟨tmps, []⟩:Act).eval (.tmp tg)= .func (.func gf) #[] lb:=hlb;have hflat:=No hl;have hbase:Ok w g (St.mk' n l loc (H 0)) (bL tmps):=hok;refine wpIn_block (wpIn_rangeFunc ?_);intro fn hfn;obtain⟨rec,hrec⟩:∃rec:LoopState→Option Code→Loop,rec=fun st pe=> { state:=st,pending:=pe,fn,tmps:=tmps,params:=#[p1,p2],assign,body,defers:=w.heap.size } :=⟨_,rfl⟩;obtain⟨W1,hW1⟩:∃W1,(w.alloc (.deferred (some []))).alloc (.loop (rec .ready none))=W1:=⟨_,rfl⟩;have hL1:W1.heap[w.heap.size+1]?=some (.loop (rec .ready none)):=by
  rw [← hW1];have:=World.alloc_heap_new (w.alloc (.deferred (some []))) (.loop (rec .ready none));rwa [World.size_alloc] at this
 have hK1:W1.heap[w.heap.size]?=some (.deferred (some [])):=by
  rw [← hW1];exact(gI _ _ (by simp)).trans (World.alloc_heap_new w _)
 have hold:∀b,b<w.heap.size→W1.heap[b]?=w.heap[b]?:=fun b hb=>by
  rw [← hW1];exact(gI _ _ (by simp;omega)).trans (gI _ _ hb)
 have hXn:∀b,w.heap.size≤b→g.X b=none:=fun b hb=>by
  cases hx:g.X b with
  | none=>rfl
  | some t=>have:=hok.xlt b t hx;omega
 have hfr1:Fr w g W1 g:=⟨by rw [← hW1];rfl,by rw [← hW1];rfl,by rw [← hW1];rfl,by rw [← hW1];simp;omega,fun b hb hx=>⟨hold b hb,hx,fun _=>rfl⟩,fun _ _ _ h=>h,fun _ _ h=>h⟩;have hok1:Ok W1 g (St.mk' n l loc (H 0)) (bL tmps):=hok.turn hfr1.size (fun b t hb=>hold b (hok.xlt b t hb)) fun b o c hc=>by
  have:=hok.mem b o c hc;exact World.cell?_of_block (w:=w) (a:=⟨b,o,none⟩) (hold b (World.block_lt_of_cell? _ _ this))
 refine⟨w.heap.size+1, [{ target:= .collected w.heap.size,args:=#[] }],W1, { target:= .fn (.func gf) lb,args:=#[.func (.yield (w.heap.size+1)) #[] #[]] },W1,gf,
  #[.func (.yield (w.heap.size+1)) #[] #[]]++lb,W1,?_,?_,fun _ _=>trivial,?_,fun _=>by simp_all [fR,Fence.wide],?_⟩
 ·rw [← hW1,hrec];exact run_enterLoop_outer _ _ _ _ _
 ·simp only [resolve,hg];simp [go_sem]
 ·simp [invoke,go_sem,eg]
 let J:Nat→World→Prop:=fun k W=>(∃g',Fr w g W g'∧Ok W g' (St.mk' n l loc (H k)) (bL tmps)∧g'.X (w.heap.size+1)=none∧g'.X w.heap.size=none)∧W.heap[w.heap.size+1]?=some (.loop (rec .ready none))∧W.heap[w.heap.size]?=some (.deferred (some []))
 have hcall:=hS (w.heap.size+1) J W1 (fun b o c hc=>hok1.mem b o c hc) ?round ⟨⟨g,hfr1,hok1,hXn _ (by omega),hXn _ (Nat.le_refl _)⟩,hL1,hK1⟩
 case round=>
  rintro k W args ⟨⟨g',hfr,hokW,hx1,hx2⟩,hl1,hk1⟩ hargs;obtain⟨p,v1,v2,hp,rfl,r1,r2⟩:=hLR k args hargs;have hy:=run_yield (P:=P) (args:=#[v1,v2]) hl1 (by rw [hrec];rfl);rw [hrec] at hy;refine⟨fn,_,assign,body,hy,roundIn_of_wpIn (F:=Fence.wide) trivial ?_⟩;have htm:(Array.foldl (fun tmps (x:Tmp×Value)=>match x with | (t,a)=>tmps.setIfInBounds t a) tmps (#[p1,p2].zip #[v1,v2]))=(tmps.setIfInBounds p1 v1).setIfInBounds p2 v2:=by simp
  have hn':tmps.size=n:=hn;have hv:bL ((tmps.setIfInBounds p1 v1).setIfInBounds p2 v2)=fun u=>if u=p2 then v2 else if u=p1 then v1 else bL tmps u:=by
   rw [Aq _ _ _ (by simpa [hn'] using hp2),Aq _ _ _ (by rw [hn'];exact hp1)]
  have hLf:=hL p (List.mem_of_getElem? hp);have hok2:Ok W g' (St.mk' n ((p2,.d p.2)::(p1,.d p.1)::l) loc (H k)) (bL ((tmps.setIfInBounds p1 v1).setIfInBounds p2 v2)):=by
   rw [hv];have:=(hokW.set p1 (.d p.1) v1 ⟨r1.mono hfr.mono hfr.bs,.flat _ _ _ hLf.1⟩).set p2 (.d p.2) v2 ⟨r2.mono hfr.mono hfr.bs,.flat _ _ _ hLf.2⟩;exact this
  have ha:=hround (w.heap.size+1) k p hp W g' W g' _ (.of (Fr.refl W g')) hok2 (by simpa using hn);have ha':assign.wpIn (Fence.wide.inRound (w.heap.size+1)) 0 P _ ⟨(tmps.setIfInBounds p1 v1).setIfInBounds p2 v2, []⟩ W:=ha;have e0:({ tmps:=Array.foldl (fun tmps (x:Tmp×Value)=>match x with | (t,a)=>tmps.setIfInBounds t a) tmps (#[p1,p2].zip #[v1,v2]),defers:= [] } :Act)=⟨(tmps.setIfInBounds p1 v1).setIfInBounds p2 v2, []⟩:=by rw [htm]
  refine Eq.mpr (congrArg (fun a=>Code.wpIn (Fence.wide.inRound (w.heap.size+1)) 0 P assign _ a W) e0) ?_;refine wpIn_mono ha' ?_;rintro e ⟨tmps1,ds1⟩ Wa ⟨hd,st1,g1,⟨rfl,hb⟩,hfra,hoka,hna⟩;have hd:=hd (by simp);simp only at hd;subst hd;obtain⟨c1,c2,_⟩:=hfra.keep _ (Array.getElem?_eq_some_iff.1 hl1).1 hx1;obtain⟨c3,c4,_⟩:=hfra.keep _ (Array.getElem?_eq_some_iff.1 hk1).1 hx2;have hla:=c1.trans hl1;have hka:=c3.trans hk1;refine⟨_,run_beginRound hla (by rw [hrec]),?_⟩;obtain⟨Wb,hWb⟩:∃Wb,Wa.putObj (w.heap.size+1) (.loop { rec .ready none with state:= .busy })=Wb:=⟨_,rfl⟩;rw [hWb];have hlt:w.heap.size+1<Wa.heap.size:=(Array.getElem?_eq_some_iff.1 hla).1;have hlb':Wb.heap[w.heap.size+1]?=some (.loop { rec .ready none with state:= .busy }):=by rw [← hWb];exact World.putObj_heap_same hlt
  have hkb:Wb.heap[w.heap.size]?=some (.deferred (some [])):=by rw [← hWb];exact(World.putObj_at (by omega)).trans hka
  have hokb:Ok Wb g1 st1 (bL tmps1):=by rw [← hWb];exact hoka.putObj hla rfl c2
  have hfrb:Fr w g Wb g1:=by rw [← hWb];exact(hfr.trans hfra.toFr).putObj (by omega)
  have hbb:body.wpIn (Fence.wide.inRound (w.heap.size+1)) 0 P _ ⟨tmps1, []⟩ Wb:=hb Wb g1 Wb g1 tmps1 (.of (Fr.refl Wb g1)) hokb hna;refine wpIn_mono hbb ?_;rintro e a3 Wc ⟨hd3,st3,g30,⟨rfl,hloc3,J3,hobj⟩,hfrc,hokc,hnc⟩;obtain⟨d1,d2,_⟩:=hfrc.keep _ (Array.getElem?_eq_some_iff.1 hlb').1 c2;obtain⟨d3,d4,_⟩:=hfrc.keep _ (Array.getElem?_eq_some_iff.1 hkb).1 c4;have hlc:=d1.trans hlb';have hkc:=d3.trans hkb;have hend':=run_endRound (P:=P) none hlc;refine⟨_,_,hend',rfl,?_⟩;have hltc:w.heap.size+1<Wc.heap.size:=(Array.getElem?_eq_some_iff.1 hlc).1;have hfrd0:Fr w g Wc g30:=hfrb.trans hfrc.toFr;have hk':k<L.length:=(List.getElem?_eq_some_iff.1 hp).1;obtain⟨hb2,hok2'⟩:=hbase.reslotCut hokc hfrd0.mono hfrd0.bs hflat hobj (by rw [hloc3];exact hloc) (hlen (k+1)) (hSc (k+1) (by omega));obtain⟨g3,hg3⟩:∃g3:Gh, { g30 with bs:=g30.bs.take (H (k+1)).length } =g3:=⟨_,rfl⟩;have hfrd:Fr w g Wc g3:=by rw [← hg3];exact⟨hfrd0.os,hfrd0.tape,hfrd0.output,hfrd0.size,hfrd0.keep,hfrd0.mono,hb2⟩
  have d2:g3.X (w.heap.size+1)=none:=by rw [← hg3];exact d2
  have d4:g3.X w.heap.size=none:=by rw [← hg3];exact d4
  have hokd:Ok Wc g3 (St.mk' n l loc (H (k+1))) (bL tmps):=by
   rw [← hg3];rw [hloc3] at hok2';exact hok2'
  refine⟨⟨⟨g3,hfrd.putObj (by omega),hokd.putObj hlc rfl d2,d2,d4⟩,?_,(World.putObj_at (by omega)).trans hkc⟩,fun b o c hc=>(hokd.putObj hlc rfl d2).mem b o c (hfrd.mono b o c hc)⟩;rw [World.putObj_heap_same hltc,hrec];rfl
 refine CallsIn.mono (F:=Fence.wide) hcall ?_;rintro e W ⟨⟨v,rfl⟩,⟨g',hfr,hokW,hx1,hx2⟩,hl1,hk1⟩;refine⟨none,_,by have:=run_endLoop (P:=P) hl1 (by rw [hrec];simp);rw [hrec] at this;exact this,?_⟩;have hlt:w.heap.size+1<W.heap.size:=(Array.getElem?_eq_some_iff.1 hl1).1;rw [hLV] at hokW;show y.wpIn (fR none) 0 P (vT [] w0 g0 Q) ⟨tmps, [{ target:= .collected w.heap.size,args:=#[] }]⟩ _
 refine wpIn_mono (hend w.heap.size w0 g0 _ g' tmps ⟨hf.toFr.trans (hfr.putObj (by omega)),.inr ⟨w.heap.size,hf.size,rfl,(World.putObj_at (by omega)).trans hk1,hx2⟩⟩ (hokW.putObj hl1 rfl hx1) hn) ?_;rintro e a W' ⟨hd,st',g'',⟨rfl,hq⟩,hrest⟩;exact⟨by simp,st',g'',hq,hrest⟩
end Go.Vm
