import Derived.Test.YtbgfljpnhhdkoaaGreatVmZ
import Derived.RangeFuncCalls
import Derived.RangeFuncIn
import Derived.RangeFuncNested
import Derived.RangeFuncBound
import Derived.RangeFuncLeaves
import Derived.Shelf.Abstract
import Derived.Shelf.RegionOpen
import Derived.WalkKit
import Derived.OwnWalkIn
import Derived.TacticsInMore
import Derived.LoopNIn
import Derived.LoopIn
import Derived.Test.YtbgfljpnhhdkoaaGreatVmTab
import Derived.Laws.IdiomStrings
import Derived.Test.YtbgfljpnhhdkoaaGreatVmX7
import Derived.Test.YtbgfljpnhhdkoaaGreatWvLaw
set_option linter.all false
set_option maxRecDepth 100000
set_option maxHeartbeats 8000000
open Go.Proofs.Tryz
namespace Go.Vm
open Go
variable {N clock n:Nat}{P:Program}{Q:Exit->St->Prop}{c y:Code}{g:Gh}{kd:TypeDesc}{l:List (Nat×Slot)}{st:St}{val:Nat->Value}{w:World}
variable {rr:Option Nat} {dfr:List Deferred}
theorem Ok.nameSlot (h:Ok w g st val) {t:Nat} {kvs:List (Value×Nat×D)} (hs:st.env t= .d (.mo kd clock kvs)):
  ∃g':Gh,g'.bl=g.bl/\Fr w g w g'/\Ok w g' { st.set t (.d (.mp st.obj.length kd clock kvs))with obj:=st.obj++ [[]] } val:=by
 have hsl:=h.slot t;rw [hs] at hsl;obtain⟨_,ho⟩:=hsl;generalize hv:val t=v at ho;cases ho with
 | flat _ _ _ hf=>simp [D.flat] at hf
 | mo _ _ _ _ _ ho=>
 obtain⟨b,es,rfl,e2,e3,e4,e5,e6,e7⟩:=ho;have hbs:∀(n c:Nat),g.bs[n]?=some c->(g.bs++ [b])[n]?=some c:=fun n c hb=>by
  rw [aW (by exact(aM.1 hb).1)];exact hb
 have hnew:(g.bs++ [b])[st.obj.length]?=some b:=by rw [<- h.ol];simp
 have other:∀(hd:Holder) (b':Nat) (q:List Nat),g.X b'=some (hd,q)->w.heap[b']?=w.heap[b']?/\(∀o,g.M b' o=none->g.M b' o=none)/\g.X b'=some (hd,q):=fun hd b' q hx=>⟨rfl,fun _ h=>h,hx⟩;refine⟨{ g with bs:=g.bs++ [b] },rfl,⟨rfl,rfl,rfl,aV _,fun b' _ hx=>⟨rfl,hx,fun _=>rfl⟩,fun _ _ _ h=>h,hbs⟩,⟨h.mem,h.xlt,fun u=>?_,h.ll,fun n b' cs h1 h2=>(h.loc n b' cs h1 h2).keep (fun _ _ _ h=>h) hbs (other _),by simp [h.ol],fun n b' cs h1 h2=>?_⟩⟩
 .simp only [St.set];by_cases hu:u=t
  .subst hu;simp only [aU];rw [hv];exact⟨.mp _ _ _ b _ hnew,.mp _ _ _ _ _ _ ⟨b,es,rfl,hnew,e2,e3,e4,e5,e6,fun i k s d e a1 a2=>⟨(e7 i k s d e a1 a2).1,(e7 i k s d e a1 a2).2.1,(e7 i k s d e a1 a2).2.2.1.mono (fun _ _ _ h=>h) hbs,(e7 i k s d e a1 a2).2.2.2⟩⟩⟩
  simp only [hu,bJ];exact(h.slot u).keep (fun _ _ _ h=>h) hbs (fun _ _ h=>h) (other _)
 have h2:(st.obj++ [[]])[n]?=some cs:=h2;have h1:(g.bs++ [b])[n]?=some b':=h1;by_cases hm:n<st.obj.length
 .rw [aW (by rw [h.ol];exact hm)] at h1;rw [aW hm] at h2;exact(h.obj n b' cs h1 h2).keep (fun _ _ _ h=>h) hbs (other _)
 have hlt:=(aM.1 h2).1;simp at hlt;have hm2:n=st.obj.length:=by omega
 subst hm2;exact .inl (by simpa using h2.symm)
theorem Cn (t:Nat) {kvs:List (Value×Nat×D)} {loc obj:List (List D)} (ht:eB l t= .d (.mo kd clock kvs))
  (h:eK rr dfr P c Q (St.mk' n ((t,.d (.mp obj.length kd clock kvs))::l) loc (obj++ [[]]))):eK rr dfr P c Q (St.mk' n l loc obj):=by
 intro w0 g0 w g tmps hf hok hn;obtain⟨g',_,hfr,hok'⟩:=hok.nameSlot (t:=t) ht;exact h w0 g0 w g' tmps (hf.trans hfr) hok' hn
theorem Lk (t:Nat) {kvs:List (Value×Nat×D)} {loc obj:List (List D)} (ht:eB l t= .d (.mp N kd clock kvs))
  (h:eK rr dfr P c Q (St.mk' n ((t,.d (.mo kd clock kvs))::l) loc obj)):eK rr dfr P c Q (St.mk' n l loc obj):=by
 intro w0 g0 w g tmps hf hok hn;refine h w0 g0 w g tmps hf ⟨hok.mem,hok.xlt,fun u=>?_,hok.ll,hok.loc,hok.ol,hok.obj⟩ hn;show SlotOk w g u (eB ((t,.d (.mo kd clock kvs))::l) u) _
 unfold eB;split
 .rename_i e;subst e;have hsl:=hok.slot u;change SlotOk w g u (eB l u) _ at hsl;rw [ht] at hsl;obtain⟨_,ho⟩:=hsl;generalize cL tmps u=v at ho;cases ho with
  | flat _ _ _ hf=>simp [D.flat] at hf
  | mp _ _ _ _ _ _ ho=>
   obtain⟨b,es,rfl,e1,e2,e3,e4,e5,e6,e7⟩:=ho;exact⟨.mo _ _ b _,.mo _ _ _ _ _ ⟨b,es,rfl,e2,e3,e4,e5,e6,e7⟩⟩
 exact hok.slot u
theorem Ok.mapToSlot (h:Ok w g st val) {t u:Nat} {kvs:List (Value×Nat×D)} (hs:st.env t= .d (.mp N kd clock kvs))(hu:st.env u= .d (.mref N)):
  ∃g':Gh,g'.bl=g.bl/\Fr w g w g'/\Ok w g' ((st.set t (.d (.mref N))).set u (.d (.mp N kd clock kvs))) val:=by
 have hsl:=h.slot t;rw [hs] at hsl;obtain⟨hr,ho⟩:=hsl;have hsu:=h.slot u;rw [hu] at hsu;obtain⟨hru,_⟩:=hsu;have htu:u≠t:=by rintro rfl;rw [hs] at hu;cases hu
 generalize hv:val t=v at hr ho;generalize hv2:val u=v2 at hru;cases ho with
 | flat _ _ _ hf=>simp [D.flat] at hf
 | mp _ _ _ _ _ _ ho=>
 obtain⟨b,es,rfl,e1,e2,e3,e4,e5,e6,e7⟩:=ho;cases hru with
 | mref _ b2 hb2=>
 have:b2=b:=by rw [e1] at hb2;simpa using hb2.symm
 subst this;have other:∀(hd:Holder) (b':Nat) (q:List Nat),(hd,q)≠(Holder.slot t, [])->g.X b'=some (hd,q)->w.heap[b']?=w.heap[b']?/\(∀o,g.M b' o=none->g.M b' o=none)/\fX b2 (.slot u, []) g.X b'=some (hd,q):=fun hd b' q hn hx=>by
  refine⟨rfl,fun _ h=>h,?_⟩;have:b'≠b2:=by rintro rfl;rw [e2] at hx;simp only [bC] at hx;exact hn hx.symm
  simp only [fX,aC this];exact hx
 refine⟨{ g with X:=fX b2 (.slot u, []) g.X },rfl,⟨rfl,rfl,rfl,aV _,fun b' hb' hx=>⟨rfl,?_,fun _=>rfl⟩,fun _ _ _ h=>h,fun _ _ h=>h⟩,?_⟩
 .have:b'≠b2:=by rintro rfl;rw [e2] at hx;cases hx
  show fX b2 (.slot u, []) g.X b'=none
  simp only [fX,aC this];exact hx
 refine⟨h.mem,fun b' t' hx=>?_,fun u'=>?_,h.ll,fun n b' cs h1 h2=>(h.loc n b' cs h1 h2).keep (fun _ _ _ h=>h) (fun _ _ h=>h) (fun b' q=>other _ b' q (by simp)),h.ol,fun n b' cs' h1 h2=>(h.obj n b' cs' h1 h2).keep (fun _ _ _ h=>h) (fun _ _ h=>h) (fun b' q=>other _ b' q (by simp))⟩
 .by_cases e:b'=b2
  .subst e;exact h.xlt _ _ e2
  simp only [fX,aC e] at hx;exact h.xlt b' t' hx
 simp only [St.set];by_cases hu1:u'=u
 .subst hu1;simp only [aU];rw [hv2];exact⟨.mp _ _ _ b2 _ e1,.mp _ _ _ _ _ _ ⟨b2,es,rfl,e1,by simp [fX],e3,e4,e5,e6,e7⟩⟩
 simp only [hu1,bJ];by_cases hu2:u'=t
 .subst hu2;simp only [aU];rw [hv];exact⟨.mref _ b2 e1,.flat _ _ _ rfl⟩
 simp only [hu2,bJ];exact(h.slot u').keep (fun _ _ _ h=>h) (fun _ _ h=>h) (fun _ _ h=>h) (fun b' q=>other _ b' q (by simp [hu2]))
theorem kA (t u:Nat) {kvs:List (Value×Nat×D)} {loc obj:List (List D)} (ht:eB l t= .d (.mp N kd clock kvs))(hu:eB l u= .d (.mref N))
  (h:eK rr dfr P c Q (St.mk' n ((u,.d (.mp N kd clock kvs))::(t,.d (.mref N))::l) loc obj)):eK rr dfr P c Q (St.mk' n l loc obj):=by
 intro w0 g0 w g tmps hf hok hn;obtain⟨g',_,hfr,hok'⟩:=hok.mapToSlot (t:=t) (u:=u) ht hu;exact h w0 g0 w g' tmps (hf.trans hfr) hok' hn
theorem Ok.nameCell (h:Ok w g st val) {m i:Nat} {cs:List D} {kvs:List (Value×Nat×D)} (hm:st.obj[m]?=some cs)(hi:cs[i]?=some (.mo kd clock kvs)):
  ∃g':Gh,g'.bl=g.bl/\Fr w g w g'/\Ok w g' { st with obj:=st.obj.set m (cs.set i (.mp st.obj.length kd clock kvs))++ [[]] } val:=by
 have hml:=(aM.1 hm).1;obtain⟨bm,hbm⟩:∃bm,g.bs[m]?=some bm:=⟨_,aQ (by rw [h.ol];exact hml)⟩;have hne:cs≠ []:=by rintro rfl;simp at hi
 obtain⟨cur,E,o1,o2,o3,o4,o5⟩:=(h.obj m bm cs hbm hm).resolve_left hne;have hil:=(aM.1 hi).1;obtain⟨x,hx⟩:∃x,cur[i]?=some x:=⟨_,bO (by rw [o2];exact hil)⟩;obtain⟨r1,r2,r3⟩:=o5 i _ x hi hx;cases r2 with
 | flat _ _ _ hf=>simp [D.flat] at hf
 | mo _ _ _ _ _ ho=>
 obtain⟨b,es,rfl,e2,e3,e4,e5,e6,e7⟩:=ho;have hbs:∀(n c:Nat),g.bs[n]?=some c->(g.bs++ [b])[n]?=some c:=fun n c hb=>by
  rw [aW (by exact(aM.1 hb).1)];exact hb
 have hnew:(g.bs++ [b])[st.obj.length]?=some b:=by rw [<- h.ol];simp
 have other:∀(hd:Holder) (b':Nat) (q:List Nat),g.X b'=some (hd,q)->w.heap[b']?=w.heap[b']?/\(∀o,g.M b' o=none->g.M b' o=none)/\g.X b'=some (hd,q):=fun hd b' q hx=>⟨rfl,fun _ h=>h,hx⟩;refine⟨{ g with bs:=g.bs++ [b] },rfl,⟨rfl,rfl,rfl,aV _,fun b' _ hx=>⟨rfl,hx,fun _=>rfl⟩,fun _ _ _ h=>h,hbs⟩,⟨h.mem,h.xlt,fun u=>(h.slot u).keep (fun _ _ _ h=>h) hbs (fun _ _ h=>h) (other _),h.ll,fun n b' cs h1 h2=>(h.loc n b' cs h1 h2).keep (fun _ _ _ h=>h) hbs (other _),by simp [h.ol],fun n b' cs' h1 h2=>?_⟩⟩;have h2:(st.obj.set m (cs.set i (.mp st.obj.length kd clock kvs))++ [[]])[n]?=some cs':=h2;have h1:(g.bs++ [b])[n]?=some b':=h1;by_cases hn:n<st.obj.length
 .rw [aW (by rw [h.ol];exact hn)] at h1;rw [aW (by simpa using hn),bP] at h2;by_cases e:m=n
  .subst e;simp only [aU,hml] at h2;have eds:cs.set i (.mp st.obj.length kd clock kvs)=cs':=by simpa using h2
   subst eds;have ebm:b'=bm:=by rw [hbm] at h1;simpa using h1.symm
   subst ebm;refine .inr ⟨cur,E,o1,by simpa using o2,o3,o4,fun j d y c1 c2=>?_⟩;rw [bP] at c1;by_cases ej:i=j
   .subst ej;simp only [aU,hil] at c1;have ed:D.mp st.obj.length kd clock kvs=d:=by simpa using c1
    subst ed;have ey:y= .map (some b):=by rw [hx] at c2;simpa using c2.symm
    subst ey;exact⟨.mp _ _ _ b _ hnew,.mp _ _ _ _ _ _ ⟨b,es,rfl,hnew,e2,e3,e4,e5,e6,fun i k s d e a1 a2=>⟨(e7 i k s d e a1 a2).1,(e7 i k s d e a1 a2).2.1,(e7 i k s d e a1 a2).2.2.1.mono (fun _ _ _ h=>h) hbs,(e7 i k s d e a1 a2).2.2.2⟩⟩,rfl⟩
   rw [aC ej] at c1;obtain⟨q1,q2,q3⟩:=o5 j d y c1 c2;exact⟨q1.mono (fun _ _ _ h=>h) hbs,q2.keep (fun _ _ _ h=>h) hbs (fun b' q hq=>⟨rfl,fun _ h=>h,hq⟩),q3⟩
  rw [aC e] at h2;exact(h.obj n b' cs' h1 h2).keep (fun _ _ _ h=>h) hbs (other _)
 have hlt:=(aM.1 h2).1;simp at hlt;have hm2:n=st.obj.length:=by omega
 subst hm2;rw [bQ (by simp)] at h2;exact .inl (by simpa using h2.symm)
theorem Dz (m i:Nat) {cs:List D} {kvs:List (Value×Nat×D)} {loc obj:List (List D)} (hm:obj[m]?=some cs)(hi:cs[i]?=some (.mo kd clock kvs))
  (h:eK rr dfr P c Q (St.mk' n l loc (obj.set m (cs.set i (.mp obj.length kd clock kvs))++ [[]]))):eK rr dfr P c Q (St.mk' n l loc obj):=by
 intro w0 g0 w g tmps hf hok hn;obtain⟨g',_,hfr,hok'⟩:=hok.nameCell hm hi;exact h w0 g0 w g' tmps (hf.trans hfr) hok' hn
def CM(M:Mem)(W:World):Prop:=∀(b o:Nat) (c:Value),M b o=some c->W.cell? ⟨b,o,none⟩=some c
def aI2(P:Program)(gf:Nat)(lb:Array Value)(L:List (Array Value))(M:Mem):Prop:=
 ∀(l:Nat) (J:Nat->World->Prop) (W:World),CM M W->
  (∀(k:Nat) (W1:World) (args:Array Value),J k W1->L[k]?=some args->YieldAt Fence.wide 0 P l args W1 fun e W'=>e= .returned (.bool true)/\J (k+1) W'/\CM M W')->
  J 0 W->CallsIn Fence.wide 0 P gf (#[.func (.yield l) #[] #[]]++lb) W fun e W'=>(∃v,e= .returned v)/\J L.length W'
theorem Fr.putObj {w':World} {g':Gh} (h:Fr w g w' g') {D:Nat} {o:Obj} (hB:w.heap.size<=D):Fr w g (w'.putObj D o) g':=
 ⟨h.os,h.tape,h.output,by simpa [World.putObj] using h.size,fun b hb hx=>by
  obtain⟨a,b',c⟩:=h.keep b hb hx;exact⟨(World.putObj_at (by omega)).trans a,b',c⟩,h.mono,h.bs⟩
theorem Ok.reslotCut {w':World} {g':Gh} {st':St} {val':Nat->Value} {τ J:List (List D)} (h0:Ok w g st val)(h:Ok w' g' st' val')(hM:g.M.le g'.M)(hbs:∀(n b:Nat),g.bs[n]?=some b->g'.bs[n]?=some b)(hfl:∀t,∃d,st.env t= .d d/\d.flat=true)
  (ho:st'.obj=τ++J) (hloc:∀cs∈st'.loc,cs= []) (hlen:st.obj.length<=τ.length) (hsc:∀(n:Nat) (cs:List D),τ[n]?=some cs->st.obj[n]?=some cs\/∀d∈cs,Sc τ.length d):
  (∀(n b:Nat),g.bs[n]?=some b->(g'.bs.take τ.length)[n]?=some b)/\Ok w' { g' with bs:=g'.bs.take τ.length } { st with loc:=st'.loc,obj:=τ } val:=by
 have hb2:∀(n b:Nat),g.bs[n]?=some b->(g'.bs.take τ.length)[n]?=some b:=fun n b hn=>by
  have:=(aM.1 hn).1;rw [h0.ol] at this;rw [eJ,aI (by omega)];exact hbs n b hn
 refine⟨hb2,h.mem,h.xlt,fun t=>?_,h.ll,fun n b cs h1 h2=> .inl (hloc cs (bA h2)),?_,fun n b cs h1 h2=>?_⟩
 .obtain⟨d,hd,hf⟩:=hfl t;have hs:=h0.slot t;rw [hd] at hs;show SlotOk w' _ t (st.env t) _
  rw [hd];exact⟨hs.1.mono hM hb2,.flat _ _ _ hf⟩
 .show(g'.bs.take τ.length).length=τ.length
  rw [bF,h.ol,ho,bB];omega
 have h1:(g'.bs.take τ.length)[n]?=some b:=h1;have h2:τ[n]?=some cs:=h2;rw [eJ] at h1;split at h1
 .have h3:st'.obj[n]?=some cs:=by rw [ho];exact Ja h2
  rcases h.obj n b cs h1 h3 with hn | ⟨cur,E,o1,o2,o3,o4,o5⟩
  .exact .inl hn
  refine .inr ⟨cur,E,o1,o2,o3,o4,fun i d x a1 a2=>?_⟩;obtain⟨r1,r2,r3⟩:=o5 i d x a1 a2;have hd:Sc τ.length d:=by
   rcases hsc n cs h2 with h4 | h4
   .have hlt:=(aM.1 h4).1;have hN:g.bs.length<=τ.length:=by rw [h0.ol];exact hlen
    obtain⟨b0,hb0⟩:∃b0,g.bs[n]?=some b0:=⟨_,aQ (by rw [h0.ol];exact hlt)⟩;rcases h0.obj n b0 cs hb0 h4 with hz | ⟨cur0,E0,p1,p2,p3,p4,p5⟩
    .subst hz;simp at a1
    have hi:=(aM.1 a1).1;obtain⟨y,hy⟩:∃y,cur0[i]?=some y:=⟨_,bO (by rw [p2];exact hi)⟩;obtain⟨q1,q2,_⟩:=p5 i d y a1 hy;exact⟨scR q1 hN,aSq q2 hN q1⟩
   exact h4 d (bA a1)
  exact⟨hd.1 _ _ _ r1,hd.2 _ _ _ _ _ _ _ r2,r3⟩
 cases h1
def aSu(K:St->Prop):Exit->St->Prop:=fun e s=>e= .normal/\K s
def aXh(Q:Exit->St->Prop):Exit->St->Prop:=fun e s=>e= .ret/\Q .ret s
theorem aBo (h:∀p∈l,∃d,p.2= .d d/\d.flat=true)(t:Nat):∃d,eB l t= .d d/\d.flat=true:=by
 induction l with
 | nil=>exact⟨.any,rfl,rfl⟩
 | cons p l ih=>
  obtain⟨a,s⟩:=p;unfold eB;split
  .exact h (a,s) (by simp)
  exact ih fun q hq=>h q (by simp [hq])
def AWS(P:Program)(y z:Code)(Q:Exit->St->Prop)(st:St):Prop:=
 ∀(w0:World) (g0:Gh) (w:World) (g:Gh) (tmps:Array Value),FrM [] w0 g0 w g->Ok w g st (cL tmps)->tmps.size=st.n->
  y.wpIn (fR none) 0 P (Exit.then (z.wpIn (fR none) 0 P (Cf [] w0 g0 Q)) (Cf [] w0 g0 Q)) ⟨tmps, []⟩ w
def aWx(P:Program)(y z:Code)(Q:Exit->St->Prop):Exit->St->Prop
 | .normal,s=>AWS P y z Q s
 | e,s=>Q e s
theorem aL0 {x z:Code} (h:AWP P x (aWx P y z Q) st):AWP P (.seq (.seq x y) z) Q st:=by
 intro w0 g0 w g tmps hf hok hn;refine wpIn_seq (wpIn_seq (wpIn_mono (h w0 g0 w g tmps hf hok hn) ?_));rintro e ⟨tmps',ds'⟩ w' ⟨hd,st',g',hq,hf',hok',hn'⟩;cases e with
 | normal=>
  have hd:=hd (by simp);simp only at hd;subst hd;exact hq w0 g0 w' g' tmps' hf' hok' hn'
 | _=>exact⟨hd,st',g',hq,hf',hok',hn'⟩
theorem zks (K:List Nat) {l2:List (Nat×Slot)} {z:Code} {loc obj:List (List D)} (h:AWS P y z Q (St.mk' n l2 loc obj))(hl:xM K l=l2:=by simp only [Re,Bq,Fq,Er,aM5,aJj,Nat.reduceBEq] <;> rfl):AWS P y z Q (St.mk' n l loc obj):=by
 subst hl;intro w0 g0 w g tmps hf hok hn;refine h w0 g0 w g tmps hf ⟨hok.mem,hok.xlt,fun t=>?_,hok.ll,hok.loc,hok.ol,hok.obj⟩ hn;have hs:=hok.slot t;show SlotOk w g t (eB (xM K l) t) _
 rcases Ge l t K with e | e
 .rw [e];exact hs
 rw [e];exact⟨.any _,.flat _ _ _ rfl⟩
theorem aHu {tg gf p1 p2 id:Nat} {assign body:Code} {caps:List D} {loc obj:List (List D)} (L:List (D×D))(H:Nat->List (List D))
  (htg:eB l tg= .d (.clo (.func gf) [] caps)) (eg:∀(args:Array Value) (w:World),(callFunc gf args).run P w= .ok (.enter gf args) w)
  (hseq:∀(M:Mem) (bs:List Nat) (lb:Array Value),lb.size=caps.length->(∀(i:Nat) (d:D) (x:Value),caps[i]?=some d->lb[i]?=some x->R M bs d x)->
   ∃LV:List (Array Value),LV.length=L.length/\(∀(k:Nat) (a:Array Value),LV[k]?=some a->∃p v1 v2,L[k]?=some p/\a=#[v1,v2]/\R M bs p.1 v1/\R M bs p.2 v2)/\aI2 P gf lb LV M)
  (hl:∀p∈l,∃d,p.2= .d d/\d.flat=true) (hL:∀p∈L,p.1.flat=true/\p.2.flat=true) (h0:H 0=obj) (hp1:p1<n) (hp2:p2<n) (hloc:∀cs∈loc,cs= []) (hlen:∀k,(H 0).length<=(H k).length) (hSc:∀k,k<=L.length->∀(n:Nat) (cs:List D),(H k)[n]?=some cs->(H 0)[n]?=some cs\/∀d∈cs,Sc (H k).length d)
  (hround:∀(lr k:Nat) (p:D×D),L[k]?=some p->eK (some lr) [] P assign (aSu fun s=>eK (some lr) [] P body (aSu fun s'=>s'.loc=loc/\∃J,s'.obj=H (k+1)++J) s) (St.mk' n ((p2,.d p.2)::(p1,.d p.1)::l) loc (H k)))
  (hend:∀D:Nat,eK none [{ target:= .collected D,args:=#[] }] P y (aXh Q) (St.mk' n l loc (H L.length))):
  AWS P (.block id (.rangeFunc (.tmp tg) #[p1,p2] assign body)) y Q (St.mk' n l loc obj):=by
 intro w0 g0 w g tmps hf hok hn;subst h0;have hsl:=hok.slot tg;change SlotOk w g tg (eB l tg) _ at hsl;rw [htg] at hsl;obtain⟨hclo,_⟩:=hsl;obtain⟨lb,hlb,hsz,hcap⟩:∃lb:Array Value,cL tmps tg= .func (.func gf) #[] lb/\lb.size=caps.length/\∀(i:Nat) (d:D) (x:Value),caps[i]?=some d->lb[i]?=some x->R g.M g.bs d x:=by
  generalize cL tmps tg=v at hclo;cases hclo with
  | clo _ _ _ v1 v2 l1 l2 c1 c2=>
   have:v1=#[]:=Array.eq_empty_of_size_eq_zero (by simpa using l1);subst this;exact⟨v2,rfl,l2,c2⟩
 obtain⟨LV,hLV,hLR,hS⟩:=hseq g.M g.bs lb hsz hcap;have hg:(⟨tmps, []⟩:Act).eval (.tmp tg)= .func (.func gf) #[] lb:=hlb;have hflat:=aBo hl;have hbase:Ok w g (St.mk' n l loc (H 0)) (cL tmps):=hok;refine wpIn_block (wpIn_rangeFunc ?_);intro fn hfn;obtain⟨rec,hrec⟩:∃rec:LoopState->Option Code->Loop,rec=fun st pe=> { state:=st,pending:=pe,fn,tmps:=tmps,params:=#[p1,p2],assign,body,defers:=w.heap.size } :=⟨_,rfl⟩;obtain⟨W1,hW1⟩:∃W1,(w.alloc (.deferred (some []))).alloc (.loop (rec .ready none))=W1:=⟨_,rfl⟩;have hL1:W1.heap[w.heap.size+1]?=some (.loop (rec .ready none)):=by
  rw [<- hW1];have:=World.alloc_heap_new (w.alloc (.deferred (some []))) (.loop (rec .ready none));rwa [World.size_alloc] at this
 have hK1:W1.heap[w.heap.size]?=some (.deferred (some [])):=by
  rw [<- hW1];exact(nJ _ _ (by simp)).trans (World.alloc_heap_new w _)
 have hold:∀b,b<w.heap.size->W1.heap[b]?=w.heap[b]?:=fun b hb=>by
  rw [<- hW1];exact(nJ _ _ (by simp;omega)).trans (nJ _ _ hb)
 have hXn:∀b,w.heap.size<=b->g.X b=none:=fun b hb=>by
  cases hx:g.X b with
  | none=>rfl
  | some t=>have:=hok.xlt b t hx;omega
 have hfr1:Fr w g W1 g:=⟨by rw [<- hW1];rfl,by rw [<- hW1];rfl,by rw [<- hW1];rfl,by rw [<- hW1];simp;omega,fun b hb hx=>⟨hold b hb,hx,fun _=>rfl⟩,fun _ _ _ h=>h,fun _ _ h=>h⟩;have hok1:Ok W1 g (St.mk' n l loc (H 0)) (cL tmps):=hok.turn hfr1.size (fun b t hb=>hold b (hok.xlt b t hb)) fun b o c hc=>by
  have:=hok.mem b o c hc;exact World.cell?_of_block (w:=w) (a:=⟨b,o,none⟩) (hold b (World.block_lt_of_cell? _ _ this))
 refine⟨w.heap.size+1, [{ target:= .collected w.heap.size,args:=#[] }],W1, { target:= .fn (.func gf) lb,args:=#[.func (.yield (w.heap.size+1)) #[] #[]] },W1,gf,
  #[.func (.yield (w.heap.size+1)) #[] #[]]++lb,W1,?_,?_,fun _ _=>trivial,?_,fun _=>by simp_all [fR,Fence.wide],?_⟩
 .rw [<- hW1,hrec];exact run_enterLoop_outer _ _ _ _ _
 .simp only [resolve,hg];simp [go_sem]
 .simp [invoke,go_sem,eg]
 let J:Nat->World->Prop:=fun k W=>(∃g',Fr w g W g'/\Ok W g' (St.mk' n l loc (H k)) (cL tmps)/\g'.X (w.heap.size+1)=none/\g'.X w.heap.size=none)/\W.heap[w.heap.size+1]?=some (.loop (rec .ready none))/\W.heap[w.heap.size]?=some (.deferred (some []))
 have hcall:=hS (w.heap.size+1) J W1 (fun b o c hc=>hok1.mem b o c hc) ?round ⟨⟨g,hfr1,hok1,hXn _ (by omega),hXn _ (aV _)⟩,hL1,hK1⟩
 case round=>
  rintro k W args ⟨⟨g',hfr,hokW,hx1,hx2⟩,hl1,hk1⟩ hargs;obtain⟨p,v1,v2,hp,rfl,r1,r2⟩:=hLR k args hargs;have hy:=run_yield (P:=P) (args:=#[v1,v2]) hl1 (by rw [hrec];rfl);rw [hrec] at hy;refine⟨fn,_,assign,body,hy,roundIn_of_wpIn (F:=Fence.wide) trivial ?_⟩;have htm:(Array.foldl (fun tmps (x:Tmp×Value)=>match x with | (t,a)=>tmps.setIfInBounds t a) tmps (#[p1,p2].zip #[v1,v2]))=(tmps.setIfInBounds p1 v1).setIfInBounds p2 v2:=by simp
  have hn':tmps.size=n:=hn;have hv:cL ((tmps.setIfInBounds p1 v1).setIfInBounds p2 v2)=fun u=>if u=p2 then v2 else if u=p1 then v1 else cL tmps u:=by
   rw [Mn _ _ _ (by simpa [hn'] using hp2),Mn _ _ _ (by rw [hn'];exact hp1)]
  have hLf:=hL p (bA hp);have hok2:Ok W g' (St.mk' n ((p2,.d p.2)::(p1,.d p.1)::l) loc (H k)) (cL ((tmps.setIfInBounds p1 v1).setIfInBounds p2 v2)):=by
   rw [hv];have:=(hokW.set p1 (.d p.1) v1 ⟨r1.mono hfr.mono hfr.bs,.flat _ _ _ hLf.1⟩).set p2 (.d p.2) v2 ⟨r2.mono hfr.mono hfr.bs,.flat _ _ _ hLf.2⟩;exact this
  have ha:=hround (w.heap.size+1) k p hp W g' W g' _ (.of (Fr.refl W g')) hok2 (by simpa using hn);have ha':assign.wpIn (Fence.wide.inRound (w.heap.size+1)) 0 P _ ⟨(tmps.setIfInBounds p1 v1).setIfInBounds p2 v2, []⟩ W:=ha;have e0:({ tmps:=Array.foldl (fun tmps (x:Tmp×Value)=>match x with | (t,a)=>tmps.setIfInBounds t a) tmps (#[p1,p2].zip #[v1,v2]),defers:= [] } :Act)=⟨(tmps.setIfInBounds p1 v1).setIfInBounds p2 v2, []⟩:=by rw [htm]
  refine Eq.mpr (congrArg (fun a=>Code.wpIn (Fence.wide.inRound (w.heap.size+1)) 0 P assign _ a W) e0) ?_;refine wpIn_mono ha' ?_;rintro e ⟨tmps1,ds1⟩ Wa ⟨hd,st1,g1,⟨rfl,hb⟩,hfra,hoka,hna⟩;have hd:=hd (by simp);simp only at hd;subst hd;obtain⟨c1,c2,_⟩:=hfra.keep _ (dO.1 hl1).1 hx1;obtain⟨c3,c4,_⟩:=hfra.keep _ (dO.1 hk1).1 hx2;have hla:=c1.trans hl1;have hka:=c3.trans hk1;refine⟨_,run_beginRound hla (by rw [hrec]),?_⟩;obtain⟨Wb,hWb⟩:∃Wb,Wa.putObj (w.heap.size+1) (.loop { rec .ready none with state:= .busy })=Wb:=⟨_,rfl⟩;rw [hWb];have hlt:w.heap.size+1<Wa.heap.size:=(dO.1 hla).1;have hlb':Wb.heap[w.heap.size+1]?=some (.loop { rec .ready none with state:= .busy }):=by rw [<- hWb];exact World.putObj_heap_same hlt
  have hkb:Wb.heap[w.heap.size]?=some (.deferred (some [])):=by rw [<- hWb];exact(World.putObj_at (by omega)).trans hka
  have hokb:Ok Wb g1 st1 (cL tmps1):=by rw [<- hWb];exact hoka.putObj hla rfl c2
  have hfrb:Fr w g Wb g1:=by rw [<- hWb];exact(hfr.trans hfra.toFr).putObj (by omega)
  have hbb:body.wpIn (Fence.wide.inRound (w.heap.size+1)) 0 P _ ⟨tmps1, []⟩ Wb:=hb Wb g1 Wb g1 tmps1 (.of (Fr.refl Wb g1)) hokb hna;refine wpIn_mono hbb ?_;rintro e a3 Wc ⟨hd3,st3,g30,⟨rfl,hloc3,J3,hobj⟩,hfrc,hokc,hnc⟩;obtain⟨d1,d2,_⟩:=hfrc.keep _ (dO.1 hlb').1 c2;obtain⟨d3,d4,_⟩:=hfrc.keep _ (dO.1 hkb).1 c4;have hlc:=d1.trans hlb';have hkc:=d3.trans hkb;have hend':=run_endRound (P:=P) none hlc;refine⟨_,_,hend',rfl,?_⟩;have hltc:w.heap.size+1<Wc.heap.size:=(dO.1 hlc).1;have hfrd0:Fr w g Wc g30:=hfrb.trans hfrc.toFr;have hk':k<L.length:=(aM.1 hp).1;obtain⟨hb2,hok2'⟩:=hbase.reslotCut hokc hfrd0.mono hfrd0.bs hflat hobj (by rw [hloc3];exact hloc) (hlen (k+1)) (hSc (k+1) (by omega));obtain⟨g3,hg3⟩:∃g3:Gh, { g30 with bs:=g30.bs.take (H (k+1)).length } =g3:=⟨_,rfl⟩;have hfrd:Fr w g Wc g3:=by rw [<- hg3];exact⟨hfrd0.os,hfrd0.tape,hfrd0.output,hfrd0.size,hfrd0.keep,hfrd0.mono,hb2⟩
  have d2:g3.X (w.heap.size+1)=none:=by rw [<- hg3];exact d2
  have d4:g3.X w.heap.size=none:=by rw [<- hg3];exact d4
  have hokd:Ok Wc g3 (St.mk' n l loc (H (k+1))) (cL tmps):=by
   rw [<- hg3];rw [hloc3] at hok2';exact hok2'
  refine⟨⟨⟨g3,hfrd.putObj (by omega),hokd.putObj hlc rfl d2,d2,d4⟩,?_,(World.putObj_at (by omega)).trans hkc⟩,fun b o c hc=>(hokd.putObj hlc rfl d2).mem b o c (hfrd.mono b o c hc)⟩;rw [World.putObj_heap_same hltc,hrec];rfl
 refine CallsIn.mono (F:=Fence.wide) hcall ?_;rintro e W ⟨⟨v,rfl⟩,⟨g',hfr,hokW,hx1,hx2⟩,hl1,hk1⟩;refine⟨none,_,by have:=run_endLoop (P:=P) hl1 (by rw [hrec];simp);rw [hrec] at this;exact this,?_⟩;have hlt:w.heap.size+1<W.heap.size:=(dO.1 hl1).1;rw [hLV] at hokW;show y.wpIn (fR none) 0 P (Cf [] w0 g0 Q) ⟨tmps, [{ target:= .collected w.heap.size,args:=#[] }]⟩ _
 refine wpIn_mono (hend w.heap.size w0 g0 _ g' tmps ⟨hf.toFr.trans (hfr.putObj (by omega)),.inr ⟨w.heap.size,hf.size,rfl,(World.putObj_at (by omega)).trans hk1,hx2⟩⟩ (hokW.putObj hl1 rfl hx1) hn) ?_;rintro e a W' ⟨hd,st',g'',⟨rfl,hq⟩,hrest⟩;exact⟨by simp,st',g'',hq,hrest⟩
end Go.Vm
namespace Go.Proofs.YtbgfljpnhhdkoaaGreat
open Go Go.Vm Go.Proofs Go.RowKit Go.Shelf
attribute [local go_sem] Oper.semAt_some
theorem aTv(F:Fence)(n:Nat)(h7:F.fn 211)(hro:F.round=none)(hn:1<=n)(l B o b off cap:Nat)(zs:List Int)(M:Mem)(J:Nat->World->Prop)(W:World)(hW:CM M W)
  (hB:M B o=some (.slice (some ⟨b,off,none⟩) zs.length cap)) (hlen:zs.length<=maxLen) (hc:∀j,j<zs.length->M b (off+j)=some (.int .i64 (zs[j]?.getD 0)))
  (hY:∀k W1,J k W1->k<zs.length->YieldAt F (n - 1) prog l #[.int .i64 ((zs.length - 1 - k:Nat):Int),.int .i64 (zs[zs.length - 1 - k]?.getD 0)] W1 fun e W'=>e= .returned (.bool true)/\J (k+1) W'/\CM M W') (h0:J 0 W):
  CallsIn F n prog 211 #[.func (.yield l) #[] #[],.pointer (some ⟨B,o,none⟩)] W fun e W'=>(∃v,e= .returned v)/\J zs.length W':=by
 have hlen2:zs.length<=9223372036854775807:=by unfold maxLen at hlen;omega
 have hB0:=hW B o _ hB;refine callsIn_of_wp func211 rfl h7 ?_ hro;simp only [ntmps211,fT,bT,dF,Nat.reduceAdd,Nat.reduceSub,Array.replicate_succ,Array.replicate_zero,List.push_toArray,List.append_toArray,aN,aP]
 gi_wp2
 gi_loopw [3] (fun i wr=>∃k:Nat,k<=zs.length/\i= .int .i64 ((zs.length:Int) - 1 - k)/\J k wr/\CM M wr)
  (fun i _=>(intOf i+1).toNat)
 case atStart=>exact⟨0,gD _,by simp,h0,hW⟩
 case round=>
  obtain⟨k,hk,rfl,hJs,hC⟩:=hrel;by_cases hlt:k<zs.length
  .have e0:=hC B o _ hB;have e1:=hC b _ _ (hc (zs.length - 1 - k) (by omega));have hi:(zs.length:Int) - 1 - k=((zs.length - 1 - k:Nat):Int):=by omega
   rw [hi];obtain⟨fn,tmps,assign,body,hy,hR⟩:=hY k wr hJs hlt
   gi_wp2
   refine hR.mono ?_;rintro e W3 ⟨rfl,hJ3,hC3⟩
   gi_wp2
   go_roundw
   case rel=>exact⟨k+1,by omega,by go_num,hJ3,hC3⟩
   case measure=>simp [intOf]
  obtain rfl:k=zs.length:=by omega
  gi_wp2
  go_end0
  exact⟨⟨_,rfl⟩,hJs⟩
theorem aUs(F:Fence)(n:Nat)(h7:F.fn 211)(hro:F.round=none)(hn:1<=n)(l B o cap:Nat)(a:Option Addr)(M:Mem)(J:Nat->World->Prop)(W:World)(hW:CM M W)
  (hB:M B o=some (.slice a 0 cap)) (h0:J 0 W):
  CallsIn F n prog 211 #[.func (.yield l) #[] #[],.pointer (some ⟨B,o,none⟩)] W fun e W'=>(∃v,e= .returned v)/\J 0 W':=by
 have hB0:=hW B o _ hB;refine callsIn_of_wp func211 rfl h7 ?_ hro;simp only [ntmps211,fT,bT,dF,Nat.reduceAdd,Nat.reduceSub,Array.replicate_succ,Array.replicate_zero,List.push_toArray,List.append_toArray,aN,aP]
 gi_wp2
 gi_loopw [3] (fun i wr=>i= .int .i64 (-1)/\J 0 wr) (fun _ _=>0)
 case atStart=>exact⟨rfl,h0⟩
 case round=>
  obtain⟨rfl,hJs⟩:=hrel
  gi_wp2
  go_end0
  exact⟨⟨_,rfl⟩,hJs⟩
def bwL(zs:List Int):List (D×D):=(List.range zs.length).reverse.map fun i:Nat=>(D.int i,D.int (zs[i]?.getD 0))
def bwV(zs:List Int):List (Array Value):=(List.range zs.length).reverse.map fun i:Nat=>#[.int .i64 i,.int .i64 (zs[i]?.getD 0)]
theorem aTq(o:Bool)(zs:List Int)(M:Mem)(bs:List Nat)(lb:Array Value)(hsz:lb.size=1)(hlb:∀(i:Nat) (d:D) (x:Value), [D.adr [.sl o (zs.map D.int)]][i]?=some d->lb[i]?=some x->R M bs d x):
  ∃LV:List (Array Value),LV.length=(bwL zs).length/\(∀(k:Nat) (a:Array Value),LV[k]?=some a->∃p v1 v2,(bwL zs)[k]?=some p/\a=#[v1,v2]/\R M bs p.1 v1/\R M bs p.2 v2)/\aI2 prog 211 lb LV M:=by
 obtain⟨x,rfl⟩:∃x,lb=#[x]:=by
  obtain⟨l⟩:=lb
  match l,hsz with
  | [x],_=>exact⟨x,rfl⟩
 have hr:=hlb 0 _ x rfl rfl;refine⟨bwV zs,by simp [bwL,bwV],fun k a ha=>?_,?_⟩
 .unfold bwV at ha;unfold bwL;rw [bW] at ha |-;cases hk:(List.range zs.length).reverse[k]? with
  | none=>rw [hk] at ha;cases ha
  | some i=>
   rw [hk] at ha;obtain rfl:_=a:=by simpa using ha
   exact⟨_,_,_,rfl,rfl,.v _ rfl,.v _ rfl⟩
 have hget:∀k,k<zs.length->(bwV zs)[k]?=some #[.int .i64 ((zs.length - 1 - k:Nat):Int),.int .i64 (zs[zs.length - 1 - k]?.getD 0)]:=fun k hk=>by
  unfold bwV;rw [bW,List.getElem?_reverse (by simpa using hk)];simp [pY (show zs.length - 1 - k<zs.length by omega)]
 cases hr with
 | adr _ B off vs hl hr hx=>
 obtain⟨v,rfl⟩:∃v,vs= [v]:=by
  match vs,hl with
  | [v],_=>exact⟨v,rfl⟩
 obtain⟨_,hM⟩:=hx 0 v rfl;have hv:=hr 0 _ v rfl rfl;rw [jP] at hM;intro l J W hW hY h0;have hY':∀k W1,J k W1->k<zs.length->YieldAt Fence.wide (1 - 1) prog l #[.int .i64 ((zs.length - 1 - k:Nat):Int),.int .i64 (zs[zs.length - 1 - k]?.getD 0)] W1 fun e W'=>e= .returned (.bool true)/\J (k+1) W'/\CM M W':=fun k W1 hj hk=>hY k W1 _ hj (hget k hk);have hlen:(bwV zs).length=zs.length:=by simp [bwV]
 rw [hlen];have nil:∀a cap,M B off=some (.slice a 0 cap)->zs= []->CallsIn Fence.wide 0 prog 211 (#[.func (.yield l) #[] #[]]++#[.pointer (some ⟨B,off,none⟩)]) W fun e W'=>(∃v,e= .returned v)/\J zs.length W':=by
  rintro a cap hM rfl;exact callsIn_wide.2 ((callsIn_wide (n:=1)).1 (aUs Fence.wide 1 trivial rfl (aV _) l B off cap a M J W hW hM h0))
 generalize hes:zs.map D.int=es at hv;cases hv with
 | nil=>exact nil _ _ hM (by cases zs <;> simp_all)
 | emp _ a cap hm=>exact nil _ _ hM (by cases zs <;> simp_all)
 | sl _ _ b off2 n cap k vs hl2 hn hk hc hm hr2 hs hx2 =>
  subst hes;have hlen2:zs.length=n:=by rw [hn];simp
  subst hlen2;by_cases hz:zs= []
  .exact nil (some ⟨b,off2,none⟩) cap (by rw [hM];simp [hz]) hz
  have hk1:k=1:=by
   obtain⟨z,r,rfl⟩:∃z r,zs=z::r:=by cases zs with | nil=>exact absurd rfl hz | cons z r=>exact⟨z,r,rfl⟩
   exact(hs 0 (D.int z) rfl).symm
  subst hk1;refine callsIn_wide.2 ((callsIn_wide (n:=1)).1 (aTv Fence.wide 1 trivial rfl (aV _) l B off b off2 cap zs M J W hW hM (by omega) (fun j hj=>?_) hY' h0));have hvl:vs.length=zs.length:=by simpa using hl2
  have e1:vs[j]?=some vs[j]:=aQ (by omega);have e2:(zs.map D.int)[j]?=some (D.int zs[j]):=by simp [hj]
  have hrj:=hr2 j _ _ e2 e1;generalize hvj:vs[j]=vj at hrj e1;cases hrj with
  | v _ h1=>
  obtain⟨_,h3⟩:=hx2 j _ e1;obtain⟨_,h4⟩:=h3 0 _ rfl;simp only [pW,jP] at h4;rw [h4,aQ hj];rfl
end Go.Proofs.YtbgfljpnhhdkoaaGreat
namespace Go.Vm
open Go
variable {rr:Option Nat} {dfr:List Deferred}
theorem Ok.escLoc {w:World} {g:Gh} {st:St} {val:Nat->Value} (h:Ok w g st val)(t n:Nat)(cs:List D)(ht:st.env t= .lref n 0)(hn:st.loc[n]?=some cs):
  ∃g':Gh,g'.bl=g.bl/\Fr w g w g'/\Ok w g' (({ st with loc:=st.loc.set n [],obj:=st.obj++ [cs] } :St).set t (.d (.ref st.obj.length 0))) val:=by
 have hnl:=(aM.1 hn).1;have hsl:=h.slot t;rw [ht] at hsl;obtain⟨b,hb,hv⟩:=hsl;have hbox:=h.loc n b cs hb hn;have hbs:∀(n' b':Nat),g.bs[n']?=some b'->(g.bs++ [b])[n']?=some b':=fun n' b' hb'=>by
  rw [aW (by exact(aM.1 hb').1)];exact hb'
 have hnew:(g.bs++ [b])[st.obj.length]?=some b:=by rw [<- h.ol];simp
 have other:∀(hd:Holder),hd≠ .loc n->∀(b':Nat) (q:List Nat),g.X b'=some (hd,q)->w.heap[b']?=w.heap[b']?/\(∀o,g.M b' o=none->g.M b' o=none)/\gV (jZ (.loc n) [] (.obj st.obj.length) []) g.X b'=some (hd,q):=by
  intro hd hne b' q hx;exact⟨rfl,fun _ h=>h,by simp [gV,hx,oW (t:=(hd,q)) hne]⟩
 refine⟨{ g with X:=gV (jZ (.loc n) [] (.obj st.obj.length) []) g.X,bs:=g.bs++ [b] },rfl,⟨rfl,rfl,rfl,aV _,fun b' _ hx=>⟨rfl,by simp [gV,hx],fun o=>rfl⟩,fun _ _ _ h=>h,hbs⟩,
  ⟨h.mem,fun b' tg hx=>?_,fun u=>?_,by show g.bl.length=(st.loc.set n []).length;rw [cV];exact h.ll,fun m b' ds h1 h2=>?_,by show(g.bs++ [b]).length=(st.obj++ [cs]).length;simp [h.ol],fun m b' ds h1 h2=>?_⟩⟩
 .simp only [gV,dY] at hx;obtain⟨tg',hx,_⟩:=hx;exact h.xlt b' tg' hx
 .simp only [St.set];by_cases e:u=t
  .subst e;simp only [aU];exact⟨by rw [hv];exact .ref _ _ b hnew,.flat _ _ _ rfl⟩
  simp only [e,bJ];exact(h.slot u).keep (fun _ _ _ h=>h) hbs (fun _ _ h=>h) (other _ (by simp))
 .have h2:(st.loc.set n [])[m]?=some ds:=h2;rw [bP] at h2;split at h2
  .exact .inl (by have:=h2;simp at this;exact this)
  rename_i e;exact(h.loc m b' ds h1 h2).keep (fun _ _ _ h=>h) hbs (other _ (by simp;exact fun e'=>e e'.symm))
 have h1:(g.bs++ [b])[m]?=some b':=h1;have h2:(st.obj++ [cs])[m]?=some ds:=h2;by_cases hm:m<st.obj.length
 .rw [aW (by rw [h.ol];exact hm)] at h1;rw [aW hm] at h2;exact(h.obj m b' ds h1 h2).keep (fun _ _ _ h=>h) hbs (other _ (by simp))
 have hlt:=(aM.1 h2).1;simp at hlt;have hm2:m=st.obj.length:=by omega
 subst hm2;rw [hnew] at h1;obtain rfl:=uH h1;have e2:ds=cs:=by simpa using h2.symm
 subst e2;rcases hbox with h0 | ⟨cur,E,o1,o2,o3,o4,o5⟩
 .exact .inl h0
 refine .inr ⟨cur,E,o1,o2,by simp [gV,o3,jZ],o4,fun i d x a1 a2=>?_⟩;obtain⟨r1,r2,r3⟩:=o5 i d x a1 a2;refine⟨r1.mono (fun _ _ _ h=>h) hbs,r2.move (fun _ _ _ h=>h) hbs [i] fun b' q hx=>⟨rfl,fun _ h=>h,?_⟩,r3⟩;simp [gV,hx,jZ]
theorem Kn {P:Program} (t n:Nat) {cs:List D} {c:Code} {k:Nat} {l:List (Nat×Slot)} {loc obj:List (List D)} {Q:Exit->St->Prop} (ht:eB l t= .lref n 0)(hn:loc[n]?=some cs)
  (h:eK rr dfr P c Q (St.mk' k ((t,.d (.ref obj.length 0))::l) (loc.set n []) (obj++ [cs]))):eK rr dfr P c Q (St.mk' k l loc obj):=by
 intro w0 g0 w g tmps hf hok hk;obtain⟨g',_,hfr,hok'⟩:=hok.escLoc t n cs ht hn;exact h w0 g0 w g' tmps (hf.trans hfr) hok' hk
end Go.Vm
namespace Go.Proofs.YtbgfljpnhhdkoaaGreat
open Go Go.Vm
variable {k:Nat}{l:List Int}
theorem wP(k:Int):MapKept.IsKey (.int .i64) (.int .i64 k):=rfl
theorem aSl(N:Nat)(f:Int->Int)(n:Nat)(os:List Int):Sc N (.mo (.int .i64) n (Ap f os)):=Sc.mo fun k s d hd=>by
 obtain⟨j,hj⟩:=eI hd;rw [Cq] at hj;cases hx:os[j]? with
 | none=>rw [hx] at hj;cases hj
 | some x=>rw [hx] at hj;simp at hj;rw [<- hj.2.2];exact Sc.v _
theorem Mw(f:Int->Int)(os:List Int)(x:Int):Gf (Ap f os) (.int .i64 x) (D.int 0) (D.int (if x∈os then f x else 0)) false\/Gf (Ap f os) (.int .i64 x) (D.int 0) (D.int (if x∈os then f x else 0)) true:=by
 have:=aMe f os x;cases hb:decide (x∈os) <;> rw [hb] at this <;> simp [this]
theorem aPy (hk:k<l.length)(h:¬l[k]∈cZ (l.take k)\/Im l l[k]=0):(k:Int)+1=Im l l[k]:=by
 have hp:=aBx (cN hk);have hn:l[k]∉l.take k:=fun hm=>by
  rcases h with h | h
  .exact h (yO.2 hm)
  omega
 unfold Im;rw [Kp hk hn]
theorem Vp (hk:k<l.length):cZ (l.take (k+1))=tN (cZ (l.take k)) l[k]:=by rw [nF l k hk,Bn]
theorem aNt (hk:k<l.length)(h:l[k]∈cZ (l.take k)/\¬Im l l[k]=0):cZ (l.take (k+1))=cZ (l.take k):=by
 rw [Vp hk];unfold tN;rw [aI h.1]
theorem aW4(l:List Int)(k:Nat)(h:k<l.length):l[k]?.getD 0=l[k]:=by rw [aQ h];rfl
@[simp] abbrev q2_1:Cfg:=⟨[2,3,16,20,25],[],[],[],[]⟩
theorem Yi(l:List Int)(σ:List (List D))(hl:l.length<=1000000):Ct prog 144 [.sl false (l.map D.int)] σ (fun r σ'=>r= .mo (.int .i64) (cZ l).length (Ap (Im l) (cZ l))/\∃J,σ'=σ++J):=by
 refine zf func144 ?_;refine zr q2_1 fun _ _ Z=>?_;simp(disch:=omega);apply Z;refine zr q2_1 fun _ _ Z=>?_;simp(disch:=omega);and_intros<;>(try omega);apply Z;apply aF;refine zr q2_1 fun _ _ Z=>?_;simp(disch:=omega);and_intros<;>(try omega);apply Z;apply aS;refine zk [2,3,9,10,11] ?_;refine aZ (fun(k:Nat)=> [(11,.d (.int k)),(3,.d (.mp σ.length (.int .i64) (cZ (l.take k)).length (Ap (Im l) (cZ (l.take k))))),(4,.d (.any)),(5,.d (.any)),(8,.d (.any))]) [3,4,5,8,11,12,13,14,15,16,17,18,19,20,21,22,23,24] (fun(k:Nat)=>k<=l.length) (fun(k:Nat)=>l.length - k) (0) (by simp <;> rfl) ?_ ?_ ?_
 .simp [cZ,Ap]
 .simp
 rintro k hk;simp only [aP,aN];refine zr q2_1 fun _ _ Z=>?_;simp(disch:=omega);apply Z;apply aF;refine zI ?_ ?_<;>intro c1<;>try simp at c1
 .apply kR;refine zr q2_1 fun _ _ Z=>?_;simp(disch:=omega);and_intros<;>(try omega);apply Z;refine zk [2,3,4,5,8,9,10,11] ?_;refine zr q2_1 fun _ _ Z=>?_;refine zs 3 fun _ Y=>?_;simp(disch:=omega);refine⟨_,⟨wP _,Mw (Im l) _ _⟩,?_⟩;and_intros<;>(try omega);apply Y;simp(disch:=omega);apply Z;refine zI ?_ ?_<;>intro c2<;>try simp at c2
  .have hon:=Vp c1;refine kA 16 3 rfl rfl ?_;refine zk [2,3,4,5,8,9,10,11] ?_;refine zt q2_1 fun _ _ Z=>?_;simp(disch:=omega);refine⟨by omega,20,_,_,⟨rfl,wP _,Wk (Im l) _ _ _ (aPy c1 c2)⟩,?_⟩;and_intros<;>(try omega);apply Z;apply zB;refine kA 20 3 rfl rfl ?_;refine zk [2,3,4,5,8,9,10,11] ?_;refine zt q2_1 fun _ _ Z=>?_;simp(disch:=omega);and_intros<;>(try omega);apply Z;refine zq (k+1) ?_ ?_ ?_
   .omega
   .try dsimp only
    omega
   simp(disch:=omega)[hon]
  have hon:=aNt c1 c2;apply mM;refine kA 16 3 rfl rfl ?_;refine zk [2,3,4,5,8,9,10,11] ?_;refine zt q2_1 fun _ _ Z=>?_;simp(disch:=omega);and_intros<;>(try omega);apply Z;refine zq (k+1) ?_ ?_ ?_
  .omega
  .try dsimp only
   omega
  simp(disch:=omega)[hon]
 apply zE;refine zr q2_1 fun _ _ Z=>?_;simp(disch:=omega);apply Z;refine Lk 2 rfl ?_;apply aD;simp [aK];rw [bL (by omega)];simp
end Go.Proofs.YtbgfljpnhhdkoaaGreat
namespace Go.Proofs.YtbgfljpnhhdkoaaGreat.Lis
variable {ah l:List Int}{ends:List Nat}{k m n:Nat}{x:Int}
theorem Cc {α:Type} (p:α->Bool):∀(l:List α) (k:Nat),k<=l.length->(∀j a,j<k->l[j]?=some a->p a=true)->(∀a,l[k]?=some a->p a=false)->(l.takeWhile p).length=k
 | [],k,h,_,_=>by simp at h;subst h;rfl
 | x::l,0,h,_,h2=>by
  have:=h2 x rfl;simp [List.takeWhile_cons,this]
 | x::l,k+1,h,h1,h2=>by
  have h0:=h1 0 x (by omega) rfl;rw [List.takeWhile_cons,aI h0,bT,Cc p l k (by simpa using h) (fun j a hj ha=>h1 (j+1) a (by omega) (by simpa using ha)) (fun a ha=>h2 a (by simpa using ha))]
theorem below_of (hk:k<=ends.length)(h1:∀j (h:j<ends.length),j<k->at0 l ends[j]<x)(h2:∀h:k<ends.length,¬at0 l ends[k]<x):below l ends x=k:=by
 refine Cc _ ends k hk (fun j a hj ha=>?_) fun a ha=>?_
 .obtain⟨h,rfl⟩:=aM.1 ha;simpa using h1 j h hj
 obtain⟨h,rfl⟩:=aM.1 ha;simpa using h2 h
theorem below_le(l:List Int)(ends:List Nat)(x:Int):below l ends x<=ends.length:=by
 unfold below;exact List.Sublist.length_le (List.takeWhile_sublist _)
def Up(l:List Int)(ends:List Nat):Prop:=∀i j (hi:i<ends.length) (hj:j<ends.length),i<j->at0 l ends[i]<at0 l ends[j]
theorem Up.of (h:∀p e f,ends[p]?=some e->ends[p+1]?=some f->at0 l e<at0 l f):Up l ends:=by
 intro i j hi hj hij;induction j with
 | zero=>omega
 | succ j ih=>
  have h1:=h j ends[j] ends[j+1] (aQ (by omega)) (aQ hj);rcases Ef.1 hij with h2 | rfl
  .have:=ih (by omega) h2;omega
  exact h1
theorem bsI_lo (hs:Up l ends) (hm:m<ends.length)(h:at0 l ends[m]<x):∀j (hj:j<ends.length),j<m+1->at0 l ends[j]<x:=fun j hj hjm=>by
 rcases Ef.1 hjm with h1 | rfl
 .have:=hs j m hj hm h1;omega
 exact h
theorem bsI_hi (hs:Up l ends) (hm:m<ends.length)(h:¬at0 l ends[m]<x):∀j (hj:j<ends.length),m<=j->¬at0 l ends[j]<x:=fun j hj hjm=>by
 rcases Nat.eq_or_lt_of_le hjm with rfl | h1
 .exact h
 have:=hs m j hm hj h1;omega
def cmpI(a b:Int):Int:=if a<b then -1 else if b<a then 1 else 0
theorem cmpI_neg {a b:Int} :cmpI a b<0↔a<b:=by unfold cmpI;split <;> (try split) <;> omega
theorem cmpI_zero {a b:Int} :cmpI a b=0↔a=b:=by unfold cmpI;split <;> (try split) <;> omega
def fndI(l:List Int)(ends:List Nat)(x:Int):Bool:=decide (below l ends x<ends.length/\at0 l (ends[below l ends x]?.getD 0)=x)
structure Bd(i:Nat)(s:List Nat×List Int):Prop where
 ends:∀e∈s.1,e<i
 len:s.2.length=i
 back:∀k,k<i->s.2.getD k (-1)= -1\/∃j:Nat,s.2.getD k (-1)=j/\j<k
theorem run_bd(l:List Int):∀i,Bd i (runE l i)
 | 0=>⟨by simp [runE],rfl,fun k h=>by omega⟩
 | i + 1 => by
  obtain⟨h1,h2,h3⟩:=run_bd l i;refine⟨fun e he=>?_,by simp [runE,yL,h2],fun k hk=>?_⟩
  .simp only [runE,yL] at he;split at he
   .rcases cK.1 he with he | he
    .have:=h1 e he;omega
    simp at he;omega
   split at he
   .rcases List.mem_or_eq_of_mem_set he with he | he
    .have:=h1 e he;omega
    omega
   have:=h1 e he;omega
  have hget:∀x:Int,((runE l i).2++ [x]).getD k (-1)=if k<i then(runE l i).2.getD k (-1)else x:=fun x=>by
   by_cases e:k<i
   .rw [aI e,fA,aW (by omega),<- fA]
   rw [aC e,fA,bQ (by omega),h2,show k - i=0 by omega];rfl
  simp only [runE,yL];rw [hget];by_cases e:k<i
  .rw [aI e];exact h3 k e
  rw [aC e];obtain rfl:k=i:=by omega
  split
  .exact .inl rfl
  rename_i hn;have hb:=below_le l (runE l k).1 (at0 l k);have hlt:below l (runE l k).1 (at0 l k) - 1<(runE l k).1.length:=by omega
  have hg:(runE l k).1.getD (below l (runE l k).1 (at0 l k) - 1) 0=(runE l k).1[below l (runE l k).1 (at0 l k) - 1]:=by
   rw [fA,aQ hlt];rfl
  exact .inr ⟨_,rfl,by rw [hg];exact h1 _ (cN hlt)⟩
theorem Uj (hb:∀k,k<ah.length->ah.getD k (-1)= -1\/∃j:Nat,ah.getD k (-1)=j/\j<k):∀(n:Nat) (c:Int),c<ah.length->∀i∈chain ah n c,i<ah.length
 | 0,c,_,i,hi=>by simp [chain] at hi
 | n+1,c,hc,i,hi=>by
  unfold chain at hi;split at hi
  .simp at hi
  rename_i hn;rcases bU.1 hi with rfl | hi
  .omega
  refine Uj hb n _ ?_ i hi;rcases hb c.toNat (by omega)with h | ⟨j,h,hj⟩ <;> omega
theorem ofP_lt(l:List Int):∀i∈ofP l,i<l.length:=by
 intro i hi;obtain⟨h1,h2,h3⟩:=run_bd l l.length;unfold ofP at hi;rw [sO] at hi;have:=Uj (ah:=(runE l l.length).2) (by rw [h2];exact h3) (l.length+1) _ (by
  rw [h2];split
  .rename_i e he;have:=h1 e (List.mem_of_getLast? he);omega
  omega) i hi
 omega
theorem Lf (hb:∀k,k<ah.length->ah.getD k (-1)= -1\/∃j:Nat,ah.getD k (-1)=j/\j<k):∀(n m:Nat) (c:Int),c<ah.length->c<n->c<m->chain ah n c=chain ah m c
 | 0,m,c,_,h1,_=>by
  cases m with
  | zero=>rfl
  | succ m=>unfold chain;rw [aI (by omega)]
 | n+1,0,c,_,_,h2=>by unfold chain;rw [aI (by omega)]
 | n+1,m+1,c,hc,h1,h2=>by
  unfold chain;split
  .rfl
  rename_i hn;rw [Lf hb n m _ ?_ ?_ ?_]
  all_goals (rcases hb c.toNat (by omega)with h | ⟨j,h,hj⟩ <;> omega)
def revK(l:List Int)(k:Nat):List Int:=(List.range l.length).map fun p=>if p<k\/l.length<=p+k then l[l.length - 1 - p]?.getD 0 else l[p]?.getD 0
theorem revK_len(l:List Int)(k:Nat):(revK l k).length=l.length:=by simp [revK]
theorem uI(l:List Int)(k p:Nat)(h:p<(revK l k).length):(revK l k)[p]=if p<k\/l.length<=p+k then l[l.length - 1 - p]?.getD 0 else l[p]?.getD 0:=by simp [revK]
theorem revK_zero(l:List Int):revK l 0=l:=by
 apply vU (revK_len l 0);intro p h1 h2;rw [uI,aC (by omega),aQ h2];rfl
theorem revK_end(l:List Int)(k:Nat)(h:l.length<=2 * k+1):revK l k=l.reverse:=by
 apply vU (by simp [revK_len]);intro p h1 h2;have hp:p<l.length:=by rw [revK_len] at h1;exact h1
 rw [uI,vN];split
 .rw [aQ (by omega)];rfl
 have:l.length - 1 - p=p:=by omega
 simp only [this];rw [aQ hp];rfl
theorem revK_next(l:List Int)(k:Nat)(h:2 * k+1<l.length)(x y:Int)(hx:x=(revK l k)[l.length - 1 - k]?.getD 0)(hy:y=(revK l k)[k]?.getD 0):((revK l k).set k x).set (l.length - 1 - k) y=revK l (k+1):=by
 have e1:x=l[l.length - 1 - k]?.getD 0:=by
  rw [hx,aQ (by rw [revK_len];omega),fK,uI,aC (by omega)]
 have e2:y=l[k]?.getD 0:=by
  rw [hy,aQ (by rw [revK_len];omega),fK,uI,aC (by omega)]
 subst e1;subst e2;apply vU (by simp [revK_len]);intro p h1 h2;rw [List.getElem_set,List.getElem_set,uI,uI];have hp:p<l.length:=by rw [revK_len] at h2;exact h2
 by_cases c1:l.length - 1 - k=p
 .rw [aI c1,aI (by omega)];have:l.length - 1 - p=k:=by omega
  rw [this]
 rw [aC c1];by_cases c2:k=p
 .subst c2;rw [aI rfl,aI (by omega)]
 rw [aC c2];by_cases c3:p<k\/l.length<=p+k
 .rw [aI c3,aI (by omega)]
 rw [aC c3,aC (by omega)]
def ahC(l:List Int)(k:Nat):List Int:=(runE l k).2++List.replicate (l.length - k) 0
theorem ahC_len(l:List Int)(k:Nat)(h:k<=l.length):(ahC l k).length=l.length:=by
 simp [ahC,(run_bd l k).len];omega
theorem Gt (h:k<l.length):at0 l k=l[k]:=by unfold at0;rw [fA,aQ h];rfl
theorem Uw (h:k<l.length)(v:Int)(hv:v=if below l (runE l k).1 l[k]=0 then -1 else(((runE l k).1.getD (below l (runE l k).1 l[k] - 1) 0:Nat):Int)):(ahC l k).set k v=ahC l (k+1):=by
 have hl:=(run_bd l k).len;unfold ahC;rw [lR _ _ (by omega),hl,mS,show l.length - k=(l.length - (k+1))+1 by omega,sK,eQ];simp only [runE,yL,Gt h];rw [hv,bM];rfl
theorem ahC_0 (h:k<l.length)(h0:below l (runE l k).1 l[k]=0):(ahC l k).set k (-1)=ahC l (k+1):=Uw h _ (by rw [aI h0])
theorem ahC_1 (h:k<l.length)(hn:below l (runE l k).1 l[k]=n)(h0:0<n)(hlt:n - 1<(runE l k).1.length):((ahC l k).set k (-1)).set k (((runE l k).1[n - 1]:Nat):Int)=ahC l (k+1):=by
 rw [aH];refine Uw h _ ?_;rw [hn,aC (by omega),fA,aQ hlt];rfl
theorem run_new (h:k<l.length)(h0:below l (runE l k).1 l[k]=(runE l k).1.length):(runE l (k+1)).1=(runE l k).1++ [k]:=by
 simp only [runE,yL,Gt h];rw [aI h0]
theorem run_set (h:k<l.length)(hn:below l (runE l k).1 l[k]=n)(hlt:n<(runE l k).1.length)(hb:(runE l k).1[n]<l.length)(h2:l[k]<l[(runE l k).1[n]]):(runE l (k+1)).1=(runE l k).1.set n k:=by
 simp only [runE,yL,Gt h,hn];rw [aC (by omega),fA,aQ hlt,fK,Gt hb,aI h2]
theorem run_same (h:k<l.length)(hn:below l (runE l k).1 l[k]=n)(hlt:n<(runE l k).1.length)(hb:(runE l k).1[n]<l.length)(h2:¬l[k]<l[(runE l k).1[n]]):(runE l (k+1)).1=(runE l k).1:=by
 simp only [runE,yL,Gt h,hn];rw [aC (by omega),fA,aQ hlt,fK,Gt hb,aC h2]
theorem run_len(l:List Int):∀k,(runE l k).1.length<=k
 | 0=>by simp [runE]
 | k+1=>by
  have:=run_len l k;simp only [runE,yL];split
  .simp;omega
  split
  .simp;omega
  omega
theorem run_up (hd:Dis l) (hk:k<=l.length):Up l (runE l k).1:=Up.of (aDa l hd k hk).1.up
theorem aLk(l:List Int):ahC l l.length=(runE l l.length).2:=by simp [ahC]
theorem chain_step(l:List Int) (hm:m<l.length)(h:m<(ahC l l.length).length):chain (runE l l.length).2 (l.length+1) m=m::chain (runE l l.length).2 (l.length+1) ((ahC l l.length)[m])/\ -1<=(ahC l l.length)[m]/\(ahC l l.length)[m]<m:=by
 obtain⟨h1,h2,h3⟩:=run_bd l l.length;have hg:(ahC l l.length)[m]=(runE l l.length).2.getD m (-1):=by
  have e:=aLk l;rw [fA,<- e,aQ h];rfl
 have hb:=h3 m hm;have hv: -1<=(ahC l l.length)[m]/\(ahC l l.length)[m]<m:=by
  rw [hg];rcases hb with h | ⟨j,h,hj⟩ <;> omega
 refine⟨?_,hv⟩;rw [show chain (runE l l.length).2 (l.length+1) (m:Int)=(m:Int).toNat::chain (runE l l.length).2 l.length ((runE l l.length).2.getD (m:Int).toNat (-1)) by
  rw [chain,aC (by omega)]]
 rw [Int.toNat_natCast,<- hg,Lf (by rw [h2];exact h3) l.length (l.length+1) _ (by rw [h2];omega) (by omega) (by omega)]
theorem chain_end(ah:List Int)(n:Nat):chain ah n (-1)= []:=by
 cases n with
 | zero=>rfl
 | succ n=>rw [chain,aI (by omega)]
theorem ofP_ne(l:List Int)(h:0<(runE l l.length).1.length):ofP l=(chain (runE l l.length).2 (l.length+1) (((runE l l.length).1[(runE l l.length).1.length - 1]:Nat):Int)).reverse:=by
 unfold ofP;rw [List.getLast?_eq_getElem?,aQ (by omega)]
theorem ofP_nil(l:List Int)(h:(runE l l.length).1.length=0):ofP l= []:=by
 unfold ofP;rw [lS h];simp [chain_end]
theorem Rl (hb:∀k,k<ah.length->ah.getD k (-1)= -1\/∃j:Nat,ah.getD k (-1)=j/\j<k):∀(n:Nat) (c:Int),c<ah.length->(chain ah n c).length<=(c+1).toNat
 | 0,c,_=>by simp [chain]
 | n+1,c,hc=>by
  unfold chain;split
  .simp
  rename_i hn;have hv:ah.getD c.toNat (-1)= -1\/∃j:Nat,ah.getD c.toNat (-1)=j/\j<c.toNat:=hb c.toNat (by omega);have:=Rl hb n (ah.getD c.toNat (-1)) (by rcases hv with h | ⟨j,h,hj⟩ <;> omega);rw [bT];rcases hv with h | ⟨j,h,hj⟩
  .rw [h,chain_end];simp;omega
  rw [h] at this |-;omega
theorem ofP_len(l:List Int):(ofP l).length<=l.length:=by
 obtain⟨h1,h2,h3⟩:=run_bd l l.length;unfold ofP;rw [List.length_reverse];split
 .rename_i e he;have hlt:=h1 e (List.mem_of_getLast? he);have:=Rl (ah:=(runE l l.length).2) (by rw [h2];exact h3) (l.length+1) (e:Int) (by rw [h2];omega);omega
 rw [chain_end];simp
end Go.Proofs.YtbgfljpnhhdkoaaGreat.Lis
