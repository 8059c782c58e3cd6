import Derived.Test.YtbgfljpnhhdkoaaGreatVmX9
import Derived.Lib.Overlaps
import Derived.Laws.IdiomStrings
import Derived.Laws.Externs
import Derived.LaidEql
import Derived.Test.YtbgfljpnhhdkoaaGreatVm6
set_option linter.all false
namespace Go.Vm
open Go
variable {M:Mem}{N clock clock' i:Nat}{R':D->Value->Prop}{alt:Bool}{args:Array Operand}{bs:List Nat}{dst:Option Tmp}{es es':Array MapEntry}{f:Operand->TypeId->pW}{g:Gh}{k v:Value}{kd:TypeDesc}{kvs kvs':List (Value×Nat×D)}{o:Oper}{ob:Option (List (List D))}{obj:List (List D)}{op:Op}{rd:Operand->Slot}{sets:List (Nat×Slot)}{sk sx:Slot}{st:St}{t:TypeId}{ts:Array TypeId}{val:Nat->Value}{w:World}{x:Operand}
def Qh(obj:List (List D))(m i N:Nat)(kd:TypeDesc)(clock:Nat)(kvs:List (Value×Nat×D)):Prop:=
 ∃cs,obj[m]?=some cs/\cs[i]?=some (.mp N kd clock kvs)
def putM(obj:List (List D))(m i N:Nat)(kd:TypeDesc)(clock:Nat)(kvs:List (Value×Nat×D)):List (List D):=
 obj.set m ((obj.getD m []).set i (.mp N kd clock kvs))
def Zm(kvs:List (Value×Nat×D))(k:Value)(zero d:D)(b:Bool):Prop:=
 (b=true/\∃j s:Nat,kvs[j]?=some (k,s,d))\/(b=false/\d=zero/\∀e∈kvs,e.1≠k)
def aRz(kvs:List (Value×Nat×D))(clock:Nat)(k:Value)(d:D)(kvs':List (Value×Nat×D))(clock':Nat):Prop:=
 (∃(j s:Nat) (d0:D),kvs[j]?=some (k,s,d0)/\kvs'=kvs.set j (k,s,d)/\clock'=clock)\/((∀e∈kvs,e.1≠k)/\kvs'=kvs++ [(k,clock,d)]/\clock'=clock+1)
def aYx(kvs:List (Value×Nat×D))(k:Value)(kvs':List (Value×Nat×D)):Prop:=
 (∃(j s:Nat) (d0:D),kvs[j]?=some (k,s,d0)/\kvs'=kvs.eraseIdx j)\/((∀e∈kvs,e.1≠k)/\kvs'=kvs)
def mpI(P:Program)(t:TypeId):Option (TypeDesc×Value):=
 match P.underlying t with
 | some (.map kt et) => match P.underlying kt, P.info? et with
  | some kd,some i=>match i.zero with
   | some z=>some (kd,z)
   | none=>none
  | _,_=>none
 | _=>none
def zmD(z:Value):D:=(D.ofV z).s2
theorem uP {P:Program} {z:Value} (h:mpI P t=some (kd,z)):∃kt et i,P.underlying t=some (.map kt et)/\P.underlying kt=some kd/\P.info? et=some i/\i.zero=some z:=by
 unfold mpI at h;split at h
 .rename_i kt et h1;split at h
  .rename_i kd' i h2 h3;split at h
   .rename_i zv h4;simp only [bF,gI] at h;obtain⟨rfl,rfl⟩:=h;exact⟨kt,et,i,h1,h2,h3,h4⟩
   cases h
  cases h
 cases h
section
variable {P:Program}
def wC(P:Program)(dst:Option Tmp)(t:TypeId)(sx sk:Slot)(ok:Bool)(obj:List (List D)):pW:=fun sets ob=>
 match dst,sx,sk,mpI P t with
 | some d, .d (.mref N), .d (.v k), some (kd, z) => ∃ m i clock kvs dv b, (Qh obj m i N kd clock kvs /\ MapKept.IsKey kd k /\ (zmD z).arr = true /\ Zm kvs k (zmD z) dv b) /\
   sets= [(d,.d (if ok=true then .tup [dv,.bool b] else dv))]/\ob=none
 | some d, .d (.mp _ kd0 _ kvs), .d (.v k), some (kd, z) => ∃ dv b, (kd0 = kd /\ MapKept.IsKey kd k /\ (zmD z).arr = true /\ Zm kvs k (zmD z) dv b) /\
   sets= [(d,.d (if ok=true then .tup [dv,.bool b] else dv))]/\ob=none
 | _,_,_,_=>False
def vP(P:Program)(dst:Option Tmp)(t:TypeId)(x:Operand)(sx sk sv:Slot)(obj:List (List D)):pW:=fun sets ob=>
 match dst,sx,sk,sv,mpI P t with
 | none, .d (.mref N), .d (.v k), .d d0, some (kd, _) => ∃ m i clock kvs clock' kvs', (Qh obj m i N kd clock kvs /\ MapKept.IsKey kd k /\ d0.s2.arr = true /\ d0.solid = true /\ aRz kvs clock k d0.s2 kvs' clock') /\
   sets= []/\ob=some (putM obj m i N kd clock' kvs')
 | none, .d (.mp N kd0 clock kvs), .d (.v k), .d d0, some (kd, _) => ∃ tx clock' kvs', (x = .tmp tx /\ kd0 = kd /\ MapKept.IsKey kd k /\ d0.s2.arr = true /\ d0.solid = true /\ aRz kvs clock k d0.s2 kvs' clock') /\
   sets= [(tx,.d (.mp N kd clock' kvs'))]/\ob=none
 | _,_,_,_,_=>False
def zT(P:Program)(dst:Option Tmp)(t:TypeId)(sx sk:Slot)(obj:List (List D)):pW:=fun sets ob=>
 match sx,sk,mpI P t with
 | .d (.mref N), .d (.v k), some (kd, _) => ∃ m i clock kvs kvs', (dst = none /\ Qh obj m i N kd clock kvs /\ MapKept.IsKey kd k /\ aYx kvs k kvs') /\
   sets= []/\ob=some (putM obj m i N kd clock kvs')
 | _,_,_=>False
def Ki(P:Program)(dst:Option Tmp)(t:TypeId)(sx:Slot)(obj:List (List D)):pW:=fun sets ob=>
 match dst,sx,mpI P t with
 | some d,.d (.mref N),some (kd,_)=>∃m i clock kvs,Qh obj m i N kd clock kvs/\sets= [(d,.d (.int kvs.length))]/\ob=none
 | _,_,_=>False
def tC(P:Program)(dst:Option Tmp)(t:TypeId)(r:Option Slot)(obj:List (List D)):pW:=fun sets ob=>
 match dst,mpI P t with
 | some d,some (kd,_)=>(match r with | none=>True | some (.d (.v (.int _ _)))=>True | _=>False)/\sets= [(d,.d (.mp obj.length kd 0 []))]/\ob=some (obj++ [[]])
 | _,_=>False
end
theorem Re (h:Ok w g st val) {m:Nat} (hh:Qh st.obj m i N kd clock kvs) (hv:R g.M g.bs (.mref N) v):
  ∃(b:Nat) (es:Array MapEntry),v= .map (some b)/\g.X b=some (.obj m, [i])/\w.heap[b]?=some (.map es clock)/\(∀o,g.M b o=none)/\es.size=kvs.length/\(MapKept.Stamped es clock/\∀x∈es.toList,MapKept.IsKey kd x.key)/\
   (∀(i:Nat) (k:Value) (s:Nat) (d:D) (e:MapEntry),kvs[i]?=some (k,s,d)->es[i]?=some e->e.key=k/\e.born=s/\R g.M g.bs d e.val/\d.arr=true)/\g.bs[N]?=some b:=by
 obtain⟨cs,h1,h2⟩:=hh;have hml:=(aP.1 h1).1;obtain⟨bm,hbm⟩:∃bm,g.bs[m]?=some bm:=⟨_,aS (by rw [h.ol];exact hml)⟩;have hne:cs≠ []:=by rintro rfl;simp at h2
 obtain⟨cur,E,o1,o2,o3,o4,o5⟩:=(h.obj m bm cs hbm h1).resolve_left hne;have hil:=(aP.1 h2).1;obtain⟨x,hx⟩:∃x,cur[i]?=some x:=⟨_,bR (by rw [o2];exact hil)⟩;obtain⟨r1,r2,r3⟩:=o5 i _ x h2 hx;cases r2 with
 | mp _ _ _ _ _ _ ho =>
  obtain⟨b,es,rfl,e1,e2,e3,e4,e5,e6,e7⟩:=ho;cases hv with
  | mref _ b' hb'=>
   have:b'=b:=by rw [e1] at hb';simpa using hb'.symm
   subst this;exact⟨b',es,rfl,e2,e3,e4,e5,e6,e7,e1⟩
 | flat _ _ _ hf=>simp [D.flat] at hf
theorem aBs (h:Ok w g st val) {t:Nat} (hs:st.env t= .d (.mp N kd clock kvs)):
  ∃(b:Nat) (es:Array MapEntry),val t= .map (some b)/\g.X b=some (.slot t, [])/\w.heap[b]?=some (.map es clock)/\(∀o,g.M b o=none)/\es.size=kvs.length/\(MapKept.Stamped es clock/\∀x∈es.toList,MapKept.IsKey kd x.key)/\
   (∀(i:Nat) (k:Value) (s:Nat) (d:D) (e:MapEntry),kvs[i]?=some (k,s,d)->es[i]?=some e->e.key=k/\e.born=s/\R g.M g.bs d e.val/\d.arr=true)/\g.bs[N]?=some b:=by
 have hsl:=h.slot t;rw [hs] at hsl;obtain⟨_,ho⟩:=hsl;generalize hv:val t=v at ho;cases ho with
 | mp _ _ _ _ _ _ ho=>
  obtain⟨b,es,rfl,e1,e2,e3,e4,e5,e6,e7⟩:=ho;exact⟨b,es,rfl,e2,e3,e4,e5,e6,e7,e1⟩
 | flat _ _ _ hf=>simp [D.flat] at hf
theorem Ok.putMs (h:Ok w g st val) {t:Nat} {b:Nat} {o:Obj} (hv:val t= .map (some b))(hX:g.X b=some (.slot t, []))(hb:w.heap[b]?=some o)(hM:∀o,g.M b o=none)(hbs:g.bs[N]?=some b)
  (hsz:es'.size=kvs'.length) (hst:MapKept.Stamped es' clock'/\∀x∈es'.toList,MapKept.IsKey kd x.key)
  (hr:∀(i:Nat) (k:Value) (s:Nat) (d:D) (e:MapEntry),kvs'[i]?=some (k,s,d)->es'[i]?=some e->e.key=k/\e.born=s/\R g.M g.bs d e.val/\d.arr=true):
  Ok { w with heap:=w.heap.setIfInBounds b (.map es' clock') } g (st.set t (.d (.mp N kd clock' kvs'))) val/\Fr w g { w with heap:=w.heap.setIfInBounds b (.map es' clock') } g:=by
 obtain⟨hself,hoth⟩:=MapKept.heap_set (o':= .map es' clock') hb;have other:∀(hd:Holder) (b':Nat) (q:List Nat),(hd,q)≠(Holder.slot t, [])->g.X b'=some (hd,q)->(w.heap.setIfInBounds b (.map es' clock'))[b']?=w.heap[b']?/\(∀o,g.M b' o=none->g.M b' o=none)/\g.X b'=some (hd,q):=fun hd b' q hne' hq=>by
  have:b'≠b:=by rintro rfl;rw [hX] at hq;simp only [bF] at hq;exact hne' hq.symm
  exact⟨hoth b' this,fun _ h=>h,hq⟩
 refine⟨⟨fun b' o c hc=>?_,fun b' t ht=>?_,fun u=>?_,h.ll,fun n b' ds a1 a2=>(h.loc n b' ds a1 a2).keep (fun _ _ _ h=>h) (fun _ _ h=>h) (fun b'' q=>other _ b'' q (by simp)),h.ol,fun n b' ds a1 a2=>(h.obj n b' ds a1 a2).keep (fun _ _ _ h=>h) (fun _ _ h=>h) (fun b'' q=>other _ b'' q (by simp))⟩,⟨rfl,rfl,rfl,by simp,fun b' hb' hx'=>?_,fun _ _ _ h=>h,fun _ _ h=>h⟩⟩
 .have hne':b'≠b:=by intro e;subst e;rw [hM] at hc;cases hc
  rw [World.cell?_of_block (w:=w) (a:=⟨b',o,none⟩) (hoth b' hne')];exact h.mem b' o c hc
 .have:=h.xlt b' t ht;simpa using this
 .simp only [St.set];by_cases hu:u=t
  .subst hu;simp only [aU];rw [hv];exact⟨.mp _ _ _ b _ hbs,.mp _ _ _ _ _ _ ⟨b,es',rfl,hbs,hX,hself,hM,hsz,hst,hr⟩⟩
  simp only [hu,bK];exact(h.slot u).keep (fun _ _ _ h=>h) (fun _ _ h=>h) (fun _ _ h=>h) (fun b'' q=>other _ b'' q (by simp [hu]))
 have:b'≠b:=by intro e;subst e;rw [hX] at hx';cases hx'
 exact⟨hoth b' this,hx',fun _=>rfl⟩
theorem Ok.putM (h:Ok w g st val) {m:Nat} (hh:Qh st.obj m i N kd clock kvs) {b:Nat} (hX:g.X b=some (.obj m, [i]))(hb:w.heap[b]?=some (.map es clock))(hM:∀o,g.M b o=none)(hbs:g.bs[N]?=some b)
  (hsz:es'.size=kvs'.length) (hst:MapKept.Stamped es' clock'/\∀x∈es'.toList,MapKept.IsKey kd x.key)
  (hr:∀(i:Nat) (k:Value) (s:Nat) (d:D) (e:MapEntry),kvs'[i]?=some (k,s,d)->es'[i]?=some e->e.key=k/\e.born=s/\R g.M g.bs d e.val/\d.arr=true):
  Ok { w with heap:=w.heap.setIfInBounds b (.map es' clock') } g { st with obj:=Go.Vm.putM st.obj m i N kd clock' kvs' } val/\Fr w g { w with heap:=w.heap.setIfInBounds b (.map es' clock') } g:=by
 obtain⟨cs,h1,h2⟩:=hh;have hml:=(aP.1 h1).1;have hgd:st.obj.getD m []=cs:=by rw [lN,h1];rfl
 obtain⟨bm,hbm⟩:∃bm,g.bs[m]?=some bm:=⟨_,aS (by rw [h.ol];exact hml)⟩;have hne:cs≠ []:=by rintro rfl;simp at h2
 obtain⟨cur,E,o1,o2,o3,o4,o5⟩:=(h.obj m bm cs hbm h1).resolve_left hne;have hil:=(aP.1 h2).1;obtain⟨hself,hoth⟩:=MapKept.heap_set (o':= .map es' clock') hb;have hbm2:bm≠b:=by intro e;subst e;rw [o1] at hb;cases hb
 obtain⟨x,hx⟩:∃x,cur[i]?=some x:=⟨_,bR (by rw [o2];exact hil)⟩;have hxv:x= .map (some b):=by
  obtain⟨r1,r2,r3⟩:=o5 i _ x h2 hx;cases r1 with
  | mp _ _ _ b' _ hb'=>rw [hbs] at hb';simp at hb';rw [hb']
 have other:∀(hd:Holder) (b':Nat) (q:List Nat),(hd,q)≠(Holder.obj m, [i])->g.X b'=some (hd,q)->(w.heap.setIfInBounds b (.map es' clock'))[b']?=w.heap[b']?/\(∀o,g.M b' o=none->g.M b' o=none)/\g.X b'=some (hd,q):=fun hd b' q hne' hq=>by
  have:b'≠b:=by rintro rfl;rw [hX] at hq;simp only [bF] at hq;exact hne' hq.symm
  exact⟨hoth b' this,fun _ h=>h,hq⟩
 have other':∀(hd:Holder),hd≠ .obj m->∀(b':Nat) (q:List Nat),g.X b'=some (hd,q)->(w.heap.setIfInBounds b (.map es' clock'))[b']?=w.heap[b']?/\(∀o,g.M b' o=none->g.M b' o=none)/\g.X b'=some (hd,q):=fun hd hne' b' q=>other hd b' q (by simp [hne']);refine⟨⟨fun b' o c hc=>?_,fun b' t ht=>?_,fun t=>(h.slot t).keep (fun _ _ _ h=>h) (fun _ _ h=>h) (fun _ _ h=>h) (other' _ (by simp)),h.ll,fun n b' ds a1 a2=>(h.loc n b' ds a1 a2).keep (fun _ _ _ h=>h) (fun _ _ h=>h) (other' _ (by simp)),by simp [Go.Vm.putM,h.ol],fun n b' ds a1 a2=>?_⟩,⟨rfl,rfl,rfl,by simp,fun b' hb' hx'=>?_,fun _ _ _ h=>h,fun _ _ h=>h⟩⟩
 .have hne':b'≠b:=by intro e;subst e;rw [hM] at hc;cases hc
  rw [World.cell?_of_block (w:=w) (a:=⟨b',o,none⟩) (hoth b' hne')];exact h.mem b' o c hc
 .have:=h.xlt b' t ht;simpa using this
 .have a2':(st.obj.set m (cs.set i (.mp N kd clock' kvs')))[n]?=some ds:=by
   have a3:(Go.Vm.putM st.obj m i N kd clock' kvs')[n]?=some ds:=a2;unfold Go.Vm.putM at a3;rw [hgd] at a3;exact a3
  rw [cL] at a2';by_cases e:m=n
  .subst e;simp only [aU,hml] at a2';have eds:cs.set i (.mp N kd clock' kvs')=ds:=by simpa using a2'
   subst eds;have ebm:b'=bm:=by rw [hbm] at a1;simpa using a1.symm
   subst ebm;refine .inr ⟨cur,E,by rw [hoth b' hbm2];exact o1,by simpa using o2,o3,o4,fun j d y c1 c2=>?_⟩;rw [cL] at c1;by_cases ej:i=j
   .subst ej;simp only [aU,hil] at c1;have ed:D.mp N kd clock' kvs'=d:=by simpa using c1
    subst ed;have ey:y=x:=by rw [hx] at c2;simpa using c2.symm
    subst ey;subst hxv;exact⟨.mp _ _ _ b _ hbs,.mp _ _ _ _ _ _ ⟨b,es',rfl,hbs,hX,hself,hM,hsz,hst,hr⟩,rfl⟩
   rw [aD ej] at c1;obtain⟨r1,r2,r3⟩:=o5 j d y c1 c2;exact⟨r1,r2.move (fun _ _ _ h=>h) (fun _ _ h=>h) [j] fun b'' q hq=>other _ b'' _ (by simp;intro e;exact absurd e.symm ej) hq,r3⟩
  rw [aD e] at a2';exact(h.obj n b' ds a1 a2').keep (fun _ _ _ h=>h) (fun _ _ h=>h) (other' _ (by simp;exact fun e'=>e e'.symm))
 have:b'≠b:=by intro e;subst e;rw [hX] at hx';cases hx'
 exact⟨hoth b' this,hx',fun _=>rfl⟩
section
variable {P:Program}
theorem aBk {X:Nat->Option mV} {hd:Holder} {p:List Nat} {d:D} (hr:R M bs d v)(h:d.arr=true):Own w M bs X hd p d v:=by
 cases d with
 | agg cs =>
  cases hr with
  | agg _ vs hl hr h1=>
   refine .agg _ _ _ fun i d x a1 a2=> .flat _ _ _ ?_;simp only [D.arr,D.cells,gF] at h;exact h d (bE a1)
 | _=>exact .flat _ _ _ (by simpa [D.arr,D.cells] using h)
theorem aTx (hsz:es.size=kvs.length)(hr:∀(i:Nat) (k:Value) (s:Nat) (d:D) (e:MapEntry),kvs[i]?=some (k,s,d)->es[i]?=some e->e.key=k/\e.born=s/\R' d e.val/\d.arr=true):
  ∀(i:Nat) (e:MapEntry),es[i]?=some e->∃s d,kvs[i]?=some (e.key,s,d)/\e.born=s/\R' d e.val/\d.arr=true:=by
 intro i e he;have hi:i<kvs.length:=by rw [<- hsz];exact(dL.1 he).1
 rcases hkv:kvs[i] with ⟨k,s,d⟩;have h1:kvs[i]?=some (k,s,d):=by rw [aS hi,hkv]
 obtain⟨a,b,c,d'⟩:=hr i k s d e h1 he;exact⟨s,d,by rw [a];exact h1,b,c,d'⟩
theorem aKm (hst:MapKept.Stamped es clock) {j:Nat} {e e':MapEntry} (h1:es[i]?=some e)(h2:es[j]?=some e')(hk:e.key=e'.key):i=j:=by
 have hnd:=hst.2.2;have hi:i<(es.toList.map (·.key)).length:=by simpa using(dL.1 h1).1
 have hj:j<(es.toList.map (·.key)).length:=by simpa using(dL.1 h2).1
 have e1:(es.toList.map (·.key))[i]?=some e.key:=by rw [cF,dM,h1];rfl
 have e2:(es.toList.map (·.key))[j]?=some e'.key:=by rw [cF,dM,h2];rfl
 rcases vK i j with h | h | h
 .exfalso;have:=(qR.1 hnd) i j hi hj h;rw [aS hi] at e1;rw [aS hj] at e2;simp only [bF] at e1 e2;exact this (by rw [e1,e2,hk])
 .exact h
 exfalso;have:=(qR.1 hnd) j i hj hi h;rw [aS hi] at e1;rw [aS hj] at e2;simp only [bF] at e1 e2;exact this (by rw [e1,e2,hk])
theorem Qy (hk:MapKept.IsKey kd k)(hst:MapKept.Stamped es clock/\∀x∈es.toList,MapKept.IsKey kd x.key)(hsz:es.size=kvs.length)
  (hr:∀(i:Nat) (k:Value) (s:Nat) (d:D) (e:MapEntry),kvs[i]?=some (k,s,d)->es[i]?=some e->e.key=k/\e.born=s/\R' d e.val/\d.arr=true):
  (∀(j s:Nat) (d:D),kvs[j]?=some (k,s,d)->∃e,es[j]?=some e/\e.key=k/\e.born=s/\R' d e.val/\d.arr=true/\Instr.findNow kd k es.toList 0=some (some (j,e.val)))/\
  ((∀e∈kvs,e.1≠k)->Instr.findNow kd k es.toList 0=some none/\∀x∈es.toList,x.key≠k):=by
 refine⟨fun j s d hj=>?_,fun hno=>?_⟩
 .have hlt:j<es.size:=by rw [hsz];exact(aP.1 hj).1
  have he:es[j]?=some es[j]:=bR hlt;obtain⟨a,b,c,d'⟩:=hr j k s d _ hj he;refine⟨_,he,a,b,c,d',?_⟩;rcases MapKept.findNow_spec hk es.toList 0 hst.2 with ⟨h1,h2⟩ | ⟨j',e',h1,h2,h3⟩
  .exact absurd a (h2 _ (by simp))
  rw [dM] at h2;have:=aKm hst.1 he h2 (by rw [a,h3]);subst this;rw [he] at h2;simp only [bF] at h2;subst h2;simpa using h1
 have hall:∀x∈es.toList,x.key≠k:=by
  intro x hx hxk;obtain⟨i,hi⟩:=eW hx;rw [dM] at hi;obtain⟨s,d,h1,_⟩:=aTx hsz hr i x hi;exact hno _ (bE h1) hxk
 rcases MapKept.findNow_spec hk es.toList 0 hst.2 with h | ⟨j',e',h1,h2,h3⟩
 .exact h
 exact absurd h3 (hall _ (bE h2))
theorem aZp (z:Value):R M bs (zmD z) z:=(R.ofV M bs z).s2
theorem Ib (t:TypeId)(x i:Operand)(ok:Bool)(hd:eF o st)(ho:o.op= .lookup t x i ok) {d:Nat} {z:Value} {dv:D} {b:Bool} (hdst:o.dst=some d)(hi:st.rdS i= .d (.v k))(hmp:mpI P t=some (kd,z))(hk:MapKept.IsKey kd k)(harr:(zmD z).arr=true)(hget:Zm kvs k (zmD z) dv b)
  (hrow:∀(w:World) (g:Gh) (tmps:Array Value),Ok w g st (cJ tmps)->∃(bl:Nat) (es:Array MapEntry) (clock:Nat),ev tmps x= .map (some bl)/\w.heap[bl]?=some (.map es clock)/\es.size=kvs.length/\(MapKept.Stamped es clock/\∀x∈es.toList,MapKept.IsKey kd x.key)/\
   (∀(i:Nat) (k:Value) (s:Nat) (d:D) (e:MapEntry),kvs[i]?=some (k,s,d)->es[i]?=some e->e.key=k/\e.born=s/\R g.M g.bs d e.val/\d.arr=true)):
  Does P o st (· =st.upd ⟨[(d,.d (if ok=true then .tup [dv,.bool b] else dv))],none,none⟩):=by
 obtain⟨kt,et,ti,u1,u2,u3,u4⟩:=uP hmp;rw [Vh];refine cH hd fun w g tmps hok=>?_;have hik:ev tmps i=k:=by
  have:=hok.rd i;rw [dR hi] at this;exact this.vEq
 obtain⟨bl,es,clock,hv,o2,o4,o5,o6⟩:=hrow w g tmps hok;obtain⟨f1,f2⟩:=Qy hk o5 o4 o6;have hck:=MapKept.run_checkKey (P:=P) (w:=w) u2 hk es.isEmpty 9999;have hgo:=MapKept.run_getObj_map (P:=P) o2;have fin:∀v:Value,R g.M g.bs dv v->dv.arr=true->(execOp (ev tmps) o).run P w= .ok (.value (if ok=true then .tuple #[v,.bool b] else v)) w->∃v w' g' st',((execOp (⟨tmps, []⟩:Act).eval o).run P w= .ok (.value v) w'\/((execOp (⟨tmps, []⟩:Act).eval o).run P w= .ok .skip w'/\v=undef))/\
   st'=st.set d (.d (if ok=true then .tup [dv,.bool b] else dv))/\Fr w g w' g'/\Ok w' g' st' (xC o.dst v (cJ tmps))/\st'.n=st.n/\g'.bl.take g.bl.length=g.bl:=by
  intro v hv ha hrun;refine⟨_,w,g,_,.inl hrun,rfl,Fr.refl w g,?_,rfl,by simp⟩;rw [hdst];refine hok.set d _ _ ?_;cases ok with
  | false=>exact⟨hv,aBk hv ha⟩
  | true =>
   have hall:∀(i:Nat) (d:D) (x:Value), [dv,D.bool b][i]?=some d->(#[v,Value.bool b]:Array Value)[i]?=some x->R g.M g.bs d x/\d.arr=true:=by
    intro i d x a1 a2
    match i with
    | 0=>simp at a1 a2;subst a1;subst a2;exact⟨hv,ha⟩
    | 1=>simp at a1 a2;subst a1;subst a2;exact⟨.v _ rfl,rfl⟩
    | i+2=>simp at a1
   exact⟨.tup _ _ (by simp) fun i d x a1 a2=>(hall i d x a1 a2).1,.tup _ _ _ fun i d x a1 a2=>aBk (hall i d x a1 a2).1 (hall i d x a1 a2).2⟩
 rcases hget with ⟨rfl,j,s,hj⟩ | ⟨rfl,rfl,hno⟩
 .obtain⟨e,e1,e2,e3,e4,e5,e6⟩:=f1 j s dv hj;have hfk:=MapKept.run_findKey (P:=P) (w:=w) u2 e6;refine fin e.val e4 e5 ?_;cases ok <;> simp [execOp,ho,Instr.lookup,hv,hik,run_underlying u1,hgo,hck,hfk]
 obtain⟨e1,e2⟩:=f2 hno;have hfk:=MapKept.run_findKey (P:=P) (w:=w) u2 e1;refine fin z (aZp z) harr ?_;cases ok <;> simp [execOp,ho,Instr.lookup,hv,hik,run_underlying u1,hgo,hck,hfk,zeroValue,typeInfo,u3,u4]
theorem aU1(v:Value) :D.ofV v≠ .mp N kd clock kvs:=by
 intro h;unfold D.ofV D.ofV1 at h
 repeat' (split at h)
 all_goals exact D.noConfusion h
theorem aQ3 (h:st.rdS x= .d (.mp N kd clock kvs)):∃t,x= .tmp t/\st.env t= .d (.mp N kd clock kvs):=by
 cases x with
 | tmp t=>exact⟨t,rfl,h⟩
 | const v=>simp only [St.rdS,Slot.d.injEq] at h;exact absurd h (aU1 v)
 | _=>simp [St.rdS,Slot.any] at h
theorem Tf (t:TypeId)(x i:Operand)(ok:Bool)(hd:eF o st)(ho:o.op= .lookup t x i ok) 
  (h:wC P o.dst t (st.rdS x) (st.rdS i) ok st.obj sets ob):Does P o st (· =st.upd ⟨sets,none,ob⟩):=by
 unfold wC at h;split at h
 .rename_i d N k kd z hdst hx hi hmp;obtain⟨m,c,clock,kvs,dv,b,⟨hh,hk,harr,hget⟩,rfl,rfl⟩:=h;refine Ib t x i ok hd ho hdst hi hmp hk harr hget fun w g tmps hok=>?_;have hrx:=hok.rd x;rw [dR hx] at hrx;obtain⟨bl,es,hv,o1,o2,o3,o4,o5,o6,_⟩:=Re hok hh hrx;exact⟨bl,es,clock,hv,o2,o4,o5,o6⟩
 .rename_i d N kd0 clock kvs k kd z hdst hx hi hmp;obtain⟨dv,b,⟨rfl,hk,harr,hget⟩,rfl,rfl⟩:=h;refine Ib t x i ok hd ho hdst hi hmp hk harr hget fun w g tmps hok=>?_;obtain⟨tx,rfl,he⟩:=aQ3 hx;obtain⟨bl,es,hv,o1,o2,o3,o4,o5,o6,_⟩:=aBs hok he;exact⟨bl,es,clock,hv,o2,o4,o5,o6⟩
 exact h.elim
theorem aI6 {α:Type} {es:Array α} {e:α} {n:Nat} (h:es.size=n):∀(i:Nat) (x:α),(es.push e)[i]?=some x->(i<n/\es[i]?=some x)\/(i=n/\x=e):=by
 intro i x hx;rw [Array.getElem?_push] at hx;split at hx
 .rename_i hi;exact .inr ⟨by omega,by simpa using hx.symm⟩
 exact .inl ⟨by have:=(dL.1 hx).1;omega,hx⟩
theorem Uq {d:D} (hk:MapKept.IsKey kd k)(hst:MapKept.Stamped es clock/\∀x∈es.toList,MapKept.IsKey kd x.key)(hsz:es.size=kvs.length)
  (hr:∀(i:Nat) (k:Value) (s:Nat) (d:D) (e:MapEntry),kvs[i]?=some (k,s,d)->es[i]?=some e->e.key=k/\e.born=s/\R M bs d e.val/\d.arr=true) (hd:R M bs d v) (ha:d.arr=true) (hset:aRz kvs clock k d kvs' clock'):
  ∃es':Array MapEntry,(∀(P:Program) (w:World) (r:Nat) (t kt et:TypeId),P.underlying t=some (.map kt et)->P.underlying kt=some kd->w.heap[r]?=some (.map es clock)->(Instr.mapUpdate t (.map (some r)) k v).run P w= .ok () { w with heap:=w.heap.setIfInBounds r (.map es' clock') })/\
   es'.size=kvs'.length/\(MapKept.Stamped es' clock'/\∀x∈es'.toList,MapKept.IsKey kd x.key)/\
   ∀(i:Nat) (k:Value) (s:Nat) (d:D) (e:MapEntry),kvs'[i]?=some (k,s,d)->es'[i]?=some e->e.key=k/\e.born=s/\R M bs d e.val/\d.arr=true:=by
 obtain⟨f1,f2⟩:=Qy hk hst hsz hr;rcases hset with ⟨j,s,d0,hj,rfl,rfl⟩ | ⟨hno,rfl,rfl⟩
 .obtain⟨e,e1,e2,e3,e4,e5,e6⟩:=f1 j s d0 hj;refine⟨es.modify j fun e=> { e with key:=k,val:=v },fun P w r t kt et u1 u2 hb=>?_,by simp [hsz],⟨?_,?_⟩,fun i k' s' d' e' a1 a2=>?_⟩
  .have hck:=MapKept.run_checkKey (P:=P) (w:=w) u2 hk false 9999;have hfk:=MapKept.run_findKey (P:=P) (w:=w) u2 e6;have hks:=MapKept.run_keyThatStays (P:=P) (w:=w) hk;have hso:=MapKept.run_setObj_map (P:=P) (.map (es.modify j fun e=> { e with key:=k,val:=v }) clock') hb;simp [Instr.mapUpdate,run_underlying u1,MapKept.run_getObj_map hb,hck,hfk,e1,e2,hks,hso]
  .exact MapKept.stamped_modify hst.1 j _ (fun _ _=>rfl) (fun x _ hx=>by rw [e1] at hx;simp at hx;subst hx;exact e2.symm)
  .exact MapKept.isKey_modify hst.2 j _ (fun x hx=>by rw [e1] at hx;simp at hx;subst hx;exact e2.symm)
  rw [Array.getElem?_modify] at a2;rw [cL] at a1;by_cases hij:j=i
  .subst hij;have hlt:=(aP.1 hj).1;simp only [aU,hlt] at a1 a2;rw [e1] at a2;simp only [gJ,bF] at a2;simp only [bF,gI] at a1;obtain⟨rfl,rfl,rfl⟩:=a1;subst a2;exact⟨rfl,e3,hd,ha⟩
  rw [aD hij] at a1 a2;exact hr i k' s' d' e' a1 a2
 obtain⟨e1,e2⟩:=f2 hno;refine⟨es.push { key:=k,val:=v,born:=clock },fun P w r t kt et u1 u2 hb=>?_,by simp [hsz],⟨MapKept.stamped_push hst.1 e2,?_⟩,fun i k' s' d' e' a1 a2=>?_⟩
 .have hck:=MapKept.run_checkKey (P:=P) (w:=w) u2 hk false 9999;have hfk:=MapKept.run_findKey (P:=P) (w:=w) u2 e1;have hso:=MapKept.run_setObj_map (P:=P) (.map (es.push { key:=k,val:=v,born:=clock }) (clock+1)) hb;simp [Instr.mapUpdate,run_underlying u1,MapKept.run_getObj_map hb,hck,hfk,hso]
 .intro x hx;simp only [Array.toList_push,bT,fS] at hx;rcases hx with hx | rfl
  .exact hst.2 x hx
  exact hk
 rcases aI6 hsz i e' a2 with ⟨hi,h⟩ | ⟨rfl,rfl⟩
 .rw [bC hi] at a1;exact hr i k' s' d' e' a1 h
 rw [bX (aW _),mB] at a1;simp only [Aa,bF,gI] at a1;obtain⟨rfl,rfl,rfl⟩:=a1;exact⟨rfl,rfl,hd,ha⟩
theorem Dq (t:TypeId)(x i v:Operand)(hd:eF o st)(ho:o.op= .mapUpdate t x i v\/o.op= .insert t x i v) 
  (h:vP P o.dst t x (st.rdS x) (st.rdS i) (st.rdS v) st.obj sets ob):Does P o st (· =st.upd ⟨sets,none,ob⟩):=by
 unfold vP at h;split at h
 .rename_i N k d0 kd z hdst hx hi hvd hmp;obtain⟨m,c,clock,kvs,clock',kvs',⟨hh,hk,harr,hsol,hset⟩,rfl,rfl⟩:=h;obtain⟨kt,et,ti,u1,u2,u3,u4⟩:=uP hmp;refine cH hd fun w g tmps hok=>?_;have hrx:=hok.rd x;rw [dR hx] at hrx;have hik:ev tmps i=k:=by
   have:=hok.rd i;rw [dR hi] at this;exact this.vEq
  have hrv:=hok.rd v;rw [dR hvd] at hrv;obtain⟨bl,es,hv,o1,o2,o3,o4,o5,o6,o7⟩:=Re hok hh hrx;obtain⟨es',q1,q2,q3,q4⟩:=Uq hk o5 o4 o6 hrv.s2 harr hset;obtain⟨p1,p2⟩:=hok.putM hh o1 o2 o3 o7 q2 q3 q4;have hrun:=q1 P w bl t kt et u1 u2 o2;rw [hdst];refine⟨undef,_,g,_,.inr ⟨?_,rfl⟩,rfl,p2,p1,rfl,by simp⟩;rcases ho with ho | ho <;> simp [execOp,ho,hv,hik,hrun]
 .rename_i N kd0 clock kvs k d0 kd z hdst hx hi hvd hmp;obtain⟨tx,clock',kvs',⟨rfl,rfl,hk,harr,hsol,hset⟩,rfl,rfl⟩:=h;obtain⟨kt,et,ti,u1,u2,u3,u4⟩:=uP hmp;rw [Vh];refine cH hd fun w g tmps hok=>?_;have hik:ev tmps i=k:=by
   have:=hok.rd i;rw [dR hi] at this;exact this.vEq
  have hrv:=hok.rd v;rw [dR hvd] at hrv;obtain⟨bl,es,hv,o1,o2,o3,o4,o5,o6,o7⟩:=aBs hok (t:=tx) hx;obtain⟨es',q1,q2,q3,q4⟩:=Uq hk o5 o4 o6 hrv.s2 harr hset;obtain⟨p1,p2⟩:=hok.putMs hv o1 o2 o3 o7 q2 q3 q4;have hrun:=q1 P w bl t kt et u1 u2 o2;have hv':ev tmps (.tmp tx)= .map (some bl):=hv;rw [hdst];refine⟨undef,_,g,_,.inr ⟨?_,rfl⟩,rfl,p2,p1,rfl,by simp⟩;rcases ho with ho | ho <;> simp [execOp,ho,hv',hik,hrun]
 exact h.elim
theorem Rk (t t2:TypeId)(x i:Operand)(hd:eF o st)(ho:o.op= .call { callee:= .builtin .delete,args:=#[x,i],argTypes:=#[t,t2] }) 
  (h:zT P o.dst t (st.rdS x) (st.rdS i) st.obj sets ob):Does P o st (· =st.upd ⟨sets,none,ob⟩):=by
 unfold zT at h;split at h
 .rename_i N k kd z hx hi hmp;obtain⟨m,c,clock,kvs,kvs',⟨hdst,hh,hk,hdel⟩,rfl,rfl⟩:=h;obtain⟨kt,et,ti,u1,u2,u3,u4⟩:=uP hmp;refine cH hd fun w g tmps hok=>?_;have hrx:=hok.rd x;rw [dR hx] at hrx;have hik:ev tmps i=k:=by
   have:=hok.rd i;rw [dR hi] at this;exact this.vEq
  obtain⟨bl,es,hv,o1,o2,o3,o4,o5,o6,o7⟩:=Re hok hh hrx;obtain⟨f1,f2⟩:=Qy hk o5 o4 o6;have hck:=MapKept.run_checkKey (P:=P) (w:=w) u2 hk es.isEmpty 9999;rw [hdst];rcases hdel with ⟨j,s,d0,hj,rfl⟩ | ⟨hno,rfl⟩
  .obtain⟨e,e1,e2,e3,e4,e5,e6⟩:=f1 j s d0 hj;have hlt:=(dL.1 e1).1;have her:es.eraseIdxIfInBounds j=es.eraseIdx j hlt:=by simp [Array.eraseIdxIfInBounds,hlt]
   have hfk:=MapKept.run_findKey (P:=P) (w:=w) u2 e6;have hso:=MapKept.run_setObj_map (P:=P) (.map (es.eraseIdxIfInBounds j) clock) o2;obtain⟨p1,p2⟩:=hok.putM (es':=es.eraseIdxIfInBounds j) (kvs':=kvs.eraseIdx j) (clock':=clock) hh o1 o2 o3 o7
    (by rw [her];simp [List.length_eraseIdx,(aP.1 hj).1];omega)
    ⟨MapKept.stamped_erase o5.1 j,fun x hx=>o5.2 x (by
     rw [her,Array.toList_eraseIdx] at hx;exact(List.eraseIdx_sublist _ _).subset hx)⟩
    (fun i k' s' d' e' a1 a2=>by
     rw [her,<- dM,Array.toList_eraseIdx,List.getElem?_eraseIdx] at a2;rw [List.getElem?_eraseIdx] at a1;by_cases hij:i<j
     .rw [aK hij] at a1 a2;exact o6 i k' s' d' e' a1 (by simpa using a2)
     rw [aD hij] at a1 a2;exact o6 (i+1) k' s' d' e' a1 (by simpa using a2))
   refine⟨.tuple #[],_,g,_,.inl ?_,rfl,p2,p1,rfl,by simp⟩;simp [execOp,ho,resolve,invoke,builtin,Builtin.delete_,hv,hik,run_underlying u1,MapKept.run_getObj_map o2,hck,hfk,hso]
  obtain⟨e1,e2⟩:=f2 hno;have hfk:=MapKept.run_findKey (P:=P) (w:=w) u2 e1;have hso:=MapKept.run_setObj_map (P:=P) (.map es clock) o2;obtain⟨p1,p2⟩:=hok.putM (es':=es) (kvs':=kvs') (clock':=clock) hh o1 o2 o3 o7 o4 o5 o6;refine⟨.tuple #[],_,g,_,.inl ?_,rfl,p2,p1,rfl,by simp⟩;simp [execOp,ho,resolve,invoke,builtin,Builtin.delete_,hv,hik,run_underlying u1,MapKept.run_getObj_map o2,hck,hfk,hso]
 exact h.elim
theorem aA1 (t:TypeId)(x:Operand)(hd:eF o st)(ho:o.op= .call { callee:= .builtin .len,args:=#[x],argTypes:=#[t] }) 
  (h:Ki P o.dst t (st.rdS x) st.obj sets ob):Does P o st (· =st.upd ⟨sets,none,ob⟩):=by
 unfold Ki at h;split at h
 .rename_i d N kd z hdst hx hmp;obtain⟨m,c,clock,kvs,hh,rfl,rfl⟩:=h;obtain⟨kt,et,ti,u1,u2,u3,u4⟩:=uP hmp;refine cM hd (.d (.int kvs.length)) (fun w g tmps hok=>?_) (by rw [hdst];rfl);have hrx:=hok.rd x;rw [dR hx] at hrx;obtain⟨bl,es,hv,o1,o2,o3,o4,o5,o6,o7⟩:=Re hok hh hrx;exact⟨.int .i64 kvs.length,by simp [execOp,ho,resolve,invoke,builtin,Builtin.len_,hv,run_underlying u1,MapKept.run_getObj_map o2,goInt,o4],bV (.v _ rfl) rfl⟩
 exact h.elim
theorem Ok.newM_ (h:Ok w g st val)(d:Nat)(kd:TypeDesc):
  Ok (w.alloc (.map #[] 0)) { g with X:=(fun b=>if b=w.heap.size then some (.slot d, [])else g.X b),bs:=g.bs++ [w.heap.size] } (({ st with obj:=st.obj++ [[]] } :St).set d (.d (.mp st.obj.length kd 0 []))) (fun u=>if u=d then .map (some w.heap.size)else val u)/\
   Fr w g (w.alloc (.map #[] 0)) { g with X:=(fun b=>if b=w.heap.size then some (.slot d, [])else g.X b),bs:=g.bs++ [w.heap.size] } :=by
 have hbs:∀(n b:Nat),g.bs[n]?=some b->(g.bs++ [w.heap.size])[n]?=some b:=fun n b hb=>by
  rw [bC (by exact(aP.1 hb).1)];exact hb
 have hk:∀(hd:Holder) (b:Nat) (q:List Nat),g.X b=some (hd,q)->(w.alloc (.map #[] 0)).heap[b]?=w.heap[b]?/\(∀o,g.M b o=none->g.M b o=none)/\(if b=w.heap.size then some (Holder.slot d, [])else g.X b)=some (hd,q):=by
  intro hd b q hb;have:=h.xlt b _ hb;exact⟨rC w _ this,fun o ho=>ho,by rw [aD (by omega)];exact hb⟩
 have base:Ok (w.alloc (.map #[] 0)) { g with X:=(fun b=>if b=w.heap.size then some (.slot d, [])else g.X b),bs:=g.bs++ [w.heap.size] } { st with obj:=st.obj++ [[]] } val:=by
  refine⟨fun b o c hc=>?_,fun b t hb=>?_,fun t=>(h.slot t).keep (fun _ _ _ h=>h) hbs (fun _ _ h=>h) (hk _),h.ll,fun n b ds h1 h2=>(h.loc n b ds h1 h2).keep (fun _ _ _ h=>h) hbs (hk _),by simp [h.ol],fun n b ds h1 h2=>?_⟩
  .have:=h.mlt hc;rw [World.cell?_alloc_lt w _ ⟨b,o,none⟩ this];exact h.mem b o c hc
  .simp only at hb;simp only [World.size_alloc];split at hb
   .omega
   have:=h.xlt b t hb;omega
  by_cases hn:n<st.obj.length
  .have h1':g.bs[n]?=some b:=by rw [bC (by rw [h.ol];exact hn)] at h1;exact h1
   have h2':st.obj[n]?=some ds:=by
    have h3:(st.obj++ [[]])[n]?=some ds:=h2;rw [bC hn] at h3;exact h3
   exact(h.obj n b ds h1' h2').keep (fun _ _ _ h=>h) hbs (hk _)
  have h3:(st.obj++ [[]])[n]?=some ds:=h2;have hlt:=(aP.1 h3).1;simp at hlt;have hn':n=st.obj.length:=by omega
  subst hn';exact .inl (by simpa using h3.symm)
 refine⟨base.set d _ _ ⟨.mp _ _ _ w.heap.size _ (by show(g.bs++ [w.heap.size])[st.obj.length]?=_;rw [<- h.ol];simp),.mp _ _ _ _ _ _ ⟨w.heap.size,#[],rfl,by show(g.bs++ [w.heap.size])[st.obj.length]?=_;rw [<- h.ol];simp,by simp,vC w _,fun o=>h.newM o,rfl,⟨MapKept.stamped_empty 0,by simp⟩,fun i k s d e a1=>by simp at a1⟩⟩,
  rfl,rfl,rfl,by simp,fun b hb hx=>⟨rC w _ hb,?_,fun o=>rfl⟩,fun _ _ _ h=>h,hbs⟩
 simp only [aD (show ¬b=w.heap.size by omega)];exact hx
theorem Nb (t:TypeId)(r:Option Operand)(hd:eF o st)(ho:o.op= .makeMap t r) 
  (h:tC P o.dst t (r.map st.rdS) st.obj sets ob):Does P o st (· =st.upd ⟨sets,none,ob⟩):=by
 unfold tC at h;split at h
 .rename_i d kd z hdst hmp;obtain⟨hr,rfl,rfl⟩:=h;obtain⟨kt,et,ti,u1,u2,u3,u4⟩:=uP hmp;refine cH hd fun w g tmps hok=>?_;obtain⟨q1,q2⟩:=hok.newM_ d kd;rw [hdst];refine⟨.map (some w.heap.size),_,_,_,.inl ?_,rfl,q2,q1,rfl,by simp⟩;cases r with
  | none=>simp [execOp,ho,Instr.makeMap]
  | some x =>
   simp only [gJ] at hr;have:∃k n,ev tmps x= .int k n:=by
    split at hr
    .rename_i h;cases h
    .rename_i k n h;simp only [bF] at h;have:=hok.rd x;rw [dR h] at this;exact⟨_,_,this.vEq⟩
    exact hr.elim
   obtain⟨k,n,hx⟩:=this;simp [execOp,ho,Instr.makeMap,hx,run_underlying u1,asInt,asIntOf]
 exact h.elim
end
section
variable {P:Program}
def aWj:TypeDesc->Bool
 | .interface _=>true
 | _=>false
def ifI(P:Program)(t:TypeId):Option Bool:=(P.underlying t).map aWj
theorem Sn {ok:Bool} (h:wC P dst t sx sk ok obj sets ob):(∀p∈sets,p.1∈dst.toList)/\ob=none:=by
 unfold wC at h;split at h
 .obtain⟨_,_,_,_,_,_,_,rfl,rfl⟩:=h;exact⟨by simp,rfl⟩
 .obtain⟨_,_,_,rfl,rfl⟩:=h;exact⟨by simp,rfl⟩
 exact h.elim
theorem Do {sv:Slot} (h:vP P dst t x sx sk sv obj sets ob):∀p∈sets,p.1∈dst.toList++(cO x).toList:=by
 unfold vP at h;split at h
 .obtain⟨_,_,_,_,_,_,_,rfl,rfl⟩:=h;simp
 .obtain⟨_,_,_,⟨rfl,_⟩,rfl,rfl⟩:=h;simp [cO]
 exact h.elim
theorem Ss (h:zT P dst t sx sk obj sets ob):∀p∈sets,p.1∈dst.toList:=by
 unfold zT at h;split at h
 .obtain⟨_,_,_,_,_,_,rfl,rfl⟩:=h;simp
 exact h.elim
theorem Mw {r:Option Slot} (h:tC P dst t r obj sets ob):∀p∈sets,p.1∈dst.toList:=by
 unfold tC at h;split at h
 .obtain⟨_,rfl,rfl⟩:=h;simp
 exact h.elim
theorem Zy (h:Ki P dst t sx obj sets ob):(∀p∈sets,p.1∈dst.toList)/\ob=none:=by
 unfold Ki at h;split at h
 .obtain⟨_,_,_,_,_,rfl,rfl⟩:=h;exact⟨by simp,rfl⟩
 exact h.elim
def Tj (P : Program) (f : FuncId) : Prop := ∃ fn tS tR e ti, P.funcs[f]? = some fn ∧ (fn.name == "runtime.NumGoroutine") = false ∧ fn.body.isNone = true ∧ Extern.findNext fn = none ∧ Extern.find fn = some (Extern.SlicesOverlaps.overlaps #[tS, tS] #[tR]) ∧ P.underlying tS = some (.slice e) ∧ P.info? e = some ti
def Oz(P:Program)(dst:Option Tmp)(f:FuncId)(sx sy:Slot)(obj:List (List D)):pW:=fun sets ob=>
 match sx,sy with
 | .d (.sl true (_::_)),.d (.slo m _ _ cap)=>(Tj P f/\0<cap/\∃cs,obj[m]?=some cs/\cs≠ [])/\sets=dst.toList.map (fun d=>(d,.d (.bool false)))/\ob=none
 | _,_=>False
theorem aAn (f:FuncId)(t t2:TypeId)(y x:Operand)(hd:eF o st)(ho:o.op= .call { callee:= .value (.func f),args:=#[y,x],argTypes:=#[t,t2] }) 
  (h:Oz P o.dst f (st.rdS y) (st.rdS x) st.obj sets ob):Does P o st (· =st.upd ⟨sets,none,ob⟩):=by
 unfold Oz at h;split at h
 .rename_i e0 es m a len cap hy hx;obtain⟨⟨⟨fn,tS,tR,e,ti,f1,f2,f3,f4,f5,f7,f8⟩,hcap,cs,hcs,hne⟩,rfl,rfl⟩:=h;have hst:st.upd ⟨o.dst.toList.map (fun d=>(d,.d (.bool false))),none,none⟩=st.put o.dst (.d (.bool false)):=by
   cases o.dst <;> rfl
  rw [hst];refine cM hd (.d (.bool false)) (fun w g tmps hok=>?_) rfl;cases y with
  | const u=>simp only [St.rdS,Slot.d.injEq] at hy;cases u <;> simp [D.ofV,D.ofV1] at hy <;> (repeat' split at hy) <;> cases hy
  | func u=>simp [St.rdS] at hy
  | global u=>simp [St.rdS,Slot.any] at hy
  | tmp s=>
  have hy:st.env s= .d (.sl true (e0::es)):=hy;have hsl:=hok.slot s;rw [hy] at hsl;obtain⟨hr,ho2⟩:=hsl;have hr':=hok.rd x;rw [dR hx] at hr';have hvy:ev tmps (.tmp s)=cJ tmps s:=rfl;generalize cJ tmps s=vy at hr ho2 hvy;generalize hvx:ev tmps x=vx at hr';refine⟨.bool false,?_,bV (.v _ rfl) rfl⟩;have run:∀v1 v2:Value,(Extern.SlicesOverlaps.overlaps #[tS,tS] #[tR] #[v1,v2]).run P w= .ok (.bool false) w->ev tmps (.tmp s)=v1->ev tmps x=v2->(execOp (ev tmps) o).run P w= .ok (.value (.bool false)) w:=by
   intro v1 v2 hrun e1 e2;have hfe:∀(t:Array Value),(⟨t, []⟩:Act).eval (.func f)= .func (.func f) #[] #[]:=fun _=>rfl;have hc:=run_callFunc_extern (P:=P) f1 f2 f3 f4 f5 #[v1,v2] w;rw [hrun] at hc;simp [execOp,ho,resolve,hfe,Deferred.ofValue,invoke,e1,e2,hc,Result.andThen]
  cases hr' with
  | slo _ _ _ _ xa hb hc hm =>
   obtain⟨b,hb2,rfl⟩:=hb hcap;obtain⟨cur,E,o1,o2,o3,o4,o5⟩:=(hok.obj m b cs hb2 hcs).resolve_left hne;cases ho2 with
   | flat p d v hf=>simp [D.flat] at hf
   | sl p es' v hO=>
   cases hr with
   | sl _ _ b' off n cap' k vs hl hn hk hc' hm' hr hs hx' =>
    have hv:0<vs.length:=by rw [hl];simp
    rcases hO with ⟨a0,n0,e1⟩ | ⟨b0,n0,c0,k0,cur0,E0,e1,_,_,hh,hk0,hcs0,hn0,hle,_⟩
    .simp only [Value.slice.injEq] at e1;obtain⟨_,_,rfl⟩:=e1;subst hn;simp at hc'
    simp only [Value.slice.injEq,bF,Addr.mk.injEq] at e1;obtain⟨⟨rfl,rfl,_⟩,rfl,rfl⟩:=e1;refine run _ _ (Lib.run_overlaps_apart (P:=P) w tS tR e f7 ti.size (cD f8) _ _ _ _ _ _ ?_ E0 E cur0.size cur.size ?_ ?_ ?_ ?_ ?_) hvy hvx
    .show b'≠b
     rintro rfl;obtain⟨x1,x2⟩:=hx' 0 vs[0] (aS hv);have hz:0<vs[0].cells.size:=by rw [x1];exact hk
     have:=(x2 0 _ (bR hz)).2;rw [o4] at this;cases this
    .simp [World.shape?,hh]
    .simp [World.shape?,o1]
    .rw [o2];intro e;exact hne (nO e)
    .simp [World.frozen?,hh]
    simp [World.frozen?,hh]
 exact h.elim
theorem Yd {f:FuncId} {sy:Slot} (h:Oz P dst f sx sy obj sets ob):(∀p∈sets,p.1∈dst.toList)/\ob=none:=by
 unfold Oz at h;split at h
 .obtain⟨_,rfl,rfl⟩:=h;refine⟨fun p hp=>?_,rfl⟩;obtain⟨d,hd,rfl⟩:=aV.1 hp;exact hd
 exact h.elim
def bnE(op:BinOp)(r:Bool):Bool:=match op with | .eql=>r | _=> !r
def aFk(P:Program)(dst:Option Tmp)(op:BinOp)(t:TypeId)(sx sy:Slot)(obj:List (List D)):pW:=fun sets ob=>
 match dst,sx,sy with
 | some d,.d (.ref n a),.d (.ref m b)=>((∃e z,P.underlying t=some (.pointer e)/\kJ P e=some z/\¬z.2=0)/\(op= .eql\/op= .neq)/\((n=m/\a=b)\/(¬n=m/\¬obj[n]?.getD []= []/\¬obj[m]?.getD []= [])))/\sets= [(d,.d (.bool (bnE op (decide (n=m)))))]/\ob=none
 | _,_,_=>False
theorem aHh {op:BinOp} {sy:Slot} (h:aFk P dst op t sx sy obj sets ob):(∀p∈sets,p.1∈dst.toList)/\ob=none:=by
 unfold aFk at h;split at h
 .obtain⟨_,rfl,rfl⟩:=h;exact⟨by simp,rfl⟩
 exact h.elim
theorem Lv {e:TypeId} {i:TypeInfo} (ht:P.underlying t=some (.pointer e))(hi:P.info? e=some i)(hz:¬i.size=0)(a b:Addr)(w:World) {r:Bool} (hr:(sameAddr a b).run P w= .ok r w):(Op.equal t (.pointer (some a)) (.pointer (some b))).run P w= .ok r w:=by
 show(Op.equalIn (9999+1) t (.pointer (some a)) (.pointer (some b))).run P w=_
 unfold Op.equalIn;simp [run_underlying ht,typeInfo,hi,sizeOf,hz,hr]
theorem aGu (op:BinOp)(t:TypeId)(x y:Operand)(yt:TypeId)(hd:eF o st)(ho:o.op= .binOp op t x y yt) 
  (h:aFk P o.dst op t (st.rdS x) (st.rdS y) st.obj sets ob):Does P o st (· =st.upd ⟨sets,none,ob⟩):=by
 unfold aFk at h;split at h
 .rename_i d n a m b hdst hx hy;obtain⟨⟨⟨e,⟨ag,sz⟩,ht,hz,hz0⟩,hop,hne⟩,rfl,rfl⟩:=h;obtain⟨td,ti,i1,i2,i3,i4⟩:=rH hz;have hz1:¬ti.size=0:=by rw [i4];exact hz0
  refine cM hd (.d (.bool (bnE op (decide (n=m))))) (fun w g tmps hok=>?_) (by rw [hdst];rfl);have hrx:=hok.rd x;rw [dR hx] at hrx;have hry:=hok.rd y;rw [dR hy] at hry;refine⟨.bool (bnE op (decide (n=m))),?_,bV (.v _ rfl) rfl⟩;generalize hvx:ev tmps x=vx at hrx;generalize hvy:ev tmps y=vy at hry;cases hrx with
  | ref _ _ b1 h1=>
  cases hry with
  | ref _ _ b2 h2=>
  have key:(sameAddr ⟨b1,a,none⟩ ⟨b2,b,none⟩).run P w= .ok (decide (n=m)) w:=by
   rcases hne with ⟨rfl,rfl⟩ | ⟨hne,n1,n2⟩
   .rw [h1] at h2;rw [oQ h2];simpa using run_sameAddr_same (P:=P) w ⟨b2,a,none⟩
   cases q1:st.obj[n]? with
   | none=>rw [q1] at n1;exact absurd rfl n1
   | some c1=>
   cases q2:st.obj[m]? with
   | none=>rw [q2] at n2;exact absurd rfl n2
   | some c2=>
   rw [q1] at n1;rw [q2] at n2;obtain⟨u1,E1,y1,_,x1,_⟩:=(hok.obj n b1 c1 h1 q1).resolve_left n1;obtain⟨u2,E2,y2,_,x2,_⟩:=(hok.obj m b2 c2 h2 q2).resolve_left n2;have hb:b1≠b2:=by
    rintro rfl;rw [x1] at x2;exact hne (by simpa using x2)
   rw [show decide (n=m)=false by simpa using hne];exact run_sameAddr_other (P:=P) w (a:=⟨b1,a,none⟩) (b:=⟨b2,b,none⟩) (fun e=>hb (congrArg Addr.block e)) y1 y2
  have hr:(binOp op t (.pointer (some ⟨b1,a,none⟩)) (.pointer (some ⟨b2,b,none⟩))).run P w= .ok (.bool (bnE op (decide (n=m)))) w:=by
   rcases hop with rfl | rfl
   .simp [binOp,Lv ht i2 hz1 _ _ w key,bnE]
   simp [binOp,Lv ht i2 hz1 _ _ w key,bnE]
  simp [execOp,ho,hvx,hvy,Bl (P:=P) (op:=op) (t:=t) (x:=x) (y:=y) (a:= .pointer (some ⟨b1,a,none⟩)) (b:= .pointer (some ⟨b2,b,none⟩)) (w:=w) (by simp) (by simp),hr]
 exact h.elim
def yA1(args:List Operand)(ts:List TypeId)(f:Operand->TypeId->pW):pW:=match args,ts with
 | [x], [t]=>f x t
 | _,_=>fun _ _=>False
def yA2(args:List Operand)(ts:List TypeId)(f:Operand->Operand->TypeId->TypeId->pW):pW:=match args,ts with
 | [s,x], [t,t2]=>f s x t t2
 | _,_=>fun _ _=>False
theorem Cz (h:yA1 args.toList ts.toList f sets ob):∃x t,args=#[x]/\ts=#[t]/\f x t sets ob:=by
 unfold yA1 at h;rcases args with ⟨_ | ⟨a,_ | ⟨b,l⟩⟩⟩ <;> rcases ts with ⟨_ | ⟨t,_ | ⟨u,m⟩⟩⟩ <;> first | exact absurd h not_false | exact⟨a,t,rfl,rfl,h⟩
theorem rF {f:Operand->Operand->TypeId->TypeId->pW} (h:yA2 args.toList ts.toList f sets ob):∃s x t u,args=#[s,x]/\ts=#[t,u]/\f s x t u sets ob:=by
 unfold yA2 at h;rcases args with ⟨_ | ⟨a,_ | ⟨b,_ | ⟨c,l⟩⟩⟩⟩ <;> rcases ts with ⟨_ | ⟨t,_ | ⟨u,_ | ⟨v,m⟩⟩⟩⟩ <;> first | exact absurd h not_false | exact⟨a,b,t,u,rfl,rfl,h⟩
theorem Ql {args:List Operand} {ts:List TypeId} {f':Operand->TypeId->pW} (h:∀x t,x∈args->f' x t=f x t):yA1 args ts f'=yA1 args ts f:=by
 unfold yA1;split
 .exact h _ _ (by simp)
 rfl
theorem zQ {args:List Operand} {ts:List TypeId} {f f':Operand->Operand->TypeId->TypeId->pW} (h:∀s x t u,s∈args->x∈args->f' s x t u=f s x t u):yA2 args ts f'=yA2 args ts f:=by
 unfold yA2;split
 .exact h _ _ _ _ (by simp) (by simp)
 rfl
def yR(P:Program)(alt:Bool)(dst:Option Tmp)(op:Op)(rd:Operand->Slot)(obj:List (List D)):pW:=match op with
 | .slice t x lo hi none=>Ga P dst t x (rd x) (lo.map rd) (hi.map rd)
 | .makeSlice t l c=>Pv P alt dst t (rd l) (rd c) obj
 | .call ⟨.builtin .cap,args,ts⟩=>yA1 args.toList ts.toList fun x t=>aEd P dst t (rd x)
 | .call ⟨.builtin .len,args,ts⟩=>yA1 args.toList ts.toList fun x t=>if alt=true then Ki P dst t (rd x) obj else aGp P dst t (rd x)
 | .call ⟨.builtin .append,args,ts⟩=>yA2 args.toList ts.toList fun s x t t2=>yL P dst t t2 s (rd s) (rd x) obj
 | .call ⟨.builtin .copy,args,ts⟩=>yA2 args.toList ts.toList fun s x t t2=>Og P alt dst t t2 (rd s) (rd x) obj
 | .call ⟨.builtin .delete,args,ts⟩=>yA2 args.toList ts.toList fun s x t _=>zT P dst t (rd s) (rd x) obj
 | .call ⟨.value (.func f),args,ts⟩=>yA2 args.toList ts.toList fun s x _ _=>Oz P dst f (rd s) (rd x) obj
 | .lookup t x i ok=>wC P dst t (rd x) (rd i) ok obj
 | .mapUpdate t x i v=>vP P dst t x (rd x) (rd i) (rd v) obj
 | .insert t x i v=>vP P dst t x (rd x) (rd i) (rd v) obj
 | .makeMap t r=>tC P dst t (r.map rd) obj
 | .binOp op t x y _=>aFk P dst op t (rd x) (rd y) obj
 | _=>fun _ _=>False
def flY(alt:Bool)(op:Op):Fl:=match op with
 | .slice _ _ _ _ _=>⟨false,false,false,false⟩
 | .makeSlice _ _ _=>if alt=true then⟨false,false,false,false⟩else⟨false,false,true,true⟩
 | .call ⟨.builtin .cap,_,_⟩=>⟨false,false,false,false⟩
 | .call ⟨.builtin .len,_,_⟩=>if alt=true then⟨false,false,true,false⟩else⟨false,false,false,false⟩
 | .lookup _ _ _ _=>⟨false,false,true,false⟩
 | .makeInterface _ _=>⟨false,false,false,false⟩
 | .typeAssert _ _ _ _=>⟨false,false,false,false⟩
 | .call ⟨.builtin .append,_,_⟩=>⟨false,false,true,false⟩
 | .convert _ _ _=>⟨false,false,true,false⟩
 | .binOp _ _ _ _ _=>⟨false,false,true,false⟩
 | _=>⟨false,false,true,true⟩
theorem Tx {rd':Operand->Slot} (h:∀x∈op.operands.toList,rd' x=rd x):yR P alt dst op rd' obj=yR P alt dst op rd obj:=by
 unfold yR;split
 .rename_i t x lo hi;have e1:lo.map rd'=lo.map rd:=by
   cases lo with
   | none=>rfl
   | some y=>simp only [gJ];rw [h y (by simp [Op.operands])]
  have e2:hi.map rd'=hi.map rd:=by
   cases hi with
   | none=>rfl
   | some y=>simp only [gJ];rw [h y (by simp [Op.operands])]
  rw [e1,e2,h x (by simp [Op.operands])]
 .rename_i t l c;rw [h l (by simp [Op.operands]),h c (by simp [Op.operands])]
 .rename_i args ts;exact Ql fun x t hx=>by rw [h x (by simpa [Op.operands,Call.operands] using hx)]
 .rename_i args ts;exact Ql fun x t hx=>by rw [h x (by simpa [Op.operands,Call.operands] using hx)]
 .rename_i args ts;exact zQ fun s x t u hs hx=>by rw [h x (by simpa [Op.operands,Call.operands] using hx),h s (by simpa [Op.operands,Call.operands] using hs)]
 .rename_i args ts;exact zQ fun s x t u hs hx=>by rw [h x (by simpa [Op.operands,Call.operands] using hx),h s (by simpa [Op.operands,Call.operands] using hs)]
 .rename_i args ts;exact zQ fun s x t u hs hx=>by rw [h x (by simpa [Op.operands,Call.operands] using hx),h s (by simpa [Op.operands,Call.operands] using hs)]
 .rename_i f args ts;exact zQ fun s x t u hs hx=>by rw [h x (by simp [Op.operands,Call.operands,hx]),h s (by simp [Op.operands,Call.operands,hs])]
 .rename_i t x i ok;rw [h x (by simp [Op.operands]),h i (by simp [Op.operands])]
 .rename_i t x i v;rw [h x (by simp [Op.operands]),h i (by simp [Op.operands]),h v (by simp [Op.operands])]
 .rename_i t x i v;rw [h x (by simp [Op.operands]),h i (by simp [Op.operands]),h v (by simp [Op.operands])]
 .rename_i t r;have e1:r.map rd'=r.map rd:=by
   cases r with
   | none=>rfl
   | some y=>simp only [gJ];rw [h y (by simp [Op.operands])]
  rw [e1]
 .rename_i op t x y yt;rw [h x (by simp [Op.operands]),h y (by simp [Op.operands])]
 rfl
theorem Ec (hx:x∈op.operands.toList) {t:Nat} (h:t∈dst.toList++(cO x).toList):t∈dst.toList++kE op:=by
 rcases bT.1 h with h | h
 .exact gE _ h
 refine pA _ (oU.2 ⟨x,hx,?_⟩);cases hs:cO x with
 | none=>rw [hs] at h;simp at h
 | some u=>rw [hs] at h;simp at h;rw [h]
theorem aBl (h:yR P alt dst op rd obj sets ob):(∀p∈sets,p.1∈dst.toList++kE op)/\(ob.isSome=true->(flY alt op).wO=true):=by
 unfold yR at h;split at h
 .obtain⟨h1,rfl⟩:=Vs h;exact⟨fun p hp=>Ec (by simp [Op.operands]) (h1 p hp),by simp⟩
 .obtain⟨h1,h2⟩:=Zf h;exact⟨fun p hp=>gE _ (h1 p hp),fun h3=>by rw [h2 h3];rfl⟩
 .obtain⟨x,t,rfl,rfl,h⟩:=Cz h;obtain⟨h1,rfl⟩:=aGx h;exact⟨fun p hp=>gE _ (h1 p hp),by simp⟩
 .obtain⟨x,t,rfl,rfl,h⟩:=Cz h;split at h
  .obtain⟨h1,rfl⟩:=Zy h;exact⟨fun p hp=>gE _ (h1 p hp),by simp⟩
  obtain⟨h1,rfl⟩:=aEs h;exact⟨fun p hp=>gE _ (h1 p hp),by simp⟩
 .obtain⟨s,x,t,u,rfl,rfl,h⟩:=rF h;obtain⟨h1,rfl⟩:=To h;exact⟨fun p hp=>Ec (by simp [Op.operands,Call.operands]) (h1 p hp),by simp⟩
 .obtain⟨s,x,t,u,rfl,rfl,h⟩:=rF h;have h1:=Yo h;exact⟨fun p hp=>gE _ (h1 p hp),fun _=>rfl⟩
 .obtain⟨s,x,t,u,rfl,rfl,h⟩:=rF h;have h1:=Ss h;exact⟨fun p hp=>gE _ (h1 p hp),fun _=>rfl⟩
 .obtain⟨s,x,t,u,rfl,rfl,h⟩:=rF h;obtain⟨h1,rfl⟩:=Yd h;exact⟨fun p hp=>gE _ (h1 p hp),by simp⟩
 .obtain⟨h1,rfl⟩:=Sn h;exact⟨fun p hp=>gE _ (h1 p hp),by simp⟩
 .have h1:=Do h;exact⟨fun p hp=>Ec (by simp [Op.operands]) (h1 p hp),fun _=>rfl⟩
 .have h1:=Do h;exact⟨fun p hp=>Ec (by simp [Op.operands]) (h1 p hp),fun _=>rfl⟩
 .have h1:=Mw h;exact⟨fun p hp=>gE _ (h1 p hp),fun _=>rfl⟩
 .obtain⟨h1,rfl⟩:=aHh h;exact⟨fun p hp=>gE _ (h1 p hp),by simp⟩
 exact h.elim
def vcY(P:Program)(alt:Bool)(dst:Option Tmp)(op:Op)(st:St)(K:St->Prop):Prop:=
 ∃sets ob,yR P alt dst op st.rdS (if(flY alt op).rO=true then st.obj else []) sets ob/\K (st.upd ⟨sets,none,ob⟩)
theorem aTs (hd:eF o st) (h:yR P alt o.dst o.op st.rdS (if(flY alt o.op).rO=true then st.obj else []) sets ob):Does P o st (· =st.upd ⟨sets,none,ob⟩):=by
 generalize hop:o.op=op at h;unfold yR at h;split at h
 .rename_i t x lo hi;exact Ur t x lo hi hd hop h
 .rename_i t l c;refine Ze (alt:=alt) t l c hd hop (fun ha=>?_) h;subst ha;rfl
 .obtain⟨x,t,rfl,rfl,h⟩:=Cz h;exact aFl t x hd hop h
 .obtain⟨x,t,rfl,rfl,h⟩:=Cz h;split at h
  .rename_i ha;subst ha;exact aA1 t x hd hop h
  exact aFb t x hd hop h
 .obtain⟨s,x,t,u,rfl,rfl,h⟩:=rF h;exact Rt t u s x hd hop h
 .obtain⟨s,x,t,u,rfl,rfl,h⟩:=rF h;exact Zs t u s x hd hop h
 .obtain⟨s,x,t,u,rfl,rfl,h⟩:=rF h;exact Rk t u s x hd hop h
 .obtain⟨s,x,t,u,rfl,rfl,h⟩:=rF h;exact aAn _ t u s x hd hop h
 .rename_i t x i ok;exact Tf t x i ok hd hop h
 .rename_i t x i v;exact Dq t x i v hd (.inl hop) h
 .rename_i t x i v;exact Dq t x i v hd (.inr hop) h
 .rename_i t r;exact Nb t r hd hop h
 .rename_i op t x y yt;exact aGu op t x y yt hd hop h
 exact h.elim
theorem aJ9 {K:St->Prop} (hd:eF o st)(h:vcY P alt o.dst o.op st K):Does P o st K:=by
 obtain⟨sets,ob,h1,hK⟩:=h;exact(aTs hd h1).mono (by rintro _ rfl;exact hK)
end
end Go.Vm
