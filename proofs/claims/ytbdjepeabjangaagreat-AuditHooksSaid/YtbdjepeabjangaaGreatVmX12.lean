import Derived.Test.YtbdjepeabjangaaGreatVmX9
set_option linter.all false
namespace Go.Vm
open Go
variable {M:Mem}{N clock clock' i:Nat}{R':D->Value->Prop}{bs:List Nat}{es es':Array MapEntry}{g:Gh}{k v:Value}{kd:TypeDesc}{kvs kvs':List (Value×Nat×D)}{o:Oper}{ob:Option (List (List D))}{sets:List (Nat×Slot)}{st:St}{val:Nat->Value}{w:World}
def vV(obj:List (List D))(m i N:Nat)(kd:TypeDesc)(clock:Nat)(kvs:List (Value×Nat×D)):Prop:=
 ∃cs,obj[m]?=some cs/\cs[i]?=some (.mp N kd clock kvs)
def putM(obj:List (List D))(m i N:Nat)(kd:TypeDesc)(clock:Nat)(kvs:List (Value×Nat×D)):List (List D):=
 obj.set m ((obj.getD m []).set i (.mp N kd clock kvs))
def aE6(kvs:List (Value×Nat×D))(k:Value)(zero d:D)(b:Bool):Prop:=
 (b=true/\∃j s:Nat,kvs[j]?=some (k,s,d))\/(b=false/\d=zero/\∀e∈kvs,e.1≠k)
def aJh(kvs:List (Value×Nat×D))(clock:Nat)(k:Value)(d:D)(kvs':List (Value×Nat×D))(clock':Nat):Prop:=
 (∃(j s:Nat) (d0:D),kvs[j]?=some (k,s,d0)/\kvs'=kvs.set j (k,s,d)/\clock'=clock)\/((∀e∈kvs,e.1≠k)/\kvs'=kvs++ [(k,clock,d)]/\clock'=clock+1)
def aNi(kvs:List (Value×Nat×D))(k:Value)(kvs':List (Value×Nat×D)):Prop:=
 (∃(j s:Nat) (d0:D),kvs[j]?=some (k,s,d0)/\kvs'=kvs.eraseIdx j)\/((∀e∈kvs,e.1≠k)/\kvs'=kvs)
def mpI(P:Program)(t:TypeId):Option (TypeDesc×Value):=
 match P.underlying t with
 | some (.map kt et) => match P.underlying kt, P.info? et with
  | some kd,some i=>match i.zero with
   | some z=>some (kd,z)
   | none=>none
  | _,_=>none
 | _=>none
def zmD(z:Value):D:=(D.ofV z).s2
theorem oU {P:Program} {t:TypeId} {z:Value} (h:mpI P t=some (kd,z)):∃kt et i,P.underlying t=some (.map kt et)/\P.underlying kt=some kd/\P.info? et=some i/\i.zero=some z:=by
 unfold mpI at h;split at h
 .rename_i kt et h1;split at h
  .rename_i kd' i h2 h3;split at h
   .rename_i zv h4;simp only [aP,fK] at h;obtain⟨rfl,rfl⟩:=h;exact⟨kt,et,i,h1,h2,h3,h4⟩
   cases h
  cases h
 cases h
section
variable {P:Program}
def rA(P:Program)(dst:Option Tmp)(t:TypeId)(sx sk:Slot)(ok:Bool)(obj:List (List D)):lL:=fun sets ob=>
 match dst,sx,sk,mpI P t with
 | some d, .d (.mref N), .d (.v k), some (kd, z) => ∃ m i clock kvs dv b, (vV obj m i N kd clock kvs /\ MapKept.IsKey kd k /\ (zmD z).arr = true /\ aE6 kvs k (zmD z) dv b) /\
   sets= [(d,.d (if ok=true then .tup [dv,.bool b] else dv))]/\ob=none
 | some d, .d (.mp _ kd0 _ kvs), .d (.v k), some (kd, z) => ∃ dv b, (kd0 = kd /\ MapKept.IsKey kd k /\ (zmD z).arr = true /\ aE6 kvs k (zmD z) dv b) /\
   sets= [(d,.d (if ok=true then .tup [dv,.bool b] else dv))]/\ob=none
 | _,_,_,_=>False
def qT(P:Program)(dst:Option Tmp)(t:TypeId)(x:Operand)(sx sk sv:Slot)(obj:List (List D)):lL:=fun sets ob=>
 match dst,sx,sk,sv,mpI P t with
 | none, .d (.mref N), .d (.v k), .d d0, some (kd, _) => ∃ m i clock kvs clock' kvs', (vV obj m i N kd clock kvs /\ MapKept.IsKey kd k /\ d0.s2.arr = true /\ d0.solid = true /\ aJh kvs clock k d0.s2 kvs' clock') /\
   sets= []/\ob=some (putM obj m i N kd clock' kvs')
 | none, .d (.mp N kd0 clock kvs), .d (.v k), .d d0, some (kd, _) => ∃ tx clock' kvs', (x = .tmp tx /\ kd0 = kd /\ MapKept.IsKey kd k /\ d0.s2.arr = true /\ d0.solid = true /\ aJh kvs clock k d0.s2 kvs' clock') /\
   sets= [(tx,.d (.mp N kd clock' kvs'))]/\ob=none
 | _,_,_,_,_=>False
def tU(P:Program)(dst:Option Tmp)(t:TypeId)(sx sk:Slot)(obj:List (List D)):lL:=fun sets ob=>
 match sx,sk,mpI P t with
 | .d (.mref N), .d (.v k), some (kd, _) => ∃ m i clock kvs kvs', (dst = none /\ vV obj m i N kd clock kvs /\ MapKept.IsKey kd k /\ aNi kvs k kvs') /\
   sets= []/\ob=some (putM obj m i N kd clock kvs')
 | _,_,_=>False
def Bo(P:Program)(dst:Option Tmp)(t:TypeId)(sx:Slot)(obj:List (List D)):lL:=fun sets ob=>
 match dst,sx,mpI P t with
 | some d,.d (.mref N),some (kd,_)=>∃m i clock kvs,vV obj m i N kd clock kvs/\sets= [(d,.d (.int kvs.length))]/\ob=none
 | _,_,_=>False
def oW(P:Program)(dst:Option Tmp)(t:TypeId)(r:Option Slot)(obj:List (List D)):lL:=fun sets ob=>
 match dst,mpI P t with
 | some d,some (kd,_)=>(match r with | none=>True | some (.d (.v (.int _ _)))=>True | _=>False)/\sets= [(d,.d (.mp obj.length kd 0 []))]/\ob=some (obj++ [[]])
 | _,_=>False
end
theorem vB (h:Ok w g st val) {m:Nat} (hh:vV st.obj m i N kd clock kvs) (hv:R g.M g.bs (.mref N) v):
  ∃(b:Nat) (es:Array MapEntry),v= .map (some b)/\g.X b=some (.obj m, [i])/\w.heap[b]?=some (.map es clock)/\(∀o,g.M b o=none)/\es.size=kvs.length/\(MapKept.Stamped es clock/\∀x∈es.toList,MapKept.IsKey kd x.key)/\
   (∀(i:Nat) (k:Value) (s:Nat) (d:D) (e:MapEntry),kvs[i]?=some (k,s,d)->es[i]?=some e->e.key=k/\e.born=s/\R g.M g.bs d e.val/\d.arr=true)/\g.bs[N]?=some b:=by
 obtain⟨cs,h1,h2⟩:=hh;have hml:=(aH.1 h1).1;obtain⟨bm,hbm⟩:∃bm,g.bs[m]?=some bm:=⟨_,aN (by rw [h.ol];exact hml)⟩;have hne:cs≠ []:=by rintro rfl;simp at h2
 obtain⟨cur,E,o1,o2,o3,o4,o5⟩:=(h.obj m bm cs hbm h1).resolve_left hne;have hil:=(aH.1 h2).1;obtain⟨x,hx⟩:∃x,cur[i]?=some x:=⟨_,aV (by rw [o2];exact hil)⟩;obtain⟨r1,r2,r3⟩:=o5 i _ x h2 hx;cases r2 with
 | mp _ _ _ _ _ _ ho =>
  obtain⟨b,es,rfl,e1,e2,e3,e4,e5,e6,e7⟩:=ho;cases hv with
  | mref _ b' hb'=>
   have:b'=b:=by rw [e1] at hb';simpa using hb'.symm
   subst this;exact⟨b',es,rfl,e2,e3,e4,e5,e6,e7,e1⟩
 | flat _ _ _ hf=>simp [D.flat] at hf
theorem Qy (h:Ok w g st val) {t:Nat} (hs:st.env t= .d (.mp N kd clock kvs)):
  ∃(b:Nat) (es:Array MapEntry),val t= .map (some b)/\g.X b=some (.slot t, [])/\w.heap[b]?=some (.map es clock)/\(∀o,g.M b o=none)/\es.size=kvs.length/\(MapKept.Stamped es clock/\∀x∈es.toList,MapKept.IsKey kd x.key)/\
   (∀(i:Nat) (k:Value) (s:Nat) (d:D) (e:MapEntry),kvs[i]?=some (k,s,d)->es[i]?=some e->e.key=k/\e.born=s/\R g.M g.bs d e.val/\d.arr=true)/\g.bs[N]?=some b:=by
 have hsl:=h.slot t;rw [hs] at hsl;obtain⟨_,ho⟩:=hsl;generalize hv:val t=v at ho;cases ho with
 | mp _ _ _ _ _ _ ho=>
  obtain⟨b,es,rfl,e1,e2,e3,e4,e5,e6,e7⟩:=ho;exact⟨b,es,rfl,e2,e3,e4,e5,e6,e7,e1⟩
 | flat _ _ _ hf=>simp [D.flat] at hf
theorem Ok.putMs (h:Ok w g st val) {t:Nat} {b:Nat} {o:Obj} (hv:val t= .map (some b))(hX:g.X b=some (.slot t, []))(hb:w.heap[b]?=some o)(hM:∀o,g.M b o=none)(hbs:g.bs[N]?=some b)
  (hsz:es'.size=kvs'.length) (hst:MapKept.Stamped es' clock'/\∀x∈es'.toList,MapKept.IsKey kd x.key)
  (hr:∀(i:Nat) (k:Value) (s:Nat) (d:D) (e:MapEntry),kvs'[i]?=some (k,s,d)->es'[i]?=some e->e.key=k/\e.born=s/\R g.M g.bs d e.val/\d.arr=true):
  Ok { w with heap:=w.heap.setIfInBounds b (.map es' clock') } g (st.set t (.d (.mp N kd clock' kvs'))) val/\Fr w g { w with heap:=w.heap.setIfInBounds b (.map es' clock') } g:=by
 obtain⟨hself,hoth⟩:=MapKept.heap_set (o':= .map es' clock') hb;have other:∀(hd:Holder) (b':Nat) (q:List Nat),(hd,q)≠(Holder.slot t, [])->g.X b'=some (hd,q)->(w.heap.setIfInBounds b (.map es' clock'))[b']?=w.heap[b']?/\(∀o,g.M b' o=none->g.M b' o=none)/\g.X b'=some (hd,q):=fun hd b' q hne' hq=>by
  have:b'≠b:=by rintro rfl;rw [hX] at hq;simp only [aP] at hq;exact hne' hq.symm
  exact⟨hoth b' this,fun _ h=>h,hq⟩
 refine⟨⟨fun b' o c hc=>?_,fun b' t ht=>?_,fun u=>?_,h.ll,fun n b' ds a1 a2=>(h.loc n b' ds a1 a2).keep (fun _ _ _ h=>h) (fun _ _ h=>h) (fun b'' q=>other _ b'' q (by simp)),h.ol,fun n b' ds a1 a2=>(h.obj n b' ds a1 a2).keep (fun _ _ _ h=>h) (fun _ _ h=>h) (fun b'' q=>other _ b'' q (by simp))⟩,⟨rfl,rfl,rfl,by simp,fun b' hb' hx'=>?_,fun _ _ _ h=>h,fun _ _ h=>h⟩⟩
 .have hne':b'≠b:=by intro e;subst e;rw [hM] at hc;cases hc
  rw [World.cell?_of_block (w:=w) (a:=⟨b',o,none⟩) (hoth b' hne')];exact h.mem b' o c hc
 .have:=h.xlt b' t ht;simpa using this
 .simp only [St.set];by_cases hu:u=t
  .subst hu;simp only [aJ];rw [hv];exact⟨.mp _ _ _ b _ hbs,.mp _ _ _ _ _ _ ⟨b,es',rfl,hbs,hX,hself,hM,hsz,hst,hr⟩⟩
  simp only [hu,aZ];exact(h.slot u).keep (fun _ _ _ h=>h) (fun _ _ h=>h) (fun _ _ h=>h) (fun b'' q=>other _ b'' q (by simp [hu]))
 have:b'≠b:=by intro e;subst e;rw [hX] at hx';cases hx'
 exact⟨hoth b' this,hx',fun _=>rfl⟩
theorem Ok.putM (h:Ok w g st val) {m:Nat} (hh:vV st.obj m i N kd clock kvs) {b:Nat} (hX:g.X b=some (.obj m, [i]))(hb:w.heap[b]?=some (.map es clock))(hM:∀o,g.M b o=none)(hbs:g.bs[N]?=some b)
  (hsz:es'.size=kvs'.length) (hst:MapKept.Stamped es' clock'/\∀x∈es'.toList,MapKept.IsKey kd x.key)
  (hr:∀(i:Nat) (k:Value) (s:Nat) (d:D) (e:MapEntry),kvs'[i]?=some (k,s,d)->es'[i]?=some e->e.key=k/\e.born=s/\R g.M g.bs d e.val/\d.arr=true):
  Ok { w with heap:=w.heap.setIfInBounds b (.map es' clock') } g { st with obj:=Go.Vm.putM st.obj m i N kd clock' kvs' } val/\Fr w g { w with heap:=w.heap.setIfInBounds b (.map es' clock') } g:=by
 obtain⟨cs,h1,h2⟩:=hh;have hml:=(aH.1 h1).1;have hgd:st.obj.getD m []=cs:=by rw [kW,h1];rfl
 obtain⟨bm,hbm⟩:∃bm,g.bs[m]?=some bm:=⟨_,aN (by rw [h.ol];exact hml)⟩;have hne:cs≠ []:=by rintro rfl;simp at h2
 obtain⟨cur,E,o1,o2,o3,o4,o5⟩:=(h.obj m bm cs hbm h1).resolve_left hne;have hil:=(aH.1 h2).1;obtain⟨hself,hoth⟩:=MapKept.heap_set (o':= .map es' clock') hb;have hbm2:bm≠b:=by intro e;subst e;rw [o1] at hb;cases hb
 obtain⟨x,hx⟩:∃x,cur[i]?=some x:=⟨_,aV (by rw [o2];exact hil)⟩;have hxv:x= .map (some b):=by
  obtain⟨r1,r2,r3⟩:=o5 i _ x h2 hx;cases r1 with
  | mp _ _ _ b' _ hb'=>rw [hbs] at hb';simp at hb';rw [hb']
 have other:∀(hd:Holder) (b':Nat) (q:List Nat),(hd,q)≠(Holder.obj m, [i])->g.X b'=some (hd,q)->(w.heap.setIfInBounds b (.map es' clock'))[b']?=w.heap[b']?/\(∀o,g.M b' o=none->g.M b' o=none)/\g.X b'=some (hd,q):=fun hd b' q hne' hq=>by
  have:b'≠b:=by rintro rfl;rw [hX] at hq;simp only [aP] at hq;exact hne' hq.symm
  exact⟨hoth b' this,fun _ h=>h,hq⟩
 have other':∀(hd:Holder),hd≠ .obj m->∀(b':Nat) (q:List Nat),g.X b'=some (hd,q)->(w.heap.setIfInBounds b (.map es' clock'))[b']?=w.heap[b']?/\(∀o,g.M b' o=none->g.M b' o=none)/\g.X b'=some (hd,q):=fun hd hne' b' q=>other hd b' q (by simp [hne']);refine⟨⟨fun b' o c hc=>?_,fun b' t ht=>?_,fun t=>(h.slot t).keep (fun _ _ _ h=>h) (fun _ _ h=>h) (fun _ _ h=>h) (other' _ (by simp)),h.ll,fun n b' ds a1 a2=>(h.loc n b' ds a1 a2).keep (fun _ _ _ h=>h) (fun _ _ h=>h) (other' _ (by simp)),by simp [Go.Vm.putM,h.ol],fun n b' ds a1 a2=>?_⟩,⟨rfl,rfl,rfl,by simp,fun b' hb' hx'=>?_,fun _ _ _ h=>h,fun _ _ h=>h⟩⟩
 .have hne':b'≠b:=by intro e;subst e;rw [hM] at hc;cases hc
  rw [World.cell?_of_block (w:=w) (a:=⟨b',o,none⟩) (hoth b' hne')];exact h.mem b' o c hc
 .have:=h.xlt b' t ht;simpa using this
 .have a2':(st.obj.set m (cs.set i (.mp N kd clock' kvs')))[n]?=some ds:=by
   have a3:(Go.Vm.putM st.obj m i N kd clock' kvs')[n]?=some ds:=a2;unfold Go.Vm.putM at a3;rw [hgd] at a3;exact a3
  rw [bS] at a2';by_cases e:m=n
  .subst e;simp only [aJ,hml] at a2';have eds:cs.set i (.mp N kd clock' kvs')=ds:=by simpa using a2'
   subst eds;have ebm:b'=bm:=by rw [hbm] at a1;simpa using a1.symm
   subst ebm;refine .inr ⟨cur,E,by rw [hoth b' hbm2];exact o1,by simpa using o2,o3,o4,fun j d y c1 c2=>?_⟩;rw [bS] at c1;by_cases ej:i=j
   .subst ej;simp only [aJ,hil] at c1;have ed:D.mp N kd clock' kvs'=d:=by simpa using c1
    subst ed;have ey:y=x:=by rw [hx] at c2;simpa using c2.symm
    subst ey;subst hxv;exact⟨.mp _ _ _ b _ hbs,.mp _ _ _ _ _ _ ⟨b,es',rfl,hbs,hX,hself,hM,hsz,hst,hr⟩,rfl⟩
   rw [aG ej] at c1;obtain⟨r1,r2,r3⟩:=o5 j d y c1 c2;exact⟨r1,r2.move (fun _ _ _ h=>h) (fun _ _ h=>h) [j] fun b'' q hq=>other _ b'' _ (by simp;intro e;exact absurd e.symm ej) hq,r3⟩
  rw [aG e] at a2';exact(h.obj n b' ds a1 a2').keep (fun _ _ _ h=>h) (fun _ _ h=>h) (other' _ (by simp;exact fun e'=>e e'.symm))
 have:b'≠b:=by intro e;subst e;rw [hX] at hx';cases hx'
 exact⟨hoth b' this,hx',fun _=>rfl⟩
section
variable {P:Program}
theorem Ht {X:Nat->Option jK} {hd:Holder} {p:List Nat} {d:D} (hr:R M bs d v)(h:d.arr=true):Own w M bs X hd p d v:=by
 cases d with
 | agg cs =>
  cases hr with
  | agg _ vs hl hr h1=>
   refine .agg _ _ _ fun i d x a1 a2=> .flat _ _ _ ?_;simp only [D.arr,D.cells,eJ] at h;exact h d (aS a1)
 | _=>exact .flat _ _ _ (by simpa [D.arr,D.cells] using h)
theorem aBs (hsz:es.size=kvs.length)(hr:∀(i:Nat) (k:Value) (s:Nat) (d:D) (e:MapEntry),kvs[i]?=some (k,s,d)->es[i]?=some e->e.key=k/\e.born=s/\R' d e.val/\d.arr=true):
  ∀(i:Nat) (e:MapEntry),es[i]?=some e->∃s d,kvs[i]?=some (e.key,s,d)/\e.born=s/\R' d e.val/\d.arr=true:=by
 intro i e he;have hi:i<kvs.length:=by rw [<- hsz];exact(cZ.1 he).1
 rcases hkv:kvs[i] with ⟨k,s,d⟩;have h1:kvs[i]?=some (k,s,d):=by rw [aN hi,hkv]
 obtain⟨a,b,c,d'⟩:=hr i k s d e h1 he;exact⟨s,d,by rw [a];exact h1,b,c,d'⟩
theorem aDg (hst:MapKept.Stamped es clock) {j:Nat} {e e':MapEntry} (h1:es[i]?=some e)(h2:es[j]?=some e')(hk:e.key=e'.key):i=j:=by
 have hnd:=hst.2.2;have hi:i<(es.toList.map (·.key)).length:=by simpa using(cZ.1 h1).1
 have hj:j<(es.toList.map (·.key)).length:=by simpa using(cZ.1 h2).1
 have e1:(es.toList.map (·.key))[i]?=some e.key:=by rw [bP,cQ,h1];rfl
 have e2:(es.toList.map (·.key))[j]?=some e'.key:=by rw [bP,cQ,h2];rfl
 rcases Nat.lt_trichotomy i j with h | h | h
 .exfalso;have:=(tV.1 hnd) i j hi hj h;rw [aN hi] at e1;rw [aN hj] at e2;simp only [aP] at e1 e2;exact this (by rw [e1,e2,hk])
 .exact h
 exfalso;have:=(tV.1 hnd) j i hj hi h;rw [aN hi] at e1;rw [aN hj] at e2;simp only [aP] at e1 e2;exact this (by rw [e1,e2,hk])
theorem Ic (hk:MapKept.IsKey kd k)(hst:MapKept.Stamped es clock/\∀x∈es.toList,MapKept.IsKey kd x.key)(hsz:es.size=kvs.length)
  (hr:∀(i:Nat) (k:Value) (s:Nat) (d:D) (e:MapEntry),kvs[i]?=some (k,s,d)->es[i]?=some e->e.key=k/\e.born=s/\R' d e.val/\d.arr=true):
  (∀(j s:Nat) (d:D),kvs[j]?=some (k,s,d)->∃e,es[j]?=some e/\e.key=k/\e.born=s/\R' d e.val/\d.arr=true/\Instr.findNow kd k es.toList 0=some (some (j,e.val)))/\
  ((∀e∈kvs,e.1≠k)->Instr.findNow kd k es.toList 0=some none/\∀x∈es.toList,x.key≠k):=by
 refine⟨fun j s d hj=>?_,fun hno=>?_⟩
 .have hlt:j<es.size:=by rw [hsz];exact(aH.1 hj).1
  have he:es[j]?=some es[j]:=aV hlt;obtain⟨a,b,c,d'⟩:=hr j k s d _ hj he;refine⟨_,he,a,b,c,d',?_⟩;rcases MapKept.findNow_spec hk es.toList 0 hst.2 with ⟨h1,h2⟩ | ⟨j',e',h1,h2,h3⟩
  .exact absurd a (h2 _ (by simp))
  rw [cQ] at h2;have:=aDg hst.1 he h2 (by rw [a,h3]);subst this;rw [he] at h2;simp only [aP] at h2;subst h2;simpa using h1
 have hall:∀x∈es.toList,x.key≠k:=by
  intro x hx hxk;obtain⟨i,hi⟩:=dY hx;rw [cQ] at hi;obtain⟨s,d,h1,_⟩:=aBs hsz hr i x hi;exact hno _ (aS h1) hxk
 rcases MapKept.findNow_spec hk es.toList 0 hst.2 with h | ⟨j',e',h1,h2,h3⟩
 .exact h
 exact absurd h3 (hall _ (aS h2))
theorem aOb (z:Value):R M bs (zmD z) z:=(R.ofV M bs z).s2
theorem zV (t:TypeId)(x i:Operand)(ok:Bool)(hd:dD o st)(ho:o.op= .lookup t x i ok) {d:Nat} {z:Value} {dv:D} {b:Bool} (hdst:o.dst=some d)(hi:st.rdS i= .d (.v k))(hmp:mpI P t=some (kd,z))(hk:MapKept.IsKey kd k)(harr:(zmD z).arr=true)(hget:aE6 kvs k (zmD z) dv b)
  (hrow:∀(w:World) (g:Gh) (tmps:Array Value),Ok w g st (bQ tmps)->∃(bl:Nat) (es:Array MapEntry) (clock:Nat),ev tmps x= .map (some bl)/\w.heap[bl]?=some (.map es clock)/\es.size=kvs.length/\(MapKept.Stamped es clock/\∀x∈es.toList,MapKept.IsKey kd x.key)/\
   (∀(i:Nat) (k:Value) (s:Nat) (d:D) (e:MapEntry),kvs[i]?=some (k,s,d)->es[i]?=some e->e.key=k/\e.born=s/\R g.M g.bs d e.val/\d.arr=true)):
  Does P o st (· =st.upd ⟨[(d,.d (if ok=true then .tup [dv,.bool b] else dv))],none,none⟩):=by
 obtain⟨kt,et,ti,u1,u2,u3,u4⟩:=oU hmp;rw [Jb];refine bE hd fun w g tmps hok=>?_;have hik:ev tmps i=k:=by
  have:=hok.rd i;rw [cS hi] at this;exact this.vEq
 obtain⟨bl,es,clock,hv,o2,o4,o5,o6⟩:=hrow w g tmps hok;obtain⟨f1,f2⟩:=Ic hk o5 o4 o6;have hck:=MapKept.run_checkKey (P:=P) (w:=w) u2 hk es.isEmpty 9999;have hgo:=MapKept.run_getObj_map (P:=P) o2;have fin:∀v:Value,R g.M g.bs dv v->dv.arr=true->(execOp (ev tmps) o).run P w= .ok (.value (if ok=true then .tuple #[v,.bool b] else v)) w->∃v w' g' st',((execOp (⟨tmps, []⟩:Act).eval o).run P w= .ok (.value v) w'\/((execOp (⟨tmps, []⟩:Act).eval o).run P w= .ok .skip w'/\v=undef))/\
   st'=st.set d (.d (if ok=true then .tup [dv,.bool b] else dv))/\Fr w g w' g'/\Ok w' g' st' (sJ o.dst v (bQ tmps))/\st'.n=st.n/\g'.bl.take g.bl.length=g.bl:=by
  intro v hv ha hrun;refine⟨_,w,g,_,.inl hrun,rfl,Fr.refl w g,?_,rfl,by simp⟩;rw [hdst];refine hok.set d _ _ ?_;cases ok with
  | false=>exact⟨hv,Ht hv ha⟩
  | true =>
   have hall:∀(i:Nat) (d:D) (x:Value), [dv,D.bool b][i]?=some d->(#[v,Value.bool b]:Array Value)[i]?=some x->R g.M g.bs d x/\d.arr=true:=by
    intro i d x a1 a2
    match i with
    | 0=>simp at a1 a2;subst a1;subst a2;exact⟨hv,ha⟩
    | 1=>simp at a1 a2;subst a1;subst a2;exact⟨.v _ rfl,rfl⟩
    | i+2=>simp at a1
   exact⟨.tup _ _ (by simp) fun i d x a1 a2=>(hall i d x a1 a2).1,.tup _ _ _ fun i d x a1 a2=>Ht (hall i d x a1 a2).1 (hall i d x a1 a2).2⟩
 rcases hget with ⟨rfl,j,s,hj⟩ | ⟨rfl,rfl,hno⟩
 .obtain⟨e,e1,e2,e3,e4,e5,e6⟩:=f1 j s dv hj;have hfk:=MapKept.run_findKey (P:=P) (w:=w) u2 e6;refine fin e.val e4 e5 ?_;cases ok <;> simp [execOp,ho,Instr.lookup,hv,hik,run_underlying u1,hgo,hck,hfk]
 obtain⟨e1,e2⟩:=f2 hno;have hfk:=MapKept.run_findKey (P:=P) (w:=w) u2 e1;refine fin z (aOb z) harr ?_;cases ok <;> simp [execOp,ho,Instr.lookup,hv,hik,run_underlying u1,hgo,hck,hfk,zeroValue,typeInfo,u3,u4]
theorem aIt(v:Value) :D.ofV v≠ .mp N kd clock kvs:=by
 intro h;unfold D.ofV D.ofV1 at h
 repeat' (split at h)
 all_goals exact D.noConfusion h
theorem aHg {x:Operand} (h:st.rdS x= .d (.mp N kd clock kvs)):∃t,x= .tmp t/\st.env t= .d (.mp N kd clock kvs):=by
 cases x with
 | tmp t=>exact⟨t,rfl,h⟩
 | const v=>simp only [St.rdS,Slot.d.injEq] at h;exact absurd h (aIt v)
 | _=>simp [St.rdS,Slot.any] at h
theorem Gn (t:TypeId)(x i:Operand)(ok:Bool)(hd:dD o st)(ho:o.op= .lookup t x i ok) 
  (h:rA P o.dst t (st.rdS x) (st.rdS i) ok st.obj sets ob):Does P o st (· =st.upd ⟨sets,none,ob⟩):=by
 unfold rA at h;split at h
 .rename_i d N k kd z hdst hx hi hmp;obtain⟨m,c,clock,kvs,dv,b,⟨hh,hk,harr,hget⟩,rfl,rfl⟩:=h;refine zV t x i ok hd ho hdst hi hmp hk harr hget fun w g tmps hok=>?_;have hrx:=hok.rd x;rw [cS hx] at hrx;obtain⟨bl,es,hv,o1,o2,o3,o4,o5,o6,_⟩:=vB hok hh hrx;exact⟨bl,es,clock,hv,o2,o4,o5,o6⟩
 .rename_i d N kd0 clock kvs k kd z hdst hx hi hmp;obtain⟨dv,b,⟨rfl,hk,harr,hget⟩,rfl,rfl⟩:=h;refine zV t x i ok hd ho hdst hi hmp hk harr hget fun w g tmps hok=>?_;obtain⟨tx,rfl,he⟩:=aHg hx;obtain⟨bl,es,hv,o1,o2,o3,o4,o5,o6,_⟩:=Qy hok he;exact⟨bl,es,clock,hv,o2,o4,o5,o6⟩
 exact h.elim
theorem aAd {α:Type} {es:Array α} {e:α} {n:Nat} (h:es.size=n):∀(i:Nat) (x:α),(es.push e)[i]?=some x->(i<n/\es[i]?=some x)\/(i=n/\x=e):=by
 intro i x hx;rw [Array.getElem?_push] at hx;split at hx
 .rename_i hi;exact .inr ⟨by omega,by simpa using hx.symm⟩
 exact .inl ⟨by have:=(cZ.1 hx).1;omega,hx⟩
theorem Jp {d:D} (hk:MapKept.IsKey kd k)(hst:MapKept.Stamped es clock/\∀x∈es.toList,MapKept.IsKey kd x.key)(hsz:es.size=kvs.length)
  (hr:∀(i:Nat) (k:Value) (s:Nat) (d:D) (e:MapEntry),kvs[i]?=some (k,s,d)->es[i]?=some e->e.key=k/\e.born=s/\R M bs d e.val/\d.arr=true) (hd:R M bs d v) (ha:d.arr=true) (hset:aJh kvs clock k d kvs' clock'):
  ∃es':Array MapEntry,(∀(P:Program) (w:World) (r:Nat) (t kt et:TypeId),P.underlying t=some (.map kt et)->P.underlying kt=some kd->w.heap[r]?=some (.map es clock)->(Instr.mapUpdate t (.map (some r)) k v).run P w= .ok () { w with heap:=w.heap.setIfInBounds r (.map es' clock') })/\
   es'.size=kvs'.length/\(MapKept.Stamped es' clock'/\∀x∈es'.toList,MapKept.IsKey kd x.key)/\
   ∀(i:Nat) (k:Value) (s:Nat) (d:D) (e:MapEntry),kvs'[i]?=some (k,s,d)->es'[i]?=some e->e.key=k/\e.born=s/\R M bs d e.val/\d.arr=true:=by
 obtain⟨f1,f2⟩:=Ic hk hst hsz hr;rcases hset with ⟨j,s,d0,hj,rfl,rfl⟩ | ⟨hno,rfl,rfl⟩
 .obtain⟨e,e1,e2,e3,e4,e5,e6⟩:=f1 j s d0 hj;refine⟨es.modify j fun e=> { e with key:=k,val:=v },fun P w r t kt et u1 u2 hb=>?_,by simp [hsz],⟨?_,?_⟩,fun i k' s' d' e' a1 a2=>?_⟩
  .have hck:=MapKept.run_checkKey (P:=P) (w:=w) u2 hk false 9999;have hfk:=MapKept.run_findKey (P:=P) (w:=w) u2 e6;have hks:=MapKept.run_keyThatStays (P:=P) (w:=w) hk;have hso:=MapKept.run_setObj_map (P:=P) (.map (es.modify j fun e=> { e with key:=k,val:=v }) clock') hb;simp [Instr.mapUpdate,run_underlying u1,MapKept.run_getObj_map hb,hck,hfk,e1,e2,hks,hso]
  .exact MapKept.stamped_modify hst.1 j _ (fun _ _=>rfl) (fun x _ hx=>by rw [e1] at hx;simp at hx;subst hx;exact e2.symm)
  .exact MapKept.isKey_modify hst.2 j _ (fun x hx=>by rw [e1] at hx;simp at hx;subst hx;exact e2.symm)
  rw [Array.getElem?_modify] at a2;rw [bS] at a1;by_cases hij:j=i
  .subst hij;have hlt:=(aH.1 hj).1;simp only [aJ,hlt] at a1 a2;rw [e1] at a2;simp only [eT,aP] at a2;simp only [aP,fK] at a1;obtain⟨rfl,rfl,rfl⟩:=a1;subst a2;exact⟨rfl,e3,hd,ha⟩
  rw [aG hij] at a1 a2;exact hr i k' s' d' e' a1 a2
 obtain⟨e1,e2⟩:=f2 hno;refine⟨es.push { key:=k,val:=v,born:=clock },fun P w r t kt et u1 u2 hb=>?_,by simp [hsz],⟨MapKept.stamped_push hst.1 e2,?_⟩,fun i k' s' d' e' a1 a2=>?_⟩
 .have hck:=MapKept.run_checkKey (P:=P) (w:=w) u2 hk false 9999;have hfk:=MapKept.run_findKey (P:=P) (w:=w) u2 e1;have hso:=MapKept.run_setObj_map (P:=P) (.map (es.push { key:=k,val:=v,born:=clock }) (clock+1)) hb;simp [Instr.mapUpdate,run_underlying u1,MapKept.run_getObj_map hb,hck,hfk,hso]
 .intro x hx;simp only [Array.toList_push,dZ,iM] at hx;rcases hx with hx | rfl
  .exact hst.2 x hx
  exact hk
 rcases aAd hsz i e' a2 with ⟨hi,h⟩ | ⟨rfl,rfl⟩
 .rw [aU hi] at a1;exact hr i k' s' d' e' a1 h
 rw [bI (bD _),kU] at a1;simp only [nM,aP,fK] at a1;obtain⟨rfl,rfl,rfl⟩:=a1;exact⟨rfl,rfl,hd,ha⟩
theorem vQ (t:TypeId)(x i v:Operand)(hd:dD o st)(ho:o.op= .mapUpdate t x i v\/o.op= .insert t x i v) 
  (h:qT P o.dst t x (st.rdS x) (st.rdS i) (st.rdS v) st.obj sets ob):Does P o st (· =st.upd ⟨sets,none,ob⟩):=by
 unfold qT at h;split at h
 .rename_i N k d0 kd z hdst hx hi hvd hmp;obtain⟨m,c,clock,kvs,clock',kvs',⟨hh,hk,harr,hsol,hset⟩,rfl,rfl⟩:=h;obtain⟨kt,et,ti,u1,u2,u3,u4⟩:=oU hmp;refine bE hd fun w g tmps hok=>?_;have hrx:=hok.rd x;rw [cS hx] at hrx;have hik:ev tmps i=k:=by
   have:=hok.rd i;rw [cS hi] at this;exact this.vEq
  have hrv:=hok.rd v;rw [cS hvd] at hrv;obtain⟨bl,es,hv,o1,o2,o3,o4,o5,o6,o7⟩:=vB hok hh hrx;obtain⟨es',q1,q2,q3,q4⟩:=Jp hk o5 o4 o6 hrv.s2 harr hset;obtain⟨p1,p2⟩:=hok.putM hh o1 o2 o3 o7 q2 q3 q4;have hrun:=q1 P w bl t kt et u1 u2 o2;rw [hdst];refine⟨undef,_,g,_,.inr ⟨?_,rfl⟩,rfl,p2,p1,rfl,by simp⟩;rcases ho with ho | ho <;> simp [execOp,ho,hv,hik,hrun]
 .rename_i N kd0 clock kvs k d0 kd z hdst hx hi hvd hmp;obtain⟨tx,clock',kvs',⟨rfl,rfl,hk,harr,hsol,hset⟩,rfl,rfl⟩:=h;obtain⟨kt,et,ti,u1,u2,u3,u4⟩:=oU hmp;rw [Jb];refine bE hd fun w g tmps hok=>?_;have hik:ev tmps i=k:=by
   have:=hok.rd i;rw [cS hi] at this;exact this.vEq
  have hrv:=hok.rd v;rw [cS hvd] at hrv;obtain⟨bl,es,hv,o1,o2,o3,o4,o5,o6,o7⟩:=Qy hok (t:=tx) hx;obtain⟨es',q1,q2,q3,q4⟩:=Jp hk o5 o4 o6 hrv.s2 harr hset;obtain⟨p1,p2⟩:=hok.putMs hv o1 o2 o3 o7 q2 q3 q4;have hrun:=q1 P w bl t kt et u1 u2 o2;have hv':ev tmps (.tmp tx)= .map (some bl):=hv;rw [hdst];refine⟨undef,_,g,_,.inr ⟨?_,rfl⟩,rfl,p2,p1,rfl,by simp⟩;rcases ho with ho | ho <;> simp [execOp,ho,hv',hik,hrun]
 exact h.elim
theorem Ig (t t2:TypeId)(x i:Operand)(hd:dD o st)(ho:o.op= .call { callee:= .builtin .delete,args:=#[x,i],argTypes:=#[t,t2] }) 
  (h:tU P o.dst t (st.rdS x) (st.rdS i) st.obj sets ob):Does P o st (· =st.upd ⟨sets,none,ob⟩):=by
 unfold tU at h;split at h
 .rename_i N k kd z hx hi hmp;obtain⟨m,c,clock,kvs,kvs',⟨hdst,hh,hk,hdel⟩,rfl,rfl⟩:=h;obtain⟨kt,et,ti,u1,u2,u3,u4⟩:=oU hmp;refine bE hd fun w g tmps hok=>?_;have hrx:=hok.rd x;rw [cS hx] at hrx;have hik:ev tmps i=k:=by
   have:=hok.rd i;rw [cS hi] at this;exact this.vEq
  obtain⟨bl,es,hv,o1,o2,o3,o4,o5,o6,o7⟩:=vB hok hh hrx;obtain⟨f1,f2⟩:=Ic hk o5 o4 o6;have hck:=MapKept.run_checkKey (P:=P) (w:=w) u2 hk es.isEmpty 9999;rw [hdst];rcases hdel with ⟨j,s,d0,hj,rfl⟩ | ⟨hno,rfl⟩
  .obtain⟨e,e1,e2,e3,e4,e5,e6⟩:=f1 j s d0 hj;have hlt:=(cZ.1 e1).1;have her:es.eraseIdxIfInBounds j=es.eraseIdx j hlt:=by simp [Array.eraseIdxIfInBounds,hlt]
   have hfk:=MapKept.run_findKey (P:=P) (w:=w) u2 e6;have hso:=MapKept.run_setObj_map (P:=P) (.map (es.eraseIdxIfInBounds j) clock) o2;obtain⟨p1,p2⟩:=hok.putM (es':=es.eraseIdxIfInBounds j) (kvs':=kvs.eraseIdx j) (clock':=clock) hh o1 o2 o3 o7
    (by rw [her];simp [List.length_eraseIdx,(aH.1 hj).1];omega)
    ⟨MapKept.stamped_erase o5.1 j,fun x hx=>o5.2 x (by
     rw [her,Array.toList_eraseIdx] at hx;exact(List.eraseIdx_sublist _ _).subset hx)⟩
    (fun i k' s' d' e' a1 a2=>by
     rw [her,<- cQ,Array.toList_eraseIdx,List.getElem?_eraseIdx] at a2;rw [List.getElem?_eraseIdx] at a1;by_cases hij:i<j
     .rw [aR hij] at a1 a2;exact o6 i k' s' d' e' a1 (by simpa using a2)
     rw [aG hij] at a1 a2;exact o6 (i+1) k' s' d' e' a1 (by simpa using a2))
   refine⟨.tuple #[],_,g,_,.inl ?_,rfl,p2,p1,rfl,by simp⟩;simp [execOp,ho,resolve,invoke,builtin,Builtin.delete_,hv,hik,run_underlying u1,MapKept.run_getObj_map o2,hck,hfk,hso]
  obtain⟨e1,e2⟩:=f2 hno;have hfk:=MapKept.run_findKey (P:=P) (w:=w) u2 e1;have hso:=MapKept.run_setObj_map (P:=P) (.map es clock) o2;obtain⟨p1,p2⟩:=hok.putM (es':=es) (kvs':=kvs') (clock':=clock) hh o1 o2 o3 o7 o4 o5 o6;refine⟨.tuple #[],_,g,_,.inl ?_,rfl,p2,p1,rfl,by simp⟩;simp [execOp,ho,resolve,invoke,builtin,Builtin.delete_,hv,hik,run_underlying u1,MapKept.run_getObj_map o2,hck,hfk,hso]
 exact h.elim
theorem Py (t:TypeId)(x:Operand)(hd:dD o st)(ho:o.op= .call { callee:= .builtin .len,args:=#[x],argTypes:=#[t] }) 
  (h:Bo P o.dst t (st.rdS x) st.obj sets ob):Does P o st (· =st.upd ⟨sets,none,ob⟩):=by
 unfold Bo at h;split at h
 .rename_i d N kd z hdst hx hmp;obtain⟨m,c,clock,kvs,hh,rfl,rfl⟩:=h;obtain⟨kt,et,ti,u1,u2,u3,u4⟩:=oU hmp;refine bL hd (.d (.int kvs.length)) (fun w g tmps hok=>?_) (by rw [hdst];rfl);have hrx:=hok.rd x;rw [cS hx] at hrx;obtain⟨bl,es,hv,o1,o2,o3,o4,o5,o6,o7⟩:=vB hok hh hrx;exact⟨.int .i64 kvs.length,by simp [execOp,ho,resolve,invoke,builtin,Builtin.len_,hv,run_underlying u1,MapKept.run_getObj_map o2,goInt,o4],bC (.v _ rfl) rfl⟩
 exact h.elim
theorem Ok.newM_ (h:Ok w g st val)(d:Nat)(kd:TypeDesc):
  Ok (w.alloc (.map #[] 0)) { g with X:=(fun b=>if b=w.heap.size then some (.slot d, [])else g.X b),bs:=g.bs++ [w.heap.size] } (({ st with obj:=st.obj++ [[]] } :St).set d (.d (.mp st.obj.length kd 0 []))) (fun u=>if u=d then .map (some w.heap.size)else val u)/\
   Fr w g (w.alloc (.map #[] 0)) { g with X:=(fun b=>if b=w.heap.size then some (.slot d, [])else g.X b),bs:=g.bs++ [w.heap.size] } :=by
 have hbs:∀(n b:Nat),g.bs[n]?=some b->(g.bs++ [w.heap.size])[n]?=some b:=fun n b hb=>by
  rw [aU (by exact(aH.1 hb).1)];exact hb
 have hk:∀(hd:Holder) (b:Nat) (q:List Nat),g.X b=some (hd,q)->(w.alloc (.map #[] 0)).heap[b]?=w.heap[b]?/\(∀o,g.M b o=none->g.M b o=none)/\(if b=w.heap.size then some (Holder.slot d, [])else g.X b)=some (hd,q):=by
  intro hd b q hb;have:=h.xlt b _ hb;exact⟨kK w _ this,fun o ho=>ho,by rw [aG (by omega)];exact hb⟩
 have base:Ok (w.alloc (.map #[] 0)) { g with X:=(fun b=>if b=w.heap.size then some (.slot d, [])else g.X b),bs:=g.bs++ [w.heap.size] } { st with obj:=st.obj++ [[]] } val:=by
  refine⟨fun b o c hc=>?_,fun b t hb=>?_,fun t=>(h.slot t).keep (fun _ _ _ h=>h) hbs (fun _ _ h=>h) (hk _),h.ll,fun n b ds h1 h2=>(h.loc n b ds h1 h2).keep (fun _ _ _ h=>h) hbs (hk _),by simp [h.ol],fun n b ds h1 h2=>?_⟩
  .have:=h.mlt hc;rw [World.cell?_alloc_lt w _ ⟨b,o,none⟩ this];exact h.mem b o c hc
  .simp only at hb;simp only [World.size_alloc];split at hb
   .omega
   have:=h.xlt b t hb;omega
  by_cases hn:n<st.obj.length
  .have h1':g.bs[n]?=some b:=by rw [aU (by rw [h.ol];exact hn)] at h1;exact h1
   have h2':st.obj[n]?=some ds:=by
    have h3:(st.obj++ [[]])[n]?=some ds:=h2;rw [aU hn] at h3;exact h3
   exact(h.obj n b ds h1' h2').keep (fun _ _ _ h=>h) hbs (hk _)
  have h3:(st.obj++ [[]])[n]?=some ds:=h2;have hlt:=(aH.1 h3).1;simp at hlt;have hn':n=st.obj.length:=by omega
  subst hn';exact .inl (by simpa using h3.symm)
 refine⟨base.set d _ _ ⟨.mp _ _ _ w.heap.size _ (by show(g.bs++ [w.heap.size])[st.obj.length]?=_;rw [<- h.ol];simp),.mp _ _ _ _ _ _ ⟨w.heap.size,#[],rfl,by show(g.bs++ [w.heap.size])[st.obj.length]?=_;rw [<- h.ol];simp,by simp,oH w _,fun o=>h.newM o,rfl,⟨MapKept.stamped_empty 0,by simp⟩,fun i k s d e a1=>by simp at a1⟩⟩,
  rfl,rfl,rfl,by simp,fun b hb hx=>⟨kK w _ hb,?_,fun o=>rfl⟩,fun _ _ _ h=>h,hbs⟩
 simp only [aG (show ¬b=w.heap.size by omega)];exact hx
theorem Di (t:TypeId)(r:Option Operand)(hd:dD o st)(ho:o.op= .makeMap t r) 
  (h:oW P o.dst t (r.map st.rdS) st.obj sets ob):Does P o st (· =st.upd ⟨sets,none,ob⟩):=by
 unfold oW at h;split at h
 .rename_i d kd z hdst hmp;obtain⟨hr,rfl,rfl⟩:=h;obtain⟨kt,et,ti,u1,u2,u3,u4⟩:=oU hmp;refine bE hd fun w g tmps hok=>?_;obtain⟨q1,q2⟩:=hok.newM_ d kd;rw [hdst];refine⟨.map (some w.heap.size),_,_,_,.inl ?_,rfl,q2,q1,rfl,by simp⟩;cases r with
  | none=>simp [execOp,ho,Instr.makeMap]
  | some x =>
   simp only [eT] at hr;have:∃k n,ev tmps x= .int k n:=by
    split at hr
    .rename_i h;cases h
    .rename_i k n h;simp only [aP] at h;have:=hok.rd x;rw [cS h] at this;exact⟨_,_,this.vEq⟩
    exact hr.elim
   obtain⟨k,n,hx⟩:=this;simp [execOp,ho,Instr.makeMap,hx,run_underlying u1,asInt,asIntOf]
 exact h.elim
end
end Go.Vm
