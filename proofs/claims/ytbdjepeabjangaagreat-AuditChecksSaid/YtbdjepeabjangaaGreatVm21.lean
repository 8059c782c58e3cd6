import Derived.Test.YtbdjepeabjangaaGreatVm20
set_option linter.all false
namespace Go.Vm
open Go
variable {E:Nat->Bool}{Q:Exit->St->Prop}{all ops r:List Oper}{c:Cfg}{dfs:List Deferred}{e st:St}{i j n:Nat}{ks:List DK}{listed:Array Bool}{o:Oper}{ro:Option Nat}{ss:List St}{π:List Nat}
section
variable {P:Program}
theorem St.ext' {a b:St} (h1:a.n=b.n)(h2:∀t,a.env t=b.env t)(h3:a.loc=b.loc)(h4:a.obj=b.obj):a=b:=by
 cases a;cases b;simp only at h1 h3 h4;subst h1;subst h3;subst h4;congr 1;exact funext h2
def U(ds:List Delta)(s:St)(k:Nat):St:=s.upd (ds.getD k ⟨[],none,none⟩)
def dl(c:Cfg):List Oper->List DK->List St->List Delta
 | o::r,k::ks,s::ss=>fJ (uB c o.dst o.op k) (pC k) s::dl c r ks ss
 | _,_,_=> []
theorem Chain.len (h:Chain P c all r ks st ss e):ss.length=r.length:=by
 induction h with
 | nil ks st=>rfl
 | cons o r k ks st s ss e h hr ih=>simp [ih]
theorem Mg (h:Chain P c all r ks st ss e):(dl c r ks ss).length=r.length/\e=(dl c r ks ss).foldl St.upd st/\
  ∀(k:Nat) (o:Oper) (kk:DK),r[k]?=some o->ks[k]?=some kk->∃s,(dl c r ks ss)[k]?=some (fJ (uB c o.dst o.op kk) (pC kk) s)/\
   (Zq c o.dst o.op kk=true->∃J,s.obj=(((dl c r ks ss).take k).foldl St.upd st).obj++J)/\
   (kk.isNd=false->∀st',AgreeD (wR c all o kk) (pC kk) (Aw c o.dst o.op kk) (((dl c r ks ss).take k).foldl St.upd st) st'->Jb P all o st' (· =st'.upd (fJ (uB c o.dst o.op kk) (pC kk) s))):=by
 induction h with
 | nil ks st=>exact⟨by simp [dl],by simp [dl],fun k o kk h=>by simp at h⟩
 | cons o r k ks st s ss e h hr ih =>
  obtain⟨h1,h2,h3⟩:=ih;refine⟨by simp [dl,h1],?_,fun i o' kk a1 a2=>?_⟩
  .simp only [dl,eI,<- h.self];exact h2
  match i with
  | 0=>
   simp at a1 a2;subst a1;subst a2;exact⟨s,by simp [dl],fun e=>by simpa using h.app e,fun hn st' ha=>h.go hn st' (by simpa using ha)⟩
  | i+1=>
   obtain⟨s',b1,b0,b2⟩:=h3 i o' kk (by simpa using a1) (by simpa using a2);refine⟨s',by simpa [dl] using b1,fun e=>by simpa [dl,<- h.self] using b0 e,fun hn st' ha=>b2 hn st' ?_⟩;simp only [dl,uR,eI,<- h.self] at ha;exact ha
theorem kQ(ds:List Delta)(st:St):∀k,k<=ds.length->(List.range k).foldl (U ds) st=(ds.take k).foldl St.upd st
 | 0,_=>by simp
 | k+1,h=>by
  rw [rP,kI,kQ ds st k (by omega),Ib (by omega),kI];simp only [eI,pL,U];congr 1;simp [List.getD,aS (show k<ds.length by omega)]
theorem pX(ds:List Delta)(p:Nat->Bool)(t:Nat)(hp:∀k,p k=false->∀s,(U ds s k).env t=s.env t)(hq:∀k,∀s s':St,s.env t=s'.env t->(U ds s k).env t=(U ds s' k).env t):∀(L:List Nat) (s s':St),s.env t=s'.env t->(L.foldl (U ds) s).env t=((L.filter p).foldl (U ds) s').env t
 | [],s,s',h=>h
 | k::L,s,s',h=>by
  simp only [eI,kE];cases hk:p k with
  | true=>simp only [aO,eI];exact pX ds p t hp hq L _ _ (hq k s s' h)
  | false=>simp only [gD,bE];exact pX ds p t hp hq L _ _ (by rw [hp k hk];exact h)
theorem qB(ds:List Delta)(p:Nat->Bool)(hp:∀k,p k=false->∀s,(U ds s k).loc=s.loc)(hq:∀k,∀s s':St,s.loc=s'.loc->(U ds s k).loc=(U ds s' k).loc):∀(L:List Nat) (s s':St),s.loc=s'.loc->(L.foldl (U ds) s).loc=((L.filter p).foldl (U ds) s').loc
 | [],s,s',h=>h
 | k::L,s,s',h=>by
  simp only [eI,kE];cases hk:p k with
  | true=>simp only [aO,eI];exact qB ds p hp hq L _ _ (hq k s s' h)
  | false=>simp only [gD,bE];exact qB ds p hp hq L _ _ (by rw [hp k hk];exact h)
theorem nV(ds:List Delta)(p:Nat->Bool)(hp:∀k,p k=false->∀s,(U ds s k).obj=s.obj)(hq:∀k,∀s s':St,s.obj=s'.obj->(U ds s k).obj=(U ds s' k).obj):∀(L:List Nat) (s s':St),s.obj=s'.obj->(L.foldl (U ds) s).obj=((L.filter p).foldl (U ds) s').obj
 | [],s,s',h=>h
 | k::L,s,s',h=>by
  simp only [eI,kE];cases hk:p k with
  | true=>simp only [aO,eI];exact nV ds p hp hq L _ _ (hq k s s' h)
  | false=>simp only [gD,bE];exact nV ds p hp hq L _ _ (by rw [hp k hk];exact h)
theorem Bq(ds:List Delta):∀(L:List Nat) (s:St),(L.foldl (U ds) s).n=s.n
 | [],_=>rfl
 | k::L,s=>by rw [eI,Bq ds L];rfl
theorem oR(n j:Nat)(hj:j<=n)(p q:Nat->Bool)(h:∀k,k<n->p k=(decide (k<j) && q k)):(List.range n).filter p=(List.range j).filter q:=by
 have e:List.range n=List.range j++(List.range (n - j)).map (j+ ·):=by
  rw [<- List.range_add];congr 1;omega
 rw [e,cT];have h1:(List.range j).filter p=(List.range j).filter q:=kC fun k hk=>by
  rw [fN] at hk;rw [h k (by omega)];simp [hk]
 have h2:((List.range (n - j)).map (j+ ·)).filter p= []:=by
  rw [pB];intro k hk;obtain⟨i,hi,rfl⟩:=bW.1 hk;rw [fN] at hi;rw [h _ (by omega)];have:¬(j+i<j):=by omega
  simp [this]
 rw [h1,h2,iC]
theorem mF(n j:Nat)(hj:j<n)(p q:Nat->Bool)(h:∀k,k<n->p k=((decide (k<j) && q k) || decide (k=j))):(List.range n).filter p=(List.range j).filter q++ [j]:=by
 have:(List.range n).filter p=(List.range (j+1)).filter p:=oR n (j+1) hj p p fun k hk=>by
  rw [h k hk];by_cases h1:k<j
  .simp [h1,show k<j+1 by omega]
  by_cases h2:k=j
  .simp [h2]
  simp [h1,h2]
 rw [this,rP,cT];congr 1
 .exact kC fun k hk=>by
   rw [fN] at hk;rw [h k (by omega)];simp [hk,show ¬k=j by omega]
 simp [h j hj]
structure DrawFacts(P:Program)(c:Cfg)(all:List Oper)(wt:Nat->Nat->Bool)(ops:List Oper)(ks:List DK)(st:St)(ds:List Delta):Prop where
 len:ks.length=ops.length
 dlen:ds.length=ops.length
 apart:∀(i j:Nat) (oi oj:Oper) (ki kj:DK),ops[i]?=some oi->ks[i]?=some ki->ops[j]?=some oj->ks[j]?=some kj->i<j->wt i j=false->(zL c all oi ki).apart (zL c all oj kj)=true
 step:∀(k:Nat) (o:Oper) (kk:DK),ops[k]?=some o->ks[k]?=some kk->∃s,ds[k]?=some (fJ (uB c o.dst o.op kk) (pC kk) s)/\
   (Zq c o.dst o.op kk=true->∃J,s.obj=((ds.take k).foldl St.upd st).obj++J)/\
   (kk.isNd=false->∀st',AgreeD (wR c all o kk) (pC kk) (Aw c o.dst o.op kk) ((ds.take k).foldl St.upd st) st'->Jb P all o st' (· =st'.upd (fJ (uB c o.dst o.op kk) (pC kk) s)))
theorem Mm {k:DK} (ho:ops[i]?=some o)(hk:ks[i]?=some k):(fps c all ops ks)[i]?=some (zL c all o k):=by
 simp only [fps,cB,dG];exact⟨(o,k),List.getElem?_zip_eq_some.2 ⟨ho,hk⟩,rfl⟩
structure Ord(all:List Oper)(π:List Nat):Prop where
 len:π.length=all.length
 all_:∀i,i<all.length->∃p:Nat,p<all.length/\π[p]?=some i
 nodup:π.Nodup
 lt_:∀i∈π,i<all.length
theorem Ch:∀ {l:List Nat},Eh l=true->l.Nodup
 | [],_=>List.nodup_nil
 | a::l,h=>by
  simp only [Eh,fF,pD] at h;exact oU.2 ⟨by simpa using h.1,Ch h.2⟩
theorem Ord.lt (h:Ord all π) {p:Nat} (hp:π[p]?=some i):i<all.length:=h.lt_ i (aW hp)
theorem Ord.of (h1:π.length=all.length)(h2:∀i,i<all.length->π.contains i=true)(h3:Eh π=true)(h4:∀i∈π,i<all.length):Ord all π:=
 ⟨h1,fun i hi=>by
  obtain⟨p,hp⟩:=sE.1 (by simpa using h2 i hi:i∈π);exact⟨p,by have:=(aJ.1 hp).1;omega,hp⟩,Ch h3,h4⟩
theorem Al {all:List Oper} :∀ {π:List Nat},(∀i∈π,i<all.length)->(gQ π all).length=π.length/\∀p:Nat,(gQ π all)[p]?=(π[p]?).bind (all[·]?)
 | [],_=>⟨rfl,fun p=>by simp [gQ]⟩
 | i::π,h=>by
  obtain⟨h1,h2⟩:=Al (π:=π) fun j hj=>h j (by simp [hj]);have hlt:=h i (by simp);have hi:all[i]?=some all[i]:=aS hlt;have e:gQ (i::π) all=all[i]::gQ π all:=by simp [gQ,hi]
  rw [e];refine⟨by simp [h1],fun p=>?_⟩;cases p with
  | zero=>simp [hi]
  | succ p=>simp [h2 p]
theorem Ord.get (h:Ord all π):(gQ π all).length=all.length/\∀p:Nat,(gQ π all)[p]?=(π[p]?).bind (all[·]?):=by
 have:=Al (all:=all) (π:=π) fun i hi=>by
  obtain⟨p,hp⟩:=sE.1 hi;exact h.lt hp
 exact⟨by rw [this.1,h.len],this.2⟩
theorem aHk (hok:Dl c all π ks=true)(hc:Chain P c all (gQ π all) ks st ss e):
  Ord all π/\(∀(k:Nat) (o:Oper),all[k]?=some o->∀e∈o.after.toList,Region.binds .any e=true->e.on<k)/\DrawFacts P c all (fun i j=>oK all (π.getD i 0) (π.getD j 0)) (gQ π all) ks st (dl c (gQ π all) ks ss)/\e=(dl c (gQ π all) ks ss).foldl St.upd st:=by
 obtain⟨h1,h2,h3⟩:=Mg hc;unfold Dl at hok;simp only [fF] at hok;obtain⟨⟨⟨⟨g1,g2⟩,g3⟩,g0,g5,g6,g7⟩,g4⟩:=hok;have hord:Ord all π:=by
  rw [eT] at g5 g7;exact Ord.of (by simpa using g0) (fun i hi=>g5 i (fN.2 hi)) g6 fun i hi=>by simpa using g7 i hi
 refine⟨hord,fun k o ho e he hb=>?_,⟨by rw [hord.get.1];simpa using g1,h1,fun i j oi oj ki kj a1 a2 a3 a4 hij hw=>?_,h3⟩,h2⟩
 .rw [eT] at g3;have hm:(o,k)∈all.zipIdx:=sE.2 ⟨k,by simp [ho]⟩;have:=g3 _ hm;rw [eT] at this;have:=this e he;simpa [hb] using this
 rw [eT] at g4;have hmj:(zL c all oj kj,j)∈(fps c all (gQ π all) ks).zipIdx:=sE.2 ⟨j,by simp [Mm a3 a4]⟩;have hmi:(zL c all oi ki,i)∈(fps c all (gQ π all) ks).zipIdx:=sE.2 ⟨i,by simp [Mm a1 a2]⟩;have:=g4 _ hmj;rw [eT] at this;have:=this _ hmi;have e:(!decide (i<j))=false:=by simp [hij]
 rw [e,Ac] at this;have hw':oK all (π.getD i 0) (π.getD j 0)=false:=hw;rw [hw',Ac] at this;exact this
theorem gM {a b:FP} (h:a.apart b=true):(∀t,t∈a.ws->t∉b.ws/\t∉b.rs)/\(∀t,t∈b.ws->t∉a.rs)/\(a.f.wL=true->b.f.rL=false/\b.f.wL=false)/\(b.f.wL=true->a.f.rL=false)/\(a.f.wO=true->b.f.rO=false/\b.f.wO=false)/\(b.f.wO=true->a.f.rO=false\/(a.t=true/\b.a=true)):=by
 unfold FP.apart at h;simp only [fF,eT,pD,Bool.and_eq_false_iff,Bool.or_eq_false_iff] at h;obtain⟨⟨⟨⟨⟨h1,h2⟩,h3⟩,h4⟩,h5⟩,h6⟩:=h;refine⟨fun t ht=>?_,fun t ht=>?_,fun hw=>?_,fun hw=>?_,fun hw=>?_,fun hw=>?_⟩
 .have:=h1 t ht;simpa using this
 .have:=h2 t ht;simpa using this
 .rcases h3 with h | h
  .rw [hw] at h;cases h
  exact h
 .rcases h4 with h | h
  .rw [hw] at h;cases h
  exact h
 .rcases h5 with h | h
  .rw [hw] at h;cases h
  exact h
 rcases h6 with (h | h) | h
 .rw [hw] at h;cases h
 .exact .inl h
 exact .inr (by simpa using h)
section
variable {wt:Nat->Nat->Bool}{ds:List Delta}
def lI(st:St)(ds:List Delta)(n:Nat)(E:Nat->Bool):St:=((List.range n).filter E).foldl (U ds) st
def fV(c:Cfg)(all ops:List Oper)(ks:List DK)(k:Nat):FP:=((fps c all ops ks)[k]?).getD ⟨[], [],⟨false,false,false,false⟩,false,false⟩
theorem DrawFacts.at(h:DrawFacts P c all wt ops ks st ds) {k:Nat} (hk:k<ops.length):∃o kk s,ops[k]?=some o/\ks[k]?=some kk/\fV c all ops ks k=zL c all o kk/\ds[k]?=some (fJ (uB c o.dst o.op kk) (pC kk) s)/\
  (Zq c o.dst o.op kk=true->∃J,s.obj=((ds.take k).foldl St.upd st).obj++J)/\
  (kk.isNd=false->∀st',AgreeD (wR c all o kk) (pC kk) (Aw c o.dst o.op kk) ((ds.take k).foldl St.upd st) st'->Jb P all o st' (· =st'.upd (fJ (uB c o.dst o.op kk) (pC kk) s))):=by
 have ho:ops[k]?=some ops[k]:=aS hk;have hk2:k<ks.length:=by rw [h.len];exact hk
 have hkk:ks[k]?=some ks[k]:=aS hk2;obtain⟨s,h1,h0,h2⟩:=h.step k _ _ ho hkk;exact⟨_,_,s,ho,hkk,by simp [fV,Mm ho hkk],h1,h0,h2⟩
theorem DrawFacts.sep(h:DrawFacts P c all wt ops ks st ds) (hij:i<j)(hj:j<ops.length)(hw:wt i j=false):(fV c all ops ks i).apart (fV c all ops ks j)=true:=by
 obtain⟨oi,ki,_,a1,a2,a3,_⟩:=h.at (show i<ops.length by omega);obtain⟨oj,kj,_,b1,b2,b3,_⟩:=h.at hj;rw [a3,b3];exact h.apart i j oi oj ki kj a1 a2 b1 b2 hij hw
theorem DrawFacts.env(h:DrawFacts P c all wt ops ks st ds)(t k:Nat):((fV c all ops ks k).ws.contains t=false->∀s,(U ds s k).env t=s.env t)/\(∀s s':St,s.env t=s'.env t->(U ds s k).env t=(U ds s' k).env t):=by
 by_cases hk:k<ops.length
 .obtain⟨o,kk,s0,a1,a2,a3,a4,_⟩:=h.at hk;have e:∀s:St,(U ds s k).env t=if t∈uB c o.dst o.op kk then s0.env t else s.env t:=fun s=>by
   simp only [U,List.getD,a4,gU];exact rD _ _ _ _ _
  refine⟨fun hc s=>?_,fun s s' hs=>?_⟩
  .rw [a3] at hc;have:t∉uB c o.dst o.op kk:=by simpa [zL] using hc
   rw [e,aH this]
  rw [e,e,hs]
 have:∀s:St,U ds s k=s:=fun s=>by
  simp only [U,List.getD,gS (show ds.length<=k by rw [h.dlen];omega),vO];rfl
 exact⟨fun _ s=>by rw [this],fun s s' hs=>by rw [this,this];exact hs⟩
theorem DrawFacts.loc(h:DrawFacts P c all wt ops ks st ds)(k:Nat):((fV c all ops ks k).f.wL=false->∀s,(U ds s k).loc=s.loc)/\(∀s s':St,s.loc=s'.loc->(U ds s k).loc=(U ds s' k).loc):=by
 by_cases hk:k<ops.length
 .obtain⟨o,kk,s0,a1,a2,a3,a4,_⟩:=h.at hk;have e:∀s:St,(U ds s k).loc=if(pC kk).wL then s0.loc else s.loc:=fun s=>by
   simp only [U,List.getD,a4,gU,St.upd,fJ];split <;> rfl
  refine⟨fun hc s=>?_,fun s s' hs=>?_⟩
  .rw [a3] at hc;rw [e,aH (by simpa [zL] using hc)]
  rw [e,e,hs]
 have:∀s:St,U ds s k=s:=fun s=>by
  simp only [U,List.getD,gS (show ds.length<=k by rw [h.dlen];omega),vO];rfl
 exact⟨fun _ s=>by rw [this],fun s s' hs=>by rw [this,this];exact hs⟩
theorem DrawFacts.obj(h:DrawFacts P c all wt ops ks st ds)(k:Nat):((fV c all ops ks k).f.wO=false->∀s,(U ds s k).obj=s.obj)/\(∀s s':St,s.obj=s'.obj->(U ds s k).obj=(U ds s' k).obj):=by
 by_cases hk:k<ops.length
 .obtain⟨o,kk,s0,a1,a2,a3,a4,_⟩:=h.at hk;have e:∀s:St,(U ds s k).obj=if(pC kk).wO then s0.obj else s.obj:=fun s=>by
   simp only [U,List.getD,a4,gU,St.upd,fJ];split <;> rfl
  refine⟨fun hc s=>?_,fun s s' hs=>?_⟩
  .rw [a3] at hc;rw [e,aH (by simpa [zL] using hc)]
  rw [e,e,hs]
 have:∀s:St,U ds s k=s:=fun s=>by
  simp only [U,List.getD,gS (show ds.length<=k by rw [h.dlen];omega),vO];rfl
 exact⟨fun _ s=>by rw [this],fun s s' hs=>by rw [this,this];exact hs⟩
def oJ(wt:Nat->Nat->Bool)(E:Nat->Bool):Prop:=∀i j,E j=true->wt i j=true->E i=true
theorem DrawFacts.seen(h:DrawFacts P c all wt ops ks st ds) (hE:oJ wt E) (hj:j<ops.length)(hnj:E j=false)(hready:∀i,wt i j=true->E i=true)(q:Nat->Bool)
  (hq:∀k,k<ops.length->k≠j->q k=true->(k<j->(fV c all ops ks k).apart (fV c all ops ks j)=false)/\(j<k->(fV c all ops ks j).apart (fV c all ops ks k)=false)):
  ∀k,k<ops.length->(E k && q k)=(decide (k<j) && q k):=by
 intro k hk;cases hqk:q k with
 | false=>simp
 | true =>
  simp only [Bool.and_true];by_cases hkj:k=j
  .subst hkj;simp [hnj]
  obtain⟨h1,h2⟩:=hq k hk hkj hqk;by_cases hlt:k<j
  .have:wt k j=true:=by
    cases hw:wt k j with
    | true=>rfl
    | false=>have:=h.sep hlt hj hw;rw [h1 hlt] at this;cases this
   simp [hlt,hready k this]
  have hgt:j<k:=by omega
  have hw:wt j k=true:=by
   cases hw:wt j k with
   | true=>rfl
   | false=>have:=h.sep hgt hk hw;rw [h2 hgt] at this;cases this
  cases hek:E k with
  | false=>simp [hlt]
  | true=>have:=hE j k hek hw;rw [hnj] at this;cases this
theorem kB {a b:FP} (h:¬(a.apart b=true)):a.apart b=false:=by simpa using h
theorem DrawFacts.env_seen(h:DrawFacts P c all wt ops ks st ds) (hE:oJ wt E) (hj:j<ops.length)(hnj:E j=false)(hready:∀i,wt i j=true->E i=true) {t:Nat} (ht:t∈(fV c all ops ks j).rs)(hws:t∈(fV c all ops ks j).ws->t∈(fV c all ops ks j).rs):
  ∀k,k<ops.length->(E k && (fV c all ops ks k).ws.contains t)=(decide (k<j) && (fV c all ops ks k).ws.contains t):=by
 refine h.seen hE hj hnj hready (fun k=>(fV c all ops ks k).ws.contains t) fun k hk hkj hq=>?_;have hm:t∈(fV c all ops ks k).ws:=by simpa using hq
 refine⟨fun _=>kB fun ha=>?_,fun _=>kB fun ha=>?_⟩
 .exact((gM ha).1 t hm).2 ht
 exact(gM ha).2.1 t hm ht
theorem DrawFacts.obj_pre(h:DrawFacts P c all wt ops ks st ds) (hE:oJ wt E) (hj:j<ops.length)(hnj:E j=false)(hready:∀i,wt i j=true->E i=true)(hl:(fV c all ops ks j).f.rO=true):∃J,(lI st ds ops.length E).obj=((ds.take j).foldl St.upd st).obj++J:=by
 have hdl:=h.dlen
 let W:Nat->Bool:=fun k=>(fV c all ops ks k).f.wO
 have fold:∀(L:List Nat),(L.foldl (U ds) st).obj=((L.filter W).foldl (U ds) st).obj:=fun L=>nV ds W (fun k=>(h.obj k).1) (fun k=>(h.obj k).2) L st st rfl
 -- who writes and oK for nobody outside E
 have below:∀m,m<ops.length->(m=j\/(E m=true/\W m=true))->∀k,k<m->W k=true->E k=true:=by
  intro m hm hc k hk hw;rcases hc with rfl | ⟨he,hwm⟩
  .cases hwt:wt k m with
   | true=>exact hready k hwt
   | false=>have:=((gM (h.sep hk hm hwt)).2.2.2.2.1 hw).1;rw [hl] at this;cases this
  cases hwt:wt k m with
  | true=>exact hE k m he hwt
  | false=>have:=((gM (h.sep hk hm hwt)).2.2.2.2.1 hw).2;rw [show(fV c all ops ks m).f.wO=true from hwm] at this;cases this
 have chain:∀m,m<ops.length->(m=j\/(E m=true/\W m=true))->(((List.range m).filter E).foldl (U ds) st).obj=((ds.take m).foldl St.upd st).obj:=by
  intro m hm hc;rw [<- kQ ds st m (by omega),fold,fold (List.range m),gT];congr 2;refine kC fun k hk=>?_;rw [fN] at hk;cases hw:W k with
  | false=>simp
  | true=>simp [below m hm hc k hk hw]
 have go : ∀ n, j + n <= ops.length -> ∃ J, (((List.range (j + n)).filter E).foldl (U ds) st).obj = ((ds.take j).foldl St.upd st).obj ++ J := by
  intro n;induction n with
  | zero=>intro _;exact⟨[],by rw [jI,chain j hj (.inl rfl),iC]⟩
  | succ n ih =>
   intro hn;obtain⟨J,hJ⟩:=ih (by omega);rw [show j+(n+1)=j+n+1 by omega,rP,cT,kI];cases he:E (j+n)with
   | false=>simp only [kE,he,lU,pL];exact⟨J,hJ⟩
   | true =>
    simp only [kE,he,lU,aO,eI,pL];have hne:n≠0:=by rintro rfl;rw [jI,hnj] at he;cases he
    cases hw:W (j+n)with
    | false=>rw [(h.obj (j+n)).1 hw];exact⟨J,hJ⟩
    | true =>
     have hap:(fV c all ops ks j).apart (fV c all ops ks (j+n))=true:=by
      cases hwt:wt j (j+n)with
      | true=>have:=hE j (j+n) he hwt;rw [hnj] at this;cases this
      | false=>exact h.sep (by omega) (by omega) hwt
     have ha:(fV c all ops ks (j+n)).a=true:=by
      rcases(gM hap).2.2.2.2.2 hw with e | e
      .rw [hl] at e;cases e
      exact e.2
     obtain⟨o,kk,s0,a1,a2,a3,a4,a0,_⟩:=h.at (show j+n<ops.length by omega);rw [a3] at ha;obtain⟨J',hJ'⟩:=a0 ha;have hwk:(pC kk).wO=true:=by have:=hw;simp only [W,a3,zL] at this;exact this
     have e:∀s:St,(U ds s (j+n)).obj=s0.obj:=fun s=>by
      simp only [U,List.getD,a4,gU,St.upd,fJ,hwk,aO]
     rw [e,hJ',<- chain (j+n) (by omega) (.inr ⟨he,hw⟩),hJ];exact⟨J++J',by rw [bU]⟩
 obtain⟨J,hJ⟩:=go (ops.length - j) (by omega);rw [show j+(ops.length - j)=ops.length by omega] at hJ;exact⟨J,hJ⟩
theorem DrawFacts.agree(h:DrawFacts P c all wt ops ks st ds) (hE:oJ wt E) (hj:j<ops.length)(hnj:E j=false)(hready:∀i,wt i j=true->E i=true):AgreeD (fV c all ops ks j).rs (fV c all ops ks j).f (fV c all ops ks j).t ((ds.take j).foldl St.upd st) (lI st ds ops.length E):=by
 have hdl:=h.dlen;refine⟨?_,fun t ht=>?_,fun hl=>?_,fun hl=>?_⟩
 .rw [<- kQ ds st j (by omega)];unfold lI;rw [Bq,Bq]
 .rw [<- kQ ds st j (by omega)];unfold lI;rw [pX ds (fun k=>(fV c all ops ks k).ws.contains t) t (fun k=>(h.env t k).1) (fun k=>(h.env t k).2) ((List.range ops.length).filter E) st st rfl,
   pX ds (fun k=>(fV c all ops ks k).ws.contains t) t (fun k=>(h.env t k).1) (fun k=>(h.env t k).2) (List.range j) st st rfl,gT]
  rw [oR ops.length j (by omega) _ (fun k=>(fV c all ops ks k).ws.contains t)];intro k hk;rw [pP];exact h.env_seen hE hj hnj hready ht (fun _=>ht) k hk
 .rw [<- kQ ds st j (by omega)];unfold lI;rw [qB ds (fun k=>(fV c all ops ks k).f.wL) (fun k=>(h.loc k).1) (fun k=>(h.loc k).2) ((List.range ops.length).filter E) st st rfl,
   qB ds (fun k=>(fV c all ops ks k).f.wL) (fun k=>(h.loc k).1) (fun k=>(h.loc k).2) (List.range j) st st rfl,gT]
  rw [oR ops.length j (by omega) _ (fun k=>(fV c all ops ks k).f.wL)];intro k hk;rw [pP];refine h.seen hE hj hnj hready (fun k=>(fV c all ops ks k).f.wL) (fun k hk hkj hq=>⟨fun _=>kB fun ha=>?_,fun _=>kB fun ha=>?_⟩) k hk
  .have:=((gM ha).2.2.1 hq).1;rw [hl] at this;cases this
  have:=(gM ha).2.2.2.1 hq;rw [hl] at this;cases this
 refine⟨fun ht=>?_,h.obj_pre hE hj hnj hready hl⟩;rw [<- kQ ds st j (by omega)];unfold lI;rw [nV ds (fun k=>(fV c all ops ks k).f.wO) (fun k=>(h.obj k).1) (fun k=>(h.obj k).2) ((List.range ops.length).filter E) st st rfl,
  nV ds (fun k=>(fV c all ops ks k).f.wO) (fun k=>(h.obj k).1) (fun k=>(h.obj k).2) (List.range j) st st rfl,gT]
 rw [oR ops.length j (by omega) _ (fun k=>(fV c all ops ks k).f.wO)];intro k hk;rw [pP];refine h.seen hE hj hnj hready (fun k=>(fV c all ops ks k).f.wO) (fun k hk hkj hq=>⟨fun _=>kB fun ha=>?_,fun _=>kB fun ha=>?_⟩) k hk
 .have:=((gM ha).2.2.2.2.1 hq).1;rw [hl] at this;cases this
 rcases(gM ha).2.2.2.2.2 hq with this | ⟨this,_⟩
 .rw [hl] at this;cases this
 rw [ht] at this;cases this
theorem DrawFacts.next(h:DrawFacts P c all wt ops ks st ds) (hE:oJ wt E) (hj:j<ops.length)(hnj:E j=false)(hready:∀i,wt i j=true->E i=true):
  lI st ds ops.length (fun k=>E k || decide (k=j))=U ds (lI st ds ops.length E) j:=by
 obtain⟨o,kk,s0,a1,a2,a3,a4,_,a5⟩:=h.at hj;have hwsrs:∀t,t∈(fV c all ops ks j).ws->t∈(fV c all ops ks j).rs:=fun t ht=>by
  rw [a3] at ht |-;simp only [zL,wR] at ht |-;simp [ht]
 have eU:∀s:St,U ds s j=s.upd (fJ (uB c o.dst o.op kk) (pC kk) s0):=fun s=>by simp only [U,List.getD,a4,gU]
 refine St.ext' ?_ (fun t=>?_) ?_ ?_
 .rw [eU];unfold lI;rw [Bq];show _=((List.range ops.length).filter E |>.foldl (U ds) st).n;rw [Bq]
 .by_cases ht:t∈(fV c all ops ks j).ws
  .have lhs:(lI st ds ops.length (fun k=>E k || decide (k=j))).env t=s0.env t:=by
    unfold lI;rw [pX ds (fun k=>(fV c all ops ks k).ws.contains t) t (fun k=>(h.env t k).1) (fun k=>(h.env t k).2) _ st st rfl,gT];rw [mF ops.length j hj _ (fun k=>(fV c all ops ks k).ws.contains t)]
    .rw [kI,eI,pL,eU,rD];rw [a3] at ht;exact aR ht
    intro k hk;have hs:=h.env_seen hE hj hnj hready (hwsrs t ht) (hwsrs t) k hk;by_cases hkj:k=j
    .subst hkj;simp [ht]
    simp only [hkj,pF,wB];rw [pP];exact hs
   rw [lhs,eU,rD];rw [a3] at ht;exact(aR ht).symm
  have hc:(fV c all ops ks j).ws.contains t=false:=by simpa using ht
  rw [(h.env t j).1 hc];unfold lI;rw [pX ds (fun k=>(fV c all ops ks k).ws.contains t) t (fun k=>(h.env t k).1) (fun k=>(h.env t k).2) ((List.range ops.length).filter E) st st rfl,
   pX ds (fun k=>(fV c all ops ks k).ws.contains t) t (fun k=>(h.env t k).1) (fun k=>(h.env t k).2) _ st st rfl,gT,gT]
  congr 2;refine kC fun k _=>?_;by_cases hkj:k=j
  .subst hkj;simp [ht]
  simp [hkj]
 .cases hl:(fV c all ops ks j).f.wL with
  | true =>
   have lhs:(lI st ds ops.length (fun k=>E k || decide (k=j))).loc=(U ds ((List.range j).filter (fun k=>(fV c all ops ks k).f.wL) |>.foldl (U ds) st) j).loc:=by
    unfold lI;rw [qB ds (fun k=>(fV c all ops ks k).f.wL) (fun k=>(h.loc k).1) (fun k=>(h.loc k).2) _ st st rfl,gT];rw [mF ops.length j hj _ (fun k=>(fV c all ops ks k).f.wL)]
    .rw [kI,eI,pL]
    intro k hk;by_cases hkj:k=j
    .subst hkj;simp [hl]
    simp only [hkj,pF,wB];rw [pP];refine h.seen hE hj hnj hready (fun k=>(fV c all ops ks k).f.wL) (fun k hk hkj hq=>⟨fun _=>kB fun ha=>?_,fun _=>kB fun ha=>?_⟩) k hk
    .have:=((gM ha).2.2.1 hq).2;rw [hl] at this;cases this
    have:=((gM ha).2.2.1 hl).2;rw [hq] at this;cases this
   rw [lhs,eU,eU];rw [a3] at hl;simp only [zL] at hl;simp [St.upd,fJ,hl]
  | false =>
   rw [(h.loc j).1 hl];unfold lI;rw [qB ds (fun k=>(fV c all ops ks k).f.wL) (fun k=>(h.loc k).1) (fun k=>(h.loc k).2) ((List.range ops.length).filter E) st st rfl,
    qB ds (fun k=>(fV c all ops ks k).f.wL) (fun k=>(h.loc k).1) (fun k=>(h.loc k).2) _ st st rfl,gT,gT]
   congr 2;refine kC fun k _=>?_;by_cases hkj:k=j
   .subst hkj;simp [hl]
   simp [hkj]
 cases hl:(fV c all ops ks j).f.wO with
 | true =>
  have lhs:(lI st ds ops.length (fun k=>E k || decide (k=j))).obj=(U ds ((List.range j).filter (fun k=>(fV c all ops ks k).f.wO) |>.foldl (U ds) st) j).obj:=by
   unfold lI;rw [nV ds (fun k=>(fV c all ops ks k).f.wO) (fun k=>(h.obj k).1) (fun k=>(h.obj k).2) _ st st rfl,gT];rw [mF ops.length j hj _ (fun k=>(fV c all ops ks k).f.wO)]
   .rw [kI,eI,pL]
   intro k hk;by_cases hkj:k=j
   .subst hkj;simp [hl]
   simp only [hkj,pF,wB];rw [pP];refine h.seen hE hj hnj hready (fun k=>(fV c all ops ks k).f.wO) (fun k hk hkj hq=>⟨fun _=>kB fun ha=>?_,fun _=>kB fun ha=>?_⟩) k hk
   .have:=((gM ha).2.2.2.2.1 hq).2;rw [hl] at this;cases this
   have:=((gM ha).2.2.2.2.1 hl).2;rw [hq] at this;cases this
  rw [lhs,eU,eU];rw [a3] at hl;simp only [zL] at hl;simp [St.upd,fJ,hl]
 | false =>
  rw [(h.obj j).1 hl];unfold lI;rw [nV ds (fun k=>(fV c all ops ks k).f.wO) (fun k=>(h.obj k).1) (fun k=>(h.obj k).2) ((List.range ops.length).filter E) st st rfl,
   nV ds (fun k=>(fV c all ops ks k).f.wO) (fun k=>(h.obj k).1) (fun k=>(h.obj k).2) _ st st rfl,gT,gT]
  congr 2;refine kC fun k _=>?_;by_cases hkj:k=j
  .subst hkj;simp [hl]
  simp [hkj]
theorem wD :i∈Region.ready .any ops.toArray listed↔∃o,ops[i]?=some o/\listed.getD i true=false/\∀e∈o.after.toList,Region.binds .any e=true->listed.getD e.on false=true:=by
 unfold Region.ready;simp only [iP,fN,eX,fF,pD,eZ];constructor
 .rintro⟨h1,h2,h3⟩;rw [aS h1] at h3;simp only [fA,gU] at h3;refine⟨_,aS h1,h2,fun e he hb=>?_⟩;rw [Array.all_eq_true'] at h3;have:=h3 e (by simpa using he);simpa [hb] using this
 rintro⟨o,h1,h2,h3⟩;refine⟨(aJ.1 h1).1,h2,?_⟩;rw [h1];simp only [fA,gU];rw [Array.all_eq_true'];intro e he;cases hb:Region.binds .any e with
 | false=>simp
 | true=>simp [h3 e (by simpa using he) hb]
def EP(π:List Nat)(listed:Array Bool)(p:Nat):Bool:=listed.getD (π.getD p 0) false
abbrev wtO(all:List Oper)(π:List Nat)(i j:Nat):Bool:=oK all (π.getD i 0) (π.getD j 0)
theorem Om (hE:oJ (oK all) (fun k=>listed.getD k false)):oJ (wtO all π) (EP π listed):=fun i j h1 h2=>hE _ _ h1 h2
theorem Li (hE:oJ (oK all) (fun k=>listed.getD k false)) (ho:all[j]?=some o)(hr:∀e∈o.after.toList,Region.binds .any e=true->listed.getD e.on false=true):∀i,oK all i j=true->listed.getD i false=true:=by
 intro i hw;obtain⟨e,he,hb,h1⟩:=Tt ho hw;rcases h1 with rfl | ⟨_,h1⟩
 .exact hr e he hb
 exact hE i e.on (hr e he hb) h1
theorem Tc {E':Nat->Bool} (h:∀k,k<n->E k=E' k):lI st ds n E=lI st ds n E':=by
 unfold lI;rw [kC fun k hk=>h k (fN.1 hk)]
theorem wW (hsz:listed.size=n)(hlt:i<n)(k:Nat):(listed.setIfInBounds i true).getD k false=(listed.getD k false || decide (k=i)):=by
 simp only [gW,vL];by_cases hk:i=k
 .subst hk;simp [hsz,hlt]
 have:¬k=i:=fun e=>hk e.symm;simp [hk,this]
theorem Su (hsz:listed.size=all.length)(hlt:i<all.length)(hE:oJ (oK all) (fun k=>listed.getD k false))(hrd:∀j,oK all j i=true->listed.getD j false=true):oJ (oK all) (fun k=>(listed.setIfInBounds i true).getD k false):=by
 intro a b hb hw;simp only [wW hsz hlt,wC,iS] at hb |-;rcases hb with hb | rfl
 .exact .inl (hE a b hb hw)
 exact .inl (hrd a hw)
theorem Zm {fuel:Nat} (hsz:listed.size=n)(hlt:i<n)(hni:listed.getD i false=false)(hc:((List.range n).filter fun k=> !listed.getD k false).length=fuel+1):((List.range n).filter fun k=> !(listed.setIfInBounds i true).getD k false).length=fuel:=by
 have e1:((List.range n).filter fun k=> !(listed.setIfInBounds i true).getD k false)=((List.range n).filter fun k=> !listed.getD k false).filter (fun k=>decide (k≠i)):=by
  rw [gT];refine kC fun k _=>?_;rw [wW hsz hlt];cases listed.getD k false <;> simp
 rw [e1];have hnd:((List.range n).filter fun k=> !listed.getD k false).Nodup:=Ak _ List.nodup_range;have hmem:i∈((List.range n).filter fun k=> !listed.getD k false):=by
  rw [iP,fN];exact⟨hlt,by simp [hni]⟩
 have:((List.range n).filter fun k=> !listed.getD k false).filter (fun k=>decide (k≠i))=((List.range n).filter fun k=> !listed.getD k false).erase i:=by
  rw [List.Nodup.erase_eq_filter hnd];refine kC fun k _=>?_;simp [bne];cases hk:decide (k=i) <;> simp_all
 rw [this,List.length_erase_of_mem hmem,hc];rfl
theorem Ua (hedge:∀(k:Nat) (o:Oper),all[k]?=some o->∀e∈o.after.toList,Region.binds .any e=true->e.on<k)(hsz:listed.size=all.length)(hne:((List.range all.length).filter fun k=> !listed.getD k false)≠ []):∃i,i∈Region.ready .any all.toArray listed:=by
 obtain⟨k,hk⟩:=List.exists_mem_of_ne_nil _ hne;have least:∀m k,k<=m->k∈((List.range all.length).filter fun k=> !listed.getD k false)->∃i,i∈Region.ready .any all.toArray listed:=by
  intro m;induction m with
  | zero=>
   intro k hkm hk;have hk0:k=0:=by omega
   subst hk0;rw [iP,fN] at hk;have ho:=aS hk.1;refine⟨0,wD.2 ⟨_,ho,?_,fun e he hb=>?_⟩⟩
   .have hs:listed[0]?=some listed[0]:=aZ (by omega);have:=hk.2;simp [gW,hs] at this |-;exact this
   have:=hedge 0 _ ho e he hb;omega
  | succ m ihm =>
   intro k hkm hk;rw [iP,fN] at hk;have ho:=aS hk.1;by_cases hall:∀e∈all[k].after.toList,Region.binds .any e=true->listed.getD e.on false=true
   .refine⟨k,wD.2 ⟨_,ho,?_,hall⟩⟩;have hs:listed[k]?=some listed[k]:=aZ (by omega);have:=hk.2;simp [gW,hs] at this |-;exact this
   have:∃e,e∈all[k].after.toList/\Region.binds .any e=true/\listed.getD e.on false≠true:=by
    refine Hk fun hno=>hall fun e he hb=>Hk fun hn=>hno ⟨e,he,hb,hn⟩
   obtain⟨e,he,hb,hl⟩:=this;have hlt:=hedge k _ ho e he hb;refine ihm e.on (by omega) ?_;rw [iP,fN];exact⟨by omega,by simpa using hl⟩
 exact least k k (bG _) hk
theorem aMw(l:List Delta)(s:St):(l.foldl St.upd s).n=s.n:=by
 induction l generalizing s with
 | nil=>rfl
 | cons d l ih=>rw [eI,ih];rfl
theorem aFn(n:Nat)(E:Nat->Bool):(lI st ds n E).n=st.n:=by unfold lI;rw [Bq]
theorem aD5 {fuel:Nat} {w0 w:World} {g0 g:Gh} {tmps:Array Value} {S:St} {K:St->Prop} (h1:all[i]?=some o)(hf:FrM dfs w0 g0 w g)(hok:Ok w g S (cC tmps))(hn:tmps.size=S.n)(hgo:Jb P all o S K)
  (hnext:∀(w':World) (g':Gh) (tmps':Array Value) (S':St),K S'->FrM dfs w0 g0 w' g'->Ok w' g' S' (cC tmps')->tmps'.size=S'.n->wpAnyIn (fR ro) 0 P .any all.toArray (Gv dfs w0 g0 Q) fuel (listed.setIfInBounds i true) ⟨tmps',dfs⟩ w'):
  wpOpIn (fR ro) 0 P all.toArray (Gv dfs w0 g0 Q) i (wpAnyIn (fR ro) 0 P .any all.toArray (Gv dfs w0 g0 Q) fuel (listed.setIfInBounds i true)) ⟨tmps,dfs⟩ w:=by
 have hgo:=hgo w g tmps hok hn;unfold wpOpIn;simp only [eZ,h1];split
 .rename_i hw;refine Oper.wpIn_mono (fun a w'=>?_) (aMn (K:=fun tmps' w'=>∃st' g',K st'/\Fr w g w' g'/\Ok w' g' st' (cC tmps')/\tmps'.size=st'.n) dfs (hgo.1 hw));rintro⟨hdf,st',g',hk,hf',hok',hn'⟩;obtain⟨tmps',dfs'⟩:=a;simp only at hdf;rw [hdf];exact hnext w' g' tmps' st' hk (hf.trans hf') hok' hn'
 rename_i hw;obtain⟨st',g',hk,hf',hok',hn'⟩:=hgo.2 (by simpa using hw);refine⟨fun _ _=>trivial,?_⟩;have hds:=qD ⟨tmps,dfs⟩ o.dst undef;have hsz2:=tZ ⟨tmps,dfs⟩ o.dst undef;have hok2:Ok w g' st' (cC ((⟨tmps,dfs⟩:Act).put o.dst undef).tmps):=by
  have:((⟨tmps,dfs⟩:Act).put o.dst undef).tmps=((⟨tmps, []⟩:Act).put o.dst undef).tmps:=by cases o.dst <;> rfl
  rw [this];exact hok'
 generalize hA:(⟨tmps,dfs⟩:Act).put o.dst undef=A at *;obtain⟨tmps',dfs'⟩:=A;simp only at hds hsz2 hok2;rw [hds];exact hnext w g' tmps' st' hk (hf.trans hf') hok2 (by rw [hsz2];exact hn')
section
theorem Ord.place(ho:Ord all π) (h1:all[i]?=some o):∃p:Nat,p<(gQ π all).length/\π[p]?=some i/\π.getD p 0=i/\(gQ π all)[p]?=some o/\∀q,q<(gQ π all).length->(π.getD q 0=i↔q=p):=by
 have hlt:=(aJ.1 h1).1;obtain⟨p,p1,p2⟩:=ho.all_ i hlt;have hpl:∀q,q<(gQ π all).length->∃y,π[q]?=some y:=fun q hq=>⟨_,aS (by rw [ho.len];rw [ho.get.1] at hq;exact hq)⟩;refine⟨p,by rw [ho.get.1];exact p1,p2,by simp [List.getD,p2],by rw [ho.get.2,p2];exact h1,fun q hq=>⟨fun e=>?_,fun e=>by rw [e];simp [List.getD,p2]⟩⟩;obtain⟨y,hy⟩:=hpl q hq;have e':y=i:=by simpa [List.getD,hy] using e
 subst e';exact(List.getElem?_inj (by rw [ho.len];rw [ho.get.1] at hq;exact hq) ho.nodup).1 (hy.trans p2.symm)
theorem aEn(ho:Ord all π) (hsz:listed.size=all.length) {p:Nat} (hlt:i<all.length)(hp:∀q,q<(gQ π all).length->(π.getD q 0=i↔q=p))(q:Nat)(hq:q<(gQ π all).length):EP π (listed.setIfInBounds i true) q=(EP π listed q || decide (q=p)):=by
 unfold EP;rw [wW hsz hlt];congr 1;have:=hp q hq;by_cases h:q=p
 .simp [h,this.2 h] at this |-;exact this
 have:¬π.getD q 0=i:=fun e=>h (this.1 e);rw [zX this,zX h]
theorem aC6 (hord:Ord all π)(hedge:∀(k:Nat) (o:Oper),all[k]?=some o->∀e∈o.after.toList,Region.binds .any e=true->e.on<k)(h:DrawFacts P c all (wtO all π) (gQ π all) ks st ds) {w0:World} {g0:Gh} (hQ:Q .normal (ds.foldl St.upd st)):∀(fuel:Nat) (listed:Array Bool) (w:World) (g:Gh) (tmps:Array Value),listed.size=all.length->oJ (oK all) (fun k=>listed.getD k false)->
  (∀(p:Nat) (k:DK),ks[p]?=some k->k.isNd=true->EP π listed p=true)->((List.range all.length).filter fun k=> !listed.getD k false).length=fuel->FrM dfs w0 g0 w g->Ok w g (lI st ds (gQ π all).length (EP π listed)) (cC tmps)->tmps.size=st.n->wpAnyIn (fR ro) 0 P .any all.toArray (Gv dfs w0 g0 Q) fuel listed ⟨tmps,dfs⟩ w:=by
 have ends:∀(listed:Array Bool) (w:World) (g:Gh) (tmps:Array Value),listed.size=all.length->((List.range all.length).filter fun k=> !listed.getD k false)= []->FrM dfs w0 g0 w g->Ok w g (lI st ds (gQ π all).length (EP π listed)) (cC tmps)->tmps.size=st.n->Gv dfs w0 g0 Q .normal ⟨tmps,dfs⟩ w:=by
  intro listed w g tmps hsz hnil hf hok hn;have e:lI st ds (gQ π all).length (EP π listed)=ds.foldl St.upd st:=by
   unfold lI;have:(List.range (gQ π all).length).filter (EP π listed)=List.range (gQ π all).length:=by
    rw [oX];intro k hk;rw [fN,hord.get.1] at hk;rw [pB] at hnil;have hkp:k<π.length:=by rw [hord.len];exact hk
    have hy:π[k]?=some π[k]:=aS hkp;have:=hnil π[k] (fN.2 (hord.lt hy));unfold EP;simp only [List.getD,hy,gU];simpa using this
   rw [this,kQ ds st _ (by rw [h.dlen];exact bG _),<- h.dlen,dY]
  rw [e] at hok;exact⟨fun _=>rfl,_,g,hQ,hf,hok,by rw [aMw];exact hn⟩
 intro fuel;induction fuel with
 | zero=>
  intro listed w g tmps hsz hE hnds hc hf hok hn;have hnil:=lE hc;refine⟨?_,ends listed w g tmps hsz hnil hf hok hn⟩;rw [List.eq_nil_iff_forall_not_mem];intro i hi;rw [wD] at hi;obtain⟨o,h1,h2,h3⟩:=hi;have hlt:=(aJ.1 h1).1;rw [pB] at hnil;have:=hnil i (by simpa using hlt);have hs:listed[i]?=some listed[i]:=aZ (by omega);simp [gW,hs] at this h2;rw [this] at h2;cases h2
 | succ fuel ih =>
  intro listed w g tmps hsz hE hnds hc hf hok hn;refine⟨fun hnil=>?_,fun i hi=>?_⟩
  .exfalso;have hne:((List.range all.length).filter fun k=> !listed.getD k false)≠ []:=by intro e;rw [e] at hc;simp at hc
   obtain⟨i,hi⟩:=Ua hedge hsz hne;rw [hnil] at hi;cases hi
  rw [wD] at hi;obtain⟨o,h1,h2,h3⟩:=hi;have hlt:=(aJ.1 h1).1;have hs:listed[i]?=some listed[i]:=aZ (by omega);have hni:listed.getD i false=false:=by simp [gW,hs] at h2 |-;exact h2
  have hrd:=Li hE h1 h3;obtain⟨p,p1,p2,p3,p4,p5⟩:=hord.place h1;have hnp:EP π listed p=false:=by unfold EP;rw [p3];exact hni
  have hrp:∀q,wtO all π q p=true->EP π listed q=true:=fun q hq=>hrd _ (by rw [<- p3];exact hq);obtain⟨o',kk,s0,a1,a2,a3,a4,_,a5⟩:=h.at p1;rw [p4] at a1;simp at a1;subst a1;have hkn:kk.isNd=false:=by
   cases hk:kk.isNd with
   | false=>rfl
   | true=>have:=hnds p kk a2 hk;rw [hnp] at this;cases this
  have hag:=h.agree (Om hE) p1 hnp hrp;rw [a3] at hag;have hnext:=h.next (Om hE) p1 hnp hrp;refine aD5 h1 hf hok (by rw [hn,aFn]) (a5 hkn _ hag) ?_;rintro w' g' tmps' S' rfl hf' hok' hn';have hUd:U ds (lI st ds (gQ π all).length (EP π listed)) p=(lI st ds (gQ π all).length (EP π listed)).upd (fJ (uB c o.dst o.op kk) (pC kk) s0):=by
   simp only [U,List.getD,a4,gU]
  have hst:(lI st ds (gQ π all).length (EP π listed)).upd (fJ (uB c o.dst o.op kk) (pC kk) s0)=lI st ds (gQ π all).length (EP π (listed.setIfInBounds i true)):=by
   rw [<- hUd,<- hnext];exact Tc fun q hq=>(aEn hord hsz hlt p5 q hq).symm
  rw [hst] at hok' hn';refine ih _ w' g' tmps' (by rw [Array.size_setIfInBounds];exact hsz) (Su hsz hlt hE hrd) (fun q k hk hkn=>?_) (Zm hsz hlt hni hc) hf' hok' (by rw [hn',aFn]);have hq:q<(gQ π all).length:=by rw [<- h.len];exact(aJ.1 hk).1
  rw [aEn hord hsz hlt p5 q hq,hnds q k hk hkn];rfl
end
theorem aHo(ops:List Oper):gQ (List.range ops.length) ops=ops:=by
 refine mV fun p=>?_;have:=(Al (all:=ops) (π:=List.range ops.length) fun i hi=>fN.1 hi).2 p;rw [this];by_cases hp:p<ops.length
 .rw [oZ hp];rfl
 rw [gS (by simpa using hp),gS (by omega)];rfl
theorem aGm(n:Nat)(π:List Nat):EP π (Array.replicate n false)=fun _=>false:=by
 funext k;unfold EP;simp only [gW,Bk];split <;> rfl
theorem Xf(st:St)(ds:List Delta)(n:Nat):lI st ds n (fun _=>false)=st:=by
 unfold lI;rw [pB.2 (fun k _=>by simp)];rfl
theorem Jy(n:Nat):oJ (oK all) (fun k=>(Array.replicate n false).getD k false):=by
 intro i j hj;simp only [gW,Bk] at hj;split at hj <;> cases hj
theorem Mv(n:Nat):((List.range n).filter fun k=> !(Array.replicate n false).getD k false).length=n:=by
 rw [oX.2 (fun k _=>?_),List.length_range];simp only [gW,Bk];split <;> rfl
theorem aCz {id:Nat} (ks:List DK) (hm:P.follows .mixedOrders=true)(hok:Ev c ops ks=true)(h:∀K:St->Prop,(∀s,Q .normal s->K s)->iJ P c ops ops ks st K):dQ ro dfs P (.region id ops.toArray true) Q st:=by
 intro w0 g0 w g tmps hf hokk hn;unfold Ev at hok;simp only [fF] at hok;obtain⟨hok,hnd⟩:=hok;rw [eT] at hnd;have hwf:∀k∈ks,aG3 (pC k)=true/\k.isNd=false:=by
  have h2:=hok;unfold Dl at h2;simp only [fF,eT] at h2;exact fun k hk=>⟨h2.1.1.1.2 k hk,by simpa using hnd k hk⟩
 obtain⟨ss,e,hc,hQ⟩:=Ov ops ks st (Q .normal) hwf (h _ fun _ h=>h);have hc':Chain P c ops (gQ (List.range ops.length) ops) ks st ss e:=by rw [aHo];exact hc
 obtain⟨hord,hedge,hfacts,he⟩:=aHk hok hc';subst he;refine wpIn_region_any hm ?_;refine aC6 hord hedge hfacts hQ ops.toArray.size _ w.drew g tmps (by simp) ?_ (fun p k hk hkn=>?_) ?_ (hf.trans (Fr.drew w g)) ?_ hn
 .rw [eX];exact Jy _
 .have:=(hwf k (aW hk)).2;rw [hkn] at this;cases this
 .rw [eX,Mv]
 rw [eX,aGm,Xf];exact hokk.drew
end
end
end Go.Vm
