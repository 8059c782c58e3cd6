import Derived.Test.YtbdjepeabjangaaGreatVm20
set_option linter.all false
namespace Go.Vm
open Go
variable {E:Nat->Bool}{Q:Exit->St->Prop}{all ops r:List Oper}{c:Cfg}{dfs:List Deferred}{e st:St}{i j n:Nat}{ks:List DK}{listed:Array Bool}{o:Oper}{ro:Option Nat}{ss:List St}{π:List Nat}
section
variable {P:Program}
theorem St.ext' {a b:St} (h1:a.n=b.n)(h2:∀t,a.env t=b.env t)(h3:a.loc=b.loc)(h4:a.obj=b.obj):a=b:=by
 cases a;cases b;simp only at h1 h3 h4;subst h1;subst h3;subst h4;congr 1;exact funext h2
def U(ds:List Delta)(s:St)(k:Nat):St:=s.upd (ds.getD k ⟨[],none,none⟩)
def dl(c:Cfg):List Oper->List DK->List St->List Delta
 | o::r,k::ks,s::ss=>eX (rY c o.dst o.op k) (nV k) s::dl c r ks ss
 | _,_,_=> []
theorem Chain.len (h:Chain P c all r ks st ss e):ss.length=r.length:=by
 induction h with
 | nil ks st=>rfl
 | cons o r k ks st s ss e h hr ih=>simp [ih]
theorem Hr (h:Chain P c all r ks st ss e):(dl c r ks ss).length=r.length/\e=(dl c r ks ss).foldl St.upd st/\
  ∀(k:Nat) (o:Oper) (kk:DK),r[k]?=some o->ks[k]?=some kk->∃s,(dl c r ks ss)[k]?=some (eX (rY c o.dst o.op kk) (nV kk) s)/\
   (Up c o.dst o.op kk=true->∃J,s.obj=(((dl c r ks ss).take k).foldl St.upd st).obj++J)/\
   (kk.isNd=false->∀st',AgreeD (uG c all o kk) (nV kk) (xP c o.dst o.op kk) (((dl c r ks ss).take k).foldl St.upd st) st'->Fp P all o st' (· =st'.upd (eX (rY c o.dst o.op kk) (nV kk) s))):=by
 induction h with
 | nil ks st=>exact⟨by simp [dl],by simp [dl],fun k o kk h=>by simp at h⟩
 | cons o r k ks st s ss e h hr ih =>
  obtain⟨h1,h2,h3⟩:=ih;refine⟨by simp [dl,h1],?_,fun i o' kk a1 a2=>?_⟩
  .simp only [dl,eG,<- h.self];exact h2
  match i with
  | 0=>
   simp at a1 a2;subst a1;subst a2;exact⟨s,by simp [dl],fun e=>by simpa using h.app e,fun hn st' ha=>h.go hn st' (by simpa using ha)⟩
  | i+1=>
   obtain⟨s',b1,b0,b2⟩:=h3 i o' kk (by simpa using a1) (by simpa using a2);refine⟨s',by simpa [dl] using b1,fun e=>by simpa [dl,<- h.self] using b0 e,fun hn st' ha=>b2 hn st' ?_⟩;simp only [dl,tD,eG,<- h.self] at ha;exact ha
theorem jL(ds:List Delta)(st:St):∀k,k<=ds.length->(List.range k).foldl (U ds) st=(ds.take k).foldl St.upd st
 | 0,_=>by simp
 | k+1,h=>by
  rw [tM,jD,jL ds st k (by omega),Ee (by omega),jD];simp only [eG,nU,U];congr 1;simp [List.getD,aN (show k<ds.length by omega)]
theorem oS(ds:List Delta)(p:Nat->Bool)(t:Nat)(hp:∀k,p k=false->∀s,(U ds s k).env t=s.env t)(hq:∀k,∀s s':St,s.env t=s'.env t->(U ds s k).env t=(U ds s' k).env t):∀(L:List Nat) (s s':St),s.env t=s'.env t->(L.foldl (U ds) s).env t=((L.filter p).foldl (U ds) s').env t
 | [],s,s',h=>h
 | k::L,s,s',h=>by
  simp only [eG,nQ];cases hk:p k with
  | true=>simp only [aJ,eG];exact oS ds p t hp hq L _ _ (hq k s s' h)
  | false=>simp only [fL,aZ];exact oS ds p t hp hq L _ _ (by rw [hp k hk];exact h)
theorem oQ(ds:List Delta)(p:Nat->Bool)(hp:∀k,p k=false->∀s,(U ds s k).loc=s.loc)(hq:∀k,∀s s':St,s.loc=s'.loc->(U ds s k).loc=(U ds s' k).loc):∀(L:List Nat) (s s':St),s.loc=s'.loc->(L.foldl (U ds) s).loc=((L.filter p).foldl (U ds) s').loc
 | [],s,s',h=>h
 | k::L,s,s',h=>by
  simp only [eG,nQ];cases hk:p k with
  | true=>simp only [aJ,eG];exact oQ ds p hp hq L _ _ (hq k s s' h)
  | false=>simp only [fL,aZ];exact oQ ds p hp hq L _ _ (by rw [hp k hk];exact h)
theorem mF(ds:List Delta)(p:Nat->Bool)(hp:∀k,p k=false->∀s,(U ds s k).obj=s.obj)(hq:∀k,∀s s':St,s.obj=s'.obj->(U ds s k).obj=(U ds s' k).obj):∀(L:List Nat) (s s':St),s.obj=s'.obj->(L.foldl (U ds) s).obj=((L.filter p).foldl (U ds) s').obj
 | [],s,s',h=>h
 | k::L,s,s',h=>by
  simp only [eG,nQ];cases hk:p k with
  | true=>simp only [aJ,eG];exact mF ds p hp hq L _ _ (hq k s s' h)
  | false=>simp only [fL,aZ];exact mF ds p hp hq L _ _ (by rw [hp k hk];exact h)
theorem yP(ds:List Delta):∀(L:List Nat) (s:St),(L.foldl (U ds) s).n=s.n
 | [],_=>rfl
 | k::L,s=>by rw [eG,yP ds L];rfl
theorem nC(n j:Nat)(hj:j<=n)(p q:Nat->Bool)(h:∀k,k<n->p k=(decide (k<j) && q k)):(List.range n).filter p=(List.range j).filter q:=by
 have e:List.range n=List.range j++(List.range (n - j)).map (j+ ·):=by
  rw [<- List.range_add];congr 1;omega
 rw [e,eW];have h1:(List.range j).filter p=(List.range j).filter q:=kE fun k hk=>by
  rw [fO] at hk;rw [h k (by omega)];simp [hk]
 have h2:((List.range (n - j)).map (j+ ·)).filter p= []:=by
  rw [sV];intro k hk;obtain⟨i,hi,rfl⟩:=bY.1 hk;rw [fO] at hi;rw [h _ (by omega)];have:¬(j+i<j):=by omega
  simp [this]
 rw [h1,h2,iK]
theorem lH(n j:Nat)(hj:j<n)(p q:Nat->Bool)(h:∀k,k<n->p k=((decide (k<j) && q k) || decide (k=j))):(List.range n).filter p=(List.range j).filter q++ [j]:=by
 have:(List.range n).filter p=(List.range (j+1)).filter p:=nC n (j+1) hj p p fun k hk=>by
  rw [h k hk];by_cases h1:k<j
  .simp [h1,show k<j+1 by omega]
  by_cases h2:k=j
  .simp [h2]
  simp [h1,h2]
 rw [this,tM,eW];congr 1
 .exact kE fun k hk=>by
   rw [fO] at hk;rw [h k (by omega)];simp [hk,show ¬k=j by omega]
 simp [h j hj]
structure DrawFacts(P:Program)(c:Cfg)(all:List Oper)(wt:Nat->Nat->Bool)(ops:List Oper)(ks:List DK)(st:St)(ds:List Delta):Prop where
 len:ks.length=ops.length
 dlen:ds.length=ops.length
 apart:∀(i j:Nat) (oi oj:Oper) (ki kj:DK),ops[i]?=some oi->ks[i]?=some ki->ops[j]?=some oj->ks[j]?=some kj->i<j->wt i j=false->(wI c all oi ki).apart (wI c all oj kj)=true
 step:∀(k:Nat) (o:Oper) (kk:DK),ops[k]?=some o->ks[k]?=some kk->∃s,ds[k]?=some (eX (rY c o.dst o.op kk) (nV kk) s)/\
   (Up c o.dst o.op kk=true->∃J,s.obj=((ds.take k).foldl St.upd st).obj++J)/\
   (kk.isNd=false->∀st',AgreeD (uG c all o kk) (nV kk) (xP c o.dst o.op kk) ((ds.take k).foldl St.upd st) st'->Fp P all o st' (· =st'.upd (eX (rY c o.dst o.op kk) (nV kk) s)))
theorem Iw {k:DK} (ho:ops[i]?=some o)(hk:ks[i]?=some k):(fps c all ops ks)[i]?=some (wI c all o k):=by
 simp only [fps,bP,cU];exact⟨(o,k),List.getElem?_zip_eq_some.2 ⟨ho,hk⟩,rfl⟩
structure Ord(all:List Oper)(π:List Nat):Prop where
 len:π.length=all.length
 all_:∀i,i<all.length->∃p:Nat,p<all.length/\π[p]?=some i
 nodup:π.Nodup
 lt_:∀i∈π,i<all.length
theorem zL:∀ {l:List Nat},Cn l=true->l.Nodup
 | [],_=>List.nodup_nil
 | a::l,h=>by
  simp only [Cn,fZ,nO] at h;exact oB.2 ⟨by simpa using h.1,zL h.2⟩
theorem Ord.lt (h:Ord all π) {p:Nat} (hp:π[p]?=some i):i<all.length:=h.lt_ i (aS hp)
theorem Ord.of (h1:π.length=all.length)(h2:∀i,i<all.length->π.contains i=true)(h3:Cn π=true)(h4:∀i∈π,i<all.length):Ord all π:=
 ⟨h1,fun i hi=>by
  obtain⟨p,hp⟩:=pN.1 (by simpa using h2 i hi:i∈π);exact⟨p,by have:=(aH.1 hp).1;omega,hp⟩,zL h3,h4⟩
theorem yF {all:List Oper} :∀ {π:List Nat},(∀i∈π,i<all.length)->(gE π all).length=π.length/\∀p:Nat,(gE π all)[p]?=(π[p]?).bind (all[·]?)
 | [],_=>⟨rfl,fun p=>by simp [gE]⟩
 | i::π,h=>by
  obtain⟨h1,h2⟩:=yF (π:=π) fun j hj=>h j (by simp [hj]);have hlt:=h i (by simp);have hi:all[i]?=some all[i]:=aN hlt;have e:gE (i::π) all=all[i]::gE π all:=by simp [gE,hi]
  rw [e];refine⟨by simp [h1],fun p=>?_⟩;cases p with
  | zero=>simp [hi]
  | succ p=>simp [h2 p]
theorem Ord.get (h:Ord all π):(gE π all).length=all.length/\∀p:Nat,(gE π all)[p]?=(π[p]?).bind (all[·]?):=by
 have:=yF (all:=all) (π:=π) fun i hi=>by
  obtain⟨p,hp⟩:=pN.1 hi;exact h.lt hp
 exact⟨by rw [this.1,h.len],this.2⟩
theorem aBk (hok:Aq c all π ks=true)(hc:Chain P c all (gE π all) ks st ss e):
  Ord all π/\(∀(k:Nat) (o:Oper),all[k]?=some o->∀e∈o.after.toList,Region.binds .any e=true->e.on<k)/\DrawFacts P c all (fun i j=>mU all (π.getD i 0) (π.getD j 0)) (gE π all) ks st (dl c (gE π all) ks ss)/\e=(dl c (gE π all) ks ss).foldl St.upd st:=by
 obtain⟨h1,h2,h3⟩:=Hr hc;unfold Aq at hok;simp only [fZ] at hok;obtain⟨⟨⟨⟨g1,g2⟩,g3⟩,g0,g5,g6,g7⟩,g4⟩:=hok;have hord:Ord all π:=by
  rw [eJ] at g5 g7;exact Ord.of (by simpa using g0) (fun i hi=>g5 i (fO.2 hi)) g6 fun i hi=>by simpa using g7 i hi
 refine⟨hord,fun k o ho e he hb=>?_,⟨by rw [hord.get.1];simpa using g1,h1,fun i j oi oj ki kj a1 a2 a3 a4 hij hw=>?_,h3⟩,h2⟩
 .rw [eJ] at g3;have hm:(o,k)∈all.zipIdx:=pN.2 ⟨k,by simp [ho]⟩;have:=g3 _ hm;rw [eJ] at this;have:=this e he;simpa [hb] using this
 rw [eJ] at g4;have hmj:(wI c all oj kj,j)∈(fps c all (gE π all) ks).zipIdx:=pN.2 ⟨j,by simp [Iw a3 a4]⟩;have hmi:(wI c all oi ki,i)∈(fps c all (gE π all) ks).zipIdx:=pN.2 ⟨i,by simp [Iw a1 a2]⟩;have:=g4 _ hmj;rw [eJ] at this;have:=this _ hmi;have e:(!decide (i<j))=false:=by simp [hij]
 rw [e,xJ] at this;have hw':mU all (π.getD i 0) (π.getD j 0)=false:=hw;rw [hw',xJ] at this;exact this
theorem gB {a b:FP} (h:a.apart b=true):(∀t,t∈a.ws->t∉b.ws/\t∉b.rs)/\(∀t,t∈b.ws->t∉a.rs)/\(a.f.wL=true->b.f.rL=false/\b.f.wL=false)/\(b.f.wL=true->a.f.rL=false)/\(a.f.wO=true->b.f.rO=false/\b.f.wO=false)/\(b.f.wO=true->a.f.rO=false\/(a.t=true/\b.a=true)):=by
 unfold FP.apart at h;simp only [fZ,eJ,nO,Bool.and_eq_false_iff,Bool.or_eq_false_iff] at h;obtain⟨⟨⟨⟨⟨h1,h2⟩,h3⟩,h4⟩,h5⟩,h6⟩:=h;refine⟨fun t ht=>?_,fun t ht=>?_,fun hw=>?_,fun hw=>?_,fun hw=>?_,fun hw=>?_⟩
 .have:=h1 t ht;simpa using this
 .have:=h2 t ht;simpa using this
 .rcases h3 with h | h
  .rw [hw] at h;cases h
  exact h
 .rcases h4 with h | h
  .rw [hw] at h;cases h
  exact h
 .rcases h5 with h | h
  .rw [hw] at h;cases h
  exact h
 rcases h6 with (h | h) | h
 .rw [hw] at h;cases h
 .exact .inl h
 exact .inr (by simpa using h)
section
variable {wt:Nat->Nat->Bool}{ds:List Delta}
def kG(st:St)(ds:List Delta)(n:Nat)(E:Nat->Bool):St:=((List.range n).filter E).foldl (U ds) st
def fH(c:Cfg)(all ops:List Oper)(ks:List DK)(k:Nat):FP:=((fps c all ops ks)[k]?).getD ⟨[], [],⟨false,false,false,false⟩,false,false⟩
theorem DrawFacts.at(h:DrawFacts P c all wt ops ks st ds) {k:Nat} (hk:k<ops.length):∃o kk s,ops[k]?=some o/\ks[k]?=some kk/\fH c all ops ks k=wI c all o kk/\ds[k]?=some (eX (rY c o.dst o.op kk) (nV kk) s)/\
  (Up c o.dst o.op kk=true->∃J,s.obj=((ds.take k).foldl St.upd st).obj++J)/\
  (kk.isNd=false->∀st',AgreeD (uG c all o kk) (nV kk) (xP c o.dst o.op kk) ((ds.take k).foldl St.upd st) st'->Fp P all o st' (· =st'.upd (eX (rY c o.dst o.op kk) (nV kk) s))):=by
 have ho:ops[k]?=some ops[k]:=aN hk;have hk2:k<ks.length:=by rw [h.len];exact hk
 have hkk:ks[k]?=some ks[k]:=aN hk2;obtain⟨s,h1,h0,h2⟩:=h.step k _ _ ho hkk;exact⟨_,_,s,ho,hkk,by simp [fH,Iw ho hkk],h1,h0,h2⟩
theorem DrawFacts.sep(h:DrawFacts P c all wt ops ks st ds) (hij:i<j)(hj:j<ops.length)(hw:wt i j=false):(fH c all ops ks i).apart (fH c all ops ks j)=true:=by
 obtain⟨oi,ki,_,a1,a2,a3,_⟩:=h.at (show i<ops.length by omega);obtain⟨oj,kj,_,b1,b2,b3,_⟩:=h.at hj;rw [a3,b3];exact h.apart i j oi oj ki kj a1 a2 b1 b2 hij hw
theorem DrawFacts.env(h:DrawFacts P c all wt ops ks st ds)(t k:Nat):((fH c all ops ks k).ws.contains t=false->∀s,(U ds s k).env t=s.env t)/\(∀s s':St,s.env t=s'.env t->(U ds s k).env t=(U ds s' k).env t):=by
 by_cases hk:k<ops.length
 .obtain⟨o,kk,s0,a1,a2,a3,a4,_⟩:=h.at hk;have e:∀s:St,(U ds s k).env t=if t∈rY c o.dst o.op kk then s0.env t else s.env t:=fun s=>by
   simp only [U,List.getD,a4,gS];exact pM _ _ _ _ _
  refine⟨fun hc s=>?_,fun s s' hs=>?_⟩
  .rw [a3] at hc;have:t∉rY c o.dst o.op kk:=by simpa [wI] using hc
   rw [e,aG this]
  rw [e,e,hs]
 have:∀s:St,U ds s k=s:=fun s=>by
  simp only [U,List.getD,gP (show ds.length<=k by rw [h.dlen];omega),sY];rfl
 exact⟨fun _ s=>by rw [this],fun s s' hs=>by rw [this,this];exact hs⟩
theorem DrawFacts.loc(h:DrawFacts P c all wt ops ks st ds)(k:Nat):((fH c all ops ks k).f.wL=false->∀s,(U ds s k).loc=s.loc)/\(∀s s':St,s.loc=s'.loc->(U ds s k).loc=(U ds s' k).loc):=by
 by_cases hk:k<ops.length
 .obtain⟨o,kk,s0,a1,a2,a3,a4,_⟩:=h.at hk;have e:∀s:St,(U ds s k).loc=if(nV kk).wL then s0.loc else s.loc:=fun s=>by
   simp only [U,List.getD,a4,gS,St.upd,eX];split <;> rfl
  refine⟨fun hc s=>?_,fun s s' hs=>?_⟩
  .rw [a3] at hc;rw [e,aG (by simpa [wI] using hc)]
  rw [e,e,hs]
 have:∀s:St,U ds s k=s:=fun s=>by
  simp only [U,List.getD,gP (show ds.length<=k by rw [h.dlen];omega),sY];rfl
 exact⟨fun _ s=>by rw [this],fun s s' hs=>by rw [this,this];exact hs⟩
theorem DrawFacts.obj(h:DrawFacts P c all wt ops ks st ds)(k:Nat):((fH c all ops ks k).f.wO=false->∀s,(U ds s k).obj=s.obj)/\(∀s s':St,s.obj=s'.obj->(U ds s k).obj=(U ds s' k).obj):=by
 by_cases hk:k<ops.length
 .obtain⟨o,kk,s0,a1,a2,a3,a4,_⟩:=h.at hk;have e:∀s:St,(U ds s k).obj=if(nV kk).wO then s0.obj else s.obj:=fun s=>by
   simp only [U,List.getD,a4,gS,St.upd,eX];split <;> rfl
  refine⟨fun hc s=>?_,fun s s' hs=>?_⟩
  .rw [a3] at hc;rw [e,aG (by simpa [wI] using hc)]
  rw [e,e,hs]
 have:∀s:St,U ds s k=s:=fun s=>by
  simp only [U,List.getD,gP (show ds.length<=k by rw [h.dlen];omega),sY];rfl
 exact⟨fun _ s=>by rw [this],fun s s' hs=>by rw [this,this];exact hs⟩
def mM(wt:Nat->Nat->Bool)(E:Nat->Bool):Prop:=∀i j,E j=true->wt i j=true->E i=true
theorem DrawFacts.seen(h:DrawFacts P c all wt ops ks st ds) (hE:mM wt E) (hj:j<ops.length)(hnj:E j=false)(hready:∀i,wt i j=true->E i=true)(q:Nat->Bool)
  (hq:∀k,k<ops.length->k≠j->q k=true->(k<j->(fH c all ops ks k).apart (fH c all ops ks j)=false)/\(j<k->(fH c all ops ks j).apart (fH c all ops ks k)=false)):
  ∀k,k<ops.length->(E k && q k)=(decide (k<j) && q k):=by
 intro k hk;cases hqk:q k with
 | false=>simp
 | true =>
  simp only [Bool.and_true];by_cases hkj:k=j
  .subst hkj;simp [hnj]
  obtain⟨h1,h2⟩:=hq k hk hkj hqk;by_cases hlt:k<j
  .have:wt k j=true:=by
    cases hw:wt k j with
    | true=>rfl
    | false=>have:=h.sep hlt hj hw;rw [h1 hlt] at this;cases this
   simp [hlt,hready k this]
  have hgt:j<k:=by omega
  have hw:wt j k=true:=by
   cases hw:wt j k with
   | true=>rfl
   | false=>have:=h.sep hgt hk hw;rw [h2 hgt] at this;cases this
  cases hek:E k with
  | false=>simp [hlt]
  | true=>have:=hE j k hek hw;rw [hnj] at this;cases this
theorem jA {a b:FP} (h:¬(a.apart b=true)):a.apart b=false:=by simpa using h
theorem DrawFacts.env_seen(h:DrawFacts P c all wt ops ks st ds) (hE:mM wt E) (hj:j<ops.length)(hnj:E j=false)(hready:∀i,wt i j=true->E i=true) {t:Nat} (ht:t∈(fH c all ops ks j).rs)(hws:t∈(fH c all ops ks j).ws->t∈(fH c all ops ks j).rs):
  ∀k,k<ops.length->(E k && (fH c all ops ks k).ws.contains t)=(decide (k<j) && (fH c all ops ks k).ws.contains t):=by
 refine h.seen hE hj hnj hready (fun k=>(fH c all ops ks k).ws.contains t) fun k hk hkj hq=>?_;have hm:t∈(fH c all ops ks k).ws:=by simpa using hq
 refine⟨fun _=>jA fun ha=>?_,fun _=>jA fun ha=>?_⟩
 .exact((gB ha).1 t hm).2 ht
 exact(gB ha).2.1 t hm ht
theorem DrawFacts.obj_pre(h:DrawFacts P c all wt ops ks st ds) (hE:mM wt E) (hj:j<ops.length)(hnj:E j=false)(hready:∀i,wt i j=true->E i=true)(hl:(fH c all ops ks j).f.rO=true):∃J,(kG st ds ops.length E).obj=((ds.take j).foldl St.upd st).obj++J:=by
 have hdl:=h.dlen
 let W:Nat->Bool:=fun k=>(fH c all ops ks k).f.wO
 have fold:∀(L:List Nat),(L.foldl (U ds) st).obj=((L.filter W).foldl (U ds) st).obj:=fun L=>mF ds W (fun k=>(h.obj k).1) (fun k=>(h.obj k).2) L st st rfl
 -- who writes and mU for nobody outside E
 have below:∀m,m<ops.length->(m=j\/(E m=true/\W m=true))->∀k,k<m->W k=true->E k=true:=by
  intro m hm hc k hk hw;rcases hc with rfl | ⟨he,hwm⟩
  .cases hwt:wt k m with
   | true=>exact hready k hwt
   | false=>have:=((gB (h.sep hk hm hwt)).2.2.2.2.1 hw).1;rw [hl] at this;cases this
  cases hwt:wt k m with
  | true=>exact hE k m he hwt
  | false=>have:=((gB (h.sep hk hm hwt)).2.2.2.2.1 hw).2;rw [show(fH c all ops ks m).f.wO=true from hwm] at this;cases this
 have chain:∀m,m<ops.length->(m=j\/(E m=true/\W m=true))->(((List.range m).filter E).foldl (U ds) st).obj=((ds.take m).foldl St.upd st).obj:=by
  intro m hm hc;rw [<- jL ds st m (by omega),fold,fold (List.range m),gI];congr 2;refine kE fun k hk=>?_;rw [fO] at hk;cases hw:W k with
  | false=>simp
  | true=>simp [below m hm hc k hk hw]
 have go : ∀ n, j + n <= ops.length -> ∃ J, (((List.range (j + n)).filter E).foldl (U ds) st).obj = ((ds.take j).foldl St.upd st).obj ++ J := by
  intro n;induction n with
  | zero=>intro _;exact⟨[],by rw [iJ,chain j hj (.inl rfl),iK]⟩
  | succ n ih =>
   intro hn;obtain⟨J,hJ⟩:=ih (by omega);rw [show j+(n+1)=j+n+1 by omega,tM,eW,jD];cases he:E (j+n)with
   | false=>simp only [nQ,he,nW,nU];exact⟨J,hJ⟩
   | true =>
    simp only [nQ,he,nW,aJ,eG,nU];have hne:n≠0:=by rintro rfl;rw [iJ,hnj] at he;cases he
    cases hw:W (j+n)with
    | false=>rw [(h.obj (j+n)).1 hw];exact⟨J,hJ⟩
    | true =>
     have hap:(fH c all ops ks j).apart (fH c all ops ks (j+n))=true:=by
      cases hwt:wt j (j+n)with
      | true=>have:=hE j (j+n) he hwt;rw [hnj] at this;cases this
      | false=>exact h.sep (by omega) (by omega) hwt
     have ha:(fH c all ops ks (j+n)).a=true:=by
      rcases(gB hap).2.2.2.2.2 hw with e | e
      .rw [hl] at e;cases e
      exact e.2
     obtain⟨o,kk,s0,a1,a2,a3,a4,a0,_⟩:=h.at (show j+n<ops.length by omega);rw [a3] at ha;obtain⟨J',hJ'⟩:=a0 ha;have hwk:(nV kk).wO=true:=by have:=hw;simp only [W,a3,wI] at this;exact this
     have e:∀s:St,(U ds s (j+n)).obj=s0.obj:=fun s=>by
      simp only [U,List.getD,a4,gS,St.upd,eX,hwk,aJ]
     rw [e,hJ',<- chain (j+n) (by omega) (.inr ⟨he,hw⟩),hJ];exact⟨J++J',by rw [bN]⟩
 obtain⟨J,hJ⟩:=go (ops.length - j) (by omega);rw [show j+(ops.length - j)=ops.length by omega] at hJ;exact⟨J,hJ⟩
theorem DrawFacts.agree(h:DrawFacts P c all wt ops ks st ds) (hE:mM wt E) (hj:j<ops.length)(hnj:E j=false)(hready:∀i,wt i j=true->E i=true):AgreeD (fH c all ops ks j).rs (fH c all ops ks j).f (fH c all ops ks j).t ((ds.take j).foldl St.upd st) (kG st ds ops.length E):=by
 have hdl:=h.dlen;refine⟨?_,fun t ht=>?_,fun hl=>?_,fun hl=>?_⟩
 .rw [<- jL ds st j (by omega)];unfold kG;rw [yP,yP]
 .rw [<- jL ds st j (by omega)];unfold kG;rw [oS ds (fun k=>(fH c all ops ks k).ws.contains t) t (fun k=>(h.env t k).1) (fun k=>(h.env t k).2) ((List.range ops.length).filter E) st st rfl,
   oS ds (fun k=>(fH c all ops ks k).ws.contains t) t (fun k=>(h.env t k).1) (fun k=>(h.env t k).2) (List.range j) st st rfl,gI]
  rw [nC ops.length j (by omega) _ (fun k=>(fH c all ops ks k).ws.contains t)];intro k hk;rw [nZ];exact h.env_seen hE hj hnj hready ht (fun _=>ht) k hk
 .rw [<- jL ds st j (by omega)];unfold kG;rw [oQ ds (fun k=>(fH c all ops ks k).f.wL) (fun k=>(h.loc k).1) (fun k=>(h.loc k).2) ((List.range ops.length).filter E) st st rfl,
   oQ ds (fun k=>(fH c all ops ks k).f.wL) (fun k=>(h.loc k).1) (fun k=>(h.loc k).2) (List.range j) st st rfl,gI]
  rw [nC ops.length j (by omega) _ (fun k=>(fH c all ops ks k).f.wL)];intro k hk;rw [nZ];refine h.seen hE hj hnj hready (fun k=>(fH c all ops ks k).f.wL) (fun k hk hkj hq=>⟨fun _=>jA fun ha=>?_,fun _=>jA fun ha=>?_⟩) k hk
  .have:=((gB ha).2.2.1 hq).1;rw [hl] at this;cases this
  have:=(gB ha).2.2.2.1 hq;rw [hl] at this;cases this
 refine⟨fun ht=>?_,h.obj_pre hE hj hnj hready hl⟩;rw [<- jL ds st j (by omega)];unfold kG;rw [mF ds (fun k=>(fH c all ops ks k).f.wO) (fun k=>(h.obj k).1) (fun k=>(h.obj k).2) ((List.range ops.length).filter E) st st rfl,
  mF ds (fun k=>(fH c all ops ks k).f.wO) (fun k=>(h.obj k).1) (fun k=>(h.obj k).2) (List.range j) st st rfl,gI]
 rw [nC ops.length j (by omega) _ (fun k=>(fH c all ops ks k).f.wO)];intro k hk;rw [nZ];refine h.seen hE hj hnj hready (fun k=>(fH c all ops ks k).f.wO) (fun k hk hkj hq=>⟨fun _=>jA fun ha=>?_,fun _=>jA fun ha=>?_⟩) k hk
 .have:=((gB ha).2.2.2.2.1 hq).1;rw [hl] at this;cases this
 rcases(gB ha).2.2.2.2.2 hq with this | ⟨this,_⟩
 .rw [hl] at this;cases this
 rw [ht] at this;cases this
theorem DrawFacts.next(h:DrawFacts P c all wt ops ks st ds) (hE:mM wt E) (hj:j<ops.length)(hnj:E j=false)(hready:∀i,wt i j=true->E i=true):
  kG st ds ops.length (fun k=>E k || decide (k=j))=U ds (kG st ds ops.length E) j:=by
 obtain⟨o,kk,s0,a1,a2,a3,a4,_,a5⟩:=h.at hj;have hwsrs:∀t,t∈(fH c all ops ks j).ws->t∈(fH c all ops ks j).rs:=fun t ht=>by
  rw [a3] at ht |-;simp only [wI,uG] at ht |-;simp [ht]
 have eU:∀s:St,U ds s j=s.upd (eX (rY c o.dst o.op kk) (nV kk) s0):=fun s=>by simp only [U,List.getD,a4,gS]
 refine St.ext' ?_ (fun t=>?_) ?_ ?_
 .rw [eU];unfold kG;rw [yP];show _=((List.range ops.length).filter E |>.foldl (U ds) st).n;rw [yP]
 .by_cases ht:t∈(fH c all ops ks j).ws
  .have lhs:(kG st ds ops.length (fun k=>E k || decide (k=j))).env t=s0.env t:=by
    unfold kG;rw [oS ds (fun k=>(fH c all ops ks k).ws.contains t) t (fun k=>(h.env t k).1) (fun k=>(h.env t k).2) _ st st rfl,gI];rw [lH ops.length j hj _ (fun k=>(fH c all ops ks k).ws.contains t)]
    .rw [jD,eG,nU,eU,pM];rw [a3] at ht;exact aR ht
    intro k hk;have hs:=h.env_seen hE hj hnj hready (hwsrs t ht) (hwsrs t) k hk;by_cases hkj:k=j
    .subst hkj;simp [ht]
    simp only [hkj,qC,tH];rw [nZ];exact hs
   rw [lhs,eU,pM];rw [a3] at ht;exact(aR ht).symm
  have hc:(fH c all ops ks j).ws.contains t=false:=by simpa using ht
  rw [(h.env t j).1 hc];unfold kG;rw [oS ds (fun k=>(fH c all ops ks k).ws.contains t) t (fun k=>(h.env t k).1) (fun k=>(h.env t k).2) ((List.range ops.length).filter E) st st rfl,
   oS ds (fun k=>(fH c all ops ks k).ws.contains t) t (fun k=>(h.env t k).1) (fun k=>(h.env t k).2) _ st st rfl,gI,gI]
  congr 2;refine kE fun k _=>?_;by_cases hkj:k=j
  .subst hkj;simp [ht]
  simp [hkj]
 .cases hl:(fH c all ops ks j).f.wL with
  | true =>
   have lhs:(kG st ds ops.length (fun k=>E k || decide (k=j))).loc=(U ds ((List.range j).filter (fun k=>(fH c all ops ks k).f.wL) |>.foldl (U ds) st) j).loc:=by
    unfold kG;rw [oQ ds (fun k=>(fH c all ops ks k).f.wL) (fun k=>(h.loc k).1) (fun k=>(h.loc k).2) _ st st rfl,gI];rw [lH ops.length j hj _ (fun k=>(fH c all ops ks k).f.wL)]
    .rw [jD,eG,nU]
    intro k hk;by_cases hkj:k=j
    .subst hkj;simp [hl]
    simp only [hkj,qC,tH];rw [nZ];refine h.seen hE hj hnj hready (fun k=>(fH c all ops ks k).f.wL) (fun k hk hkj hq=>⟨fun _=>jA fun ha=>?_,fun _=>jA fun ha=>?_⟩) k hk
    .have:=((gB ha).2.2.1 hq).2;rw [hl] at this;cases this
    have:=((gB ha).2.2.1 hl).2;rw [hq] at this;cases this
   rw [lhs,eU,eU];rw [a3] at hl;simp only [wI] at hl;simp [St.upd,eX,hl]
  | false =>
   rw [(h.loc j).1 hl];unfold kG;rw [oQ ds (fun k=>(fH c all ops ks k).f.wL) (fun k=>(h.loc k).1) (fun k=>(h.loc k).2) ((List.range ops.length).filter E) st st rfl,
    oQ ds (fun k=>(fH c all ops ks k).f.wL) (fun k=>(h.loc k).1) (fun k=>(h.loc k).2) _ st st rfl,gI,gI]
   congr 2;refine kE fun k _=>?_;by_cases hkj:k=j
   .subst hkj;simp [hl]
   simp [hkj]
 cases hl:(fH c all ops ks j).f.wO with
 | true =>
  have lhs:(kG st ds ops.length (fun k=>E k || decide (k=j))).obj=(U ds ((List.range j).filter (fun k=>(fH c all ops ks k).f.wO) |>.foldl (U ds) st) j).obj:=by
   unfold kG;rw [mF ds (fun k=>(fH c all ops ks k).f.wO) (fun k=>(h.obj k).1) (fun k=>(h.obj k).2) _ st st rfl,gI];rw [lH ops.length j hj _ (fun k=>(fH c all ops ks k).f.wO)]
   .rw [jD,eG,nU]
   intro k hk;by_cases hkj:k=j
   .subst hkj;simp [hl]
   simp only [hkj,qC,tH];rw [nZ];refine h.seen hE hj hnj hready (fun k=>(fH c all ops ks k).f.wO) (fun k hk hkj hq=>⟨fun _=>jA fun ha=>?_,fun _=>jA fun ha=>?_⟩) k hk
   .have:=((gB ha).2.2.2.2.1 hq).2;rw [hl] at this;cases this
   have:=((gB ha).2.2.2.2.1 hl).2;rw [hq] at this;cases this
  rw [lhs,eU,eU];rw [a3] at hl;simp only [wI] at hl;simp [St.upd,eX,hl]
 | false =>
  rw [(h.obj j).1 hl];unfold kG;rw [mF ds (fun k=>(fH c all ops ks k).f.wO) (fun k=>(h.obj k).1) (fun k=>(h.obj k).2) ((List.range ops.length).filter E) st st rfl,
   mF ds (fun k=>(fH c all ops ks k).f.wO) (fun k=>(h.obj k).1) (fun k=>(h.obj k).2) _ st st rfl,gI,gI]
  congr 2;refine kE fun k _=>?_;by_cases hkj:k=j
  .subst hkj;simp [hl]
  simp [hkj]
theorem tY :i∈Region.ready .any ops.toArray listed↔∃o,ops[i]?=some o/\listed.getD i true=false/\∀e∈o.after.toList,Region.binds .any e=true->listed.getD e.on false=true:=by
 unfold Region.ready;simp only [iH,fO,eK,fZ,nO,eO];constructor
 .rintro⟨h1,h2,h3⟩;rw [aN h1] at h3;simp only [eT,gS] at h3;refine⟨_,aN h1,h2,fun e he hb=>?_⟩;rw [Array.all_eq_true'] at h3;have:=h3 e (by simpa using he);simpa [hb] using this
 rintro⟨o,h1,h2,h3⟩;refine⟨(aH.1 h1).1,h2,?_⟩;rw [h1];simp only [eT,gS];rw [Array.all_eq_true'];intro e he;cases hb:Region.binds .any e with
 | false=>simp
 | true=>simp [h3 e (by simpa using he) hb]
def EP(π:List Nat)(listed:Array Bool)(p:Nat):Bool:=listed.getD (π.getD p 0) false
abbrev wtO(all:List Oper)(π:List Nat)(i j:Nat):Bool:=mU all (π.getD i 0) (π.getD j 0)
theorem Me (hE:mM (mU all) (fun k=>listed.getD k false)):mM (wtO all π) (EP π listed):=fun i j h1 h2=>hE _ _ h1 h2
theorem Ie (hE:mM (mU all) (fun k=>listed.getD k false)) (ho:all[j]?=some o)(hr:∀e∈o.after.toList,Region.binds .any e=true->listed.getD e.on false=true):∀i,mU all i j=true->listed.getD i false=true:=by
 intro i hw;obtain⟨e,he,hb,h1⟩:=Ns ho hw;rcases h1 with rfl | ⟨_,h1⟩
 .exact hr e he hb
 exact hE i e.on (hr e he hb) h1
theorem Oo {E':Nat->Bool} (h:∀k,k<n->E k=E' k):kG st ds n E=kG st ds n E':=by
 unfold kG;rw [kE fun k hk=>h k (fO.1 hk)]
theorem uT (hsz:listed.size=n)(hlt:i<n)(k:Nat):(listed.setIfInBounds i true).getD k false=(listed.getD k false || decide (k=i)):=by
 simp only [gJ,uA];by_cases hk:i=k
 .subst hk;simp [hsz,hlt]
 have:¬k=i:=fun e=>hk e.symm;simp [hk,this]
theorem Mm (hsz:listed.size=all.length)(hlt:i<all.length)(hE:mM (mU all) (fun k=>listed.getD k false))(hrd:∀j,mU all j i=true->listed.getD j false=true):mM (mU all) (fun k=>(listed.setIfInBounds i true).getD k false):=by
 intro a b hb hw;simp only [uT hsz hlt,wW,jB] at hb |-;rcases hb with hb | rfl
 .exact .inl (hE a b hb hw)
 exact .inl (hrd a hw)
theorem Wm {fuel:Nat} (hsz:listed.size=n)(hlt:i<n)(hni:listed.getD i false=false)(hc:((List.range n).filter fun k=> !listed.getD k false).length=fuel+1):((List.range n).filter fun k=> !(listed.setIfInBounds i true).getD k false).length=fuel:=by
 have e1:((List.range n).filter fun k=> !(listed.setIfInBounds i true).getD k false)=((List.range n).filter fun k=> !listed.getD k false).filter (fun k=>decide (k≠i)):=by
  rw [gI];refine kE fun k _=>?_;rw [uT hsz hlt];cases listed.getD k false <;> simp
 rw [e1];have hnd:((List.range n).filter fun k=> !listed.getD k false).Nodup:=yU _ List.nodup_range;have hmem:i∈((List.range n).filter fun k=> !listed.getD k false):=by
  rw [iH,fO];exact⟨hlt,by simp [hni]⟩
 have:((List.range n).filter fun k=> !listed.getD k false).filter (fun k=>decide (k≠i))=((List.range n).filter fun k=> !listed.getD k false).erase i:=by
  rw [List.Nodup.erase_eq_filter hnd];refine kE fun k _=>?_;simp [bne];cases hk:decide (k=i) <;> simp_all
 rw [this,List.length_erase_of_mem hmem,hc];rfl
theorem Mt (hedge:∀(k:Nat) (o:Oper),all[k]?=some o->∀e∈o.after.toList,Region.binds .any e=true->e.on<k)(hsz:listed.size=all.length)(hne:((List.range all.length).filter fun k=> !listed.getD k false)≠ []):∃i,i∈Region.ready .any all.toArray listed:=by
 obtain⟨k,hk⟩:=List.exists_mem_of_ne_nil _ hne;have least:∀m k,k<=m->k∈((List.range all.length).filter fun k=> !listed.getD k false)->∃i,i∈Region.ready .any all.toArray listed:=by
  intro m;induction m with
  | zero=>
   intro k hkm hk;have hk0:k=0:=by omega
   subst hk0;rw [iH,fO] at hk;have ho:=aN hk.1;refine⟨0,tY.2 ⟨_,ho,?_,fun e he hb=>?_⟩⟩
   .have hs:listed[0]?=some listed[0]:=aV (by omega);have:=hk.2;simp [gJ,hs] at this |-;exact this
   have:=hedge 0 _ ho e he hb;omega
  | succ m ihm =>
   intro k hkm hk;rw [iH,fO] at hk;have ho:=aN hk.1;by_cases hall:∀e∈all[k].after.toList,Region.binds .any e=true->listed.getD e.on false=true
   .refine⟨k,tY.2 ⟨_,ho,?_,hall⟩⟩;have hs:listed[k]?=some listed[k]:=aV (by omega);have:=hk.2;simp [gJ,hs] at this |-;exact this
   have:∃e,e∈all[k].after.toList/\Region.binds .any e=true/\listed.getD e.on false≠true:=by
    refine Ff fun hno=>hall fun e he hb=>Ff fun hn=>hno ⟨e,he,hb,hn⟩
   obtain⟨e,he,hb,hl⟩:=this;have hlt:=hedge k _ ho e he hb;refine ihm e.on (by omega) ?_;rw [iH,fO];exact⟨by omega,by simpa using hl⟩
 exact least k k (bD _) hk
theorem aI4(l:List Delta)(s:St):(l.foldl St.upd s).n=s.n:=by
 induction l generalizing s with
 | nil=>rfl
 | cons d l ih=>rw [eG,ih];rfl
theorem aD1(n:Nat)(E:Nat->Bool):(kG st ds n E).n=st.n:=by unfold kG;rw [yP]
theorem Ya {fuel:Nat} {w0 w:World} {g0 g:Gh} {tmps:Array Value} {S:St} {K:St->Prop} (h1:all[i]?=some o)(hf:FrM dfs w0 g0 w g)(hok:Ok w g S (bQ tmps))(hn:tmps.size=S.n)(hgo:Fp P all o S K)
  (hnext:∀(w':World) (g':Gh) (tmps':Array Value) (S':St),K S'->FrM dfs w0 g0 w' g'->Ok w' g' S' (bQ tmps')->tmps'.size=S'.n->wpAnyIn (fR ro) 0 P .any all.toArray (Df dfs w0 g0 Q) fuel (listed.setIfInBounds i true) ⟨tmps',dfs⟩ w'):
  wpOpIn (fR ro) 0 P all.toArray (Df dfs w0 g0 Q) i (wpAnyIn (fR ro) 0 P .any all.toArray (Df dfs w0 g0 Q) fuel (listed.setIfInBounds i true)) ⟨tmps,dfs⟩ w:=by
 have hgo:=hgo w g tmps hok hn;unfold wpOpIn;simp only [eO,h1];split
 .rename_i hw;refine Oper.wpIn_mono (fun a w'=>?_) (aHv (K:=fun tmps' w'=>∃st' g',K st'/\Fr w g w' g'/\Ok w' g' st' (bQ tmps')/\tmps'.size=st'.n) dfs (hgo.1 hw));rintro⟨hdf,st',g',hk,hf',hok',hn'⟩;obtain⟨tmps',dfs'⟩:=a;simp only at hdf;rw [hdf];exact hnext w' g' tmps' st' hk (hf.trans hf') hok' hn'
 rename_i hw;obtain⟨st',g',hk,hf',hok',hn'⟩:=hgo.2 (by simpa using hw);refine⟨fun _ _=>trivial,?_⟩;have hds:=oV ⟨tmps,dfs⟩ o.dst undef;have hsz2:=rX ⟨tmps,dfs⟩ o.dst undef;have hok2:Ok w g' st' (bQ ((⟨tmps,dfs⟩:Act).put o.dst undef).tmps):=by
  have:((⟨tmps,dfs⟩:Act).put o.dst undef).tmps=((⟨tmps, []⟩:Act).put o.dst undef).tmps:=by cases o.dst <;> rfl
  rw [this];exact hok'
 generalize hA:(⟨tmps,dfs⟩:Act).put o.dst undef=A at *;obtain⟨tmps',dfs'⟩:=A;simp only at hds hsz2 hok2;rw [hds];exact hnext w g' tmps' st' hk (hf.trans hf') hok2 (by rw [hsz2];exact hn')
section
theorem Ord.place(ho:Ord all π) (h1:all[i]?=some o):∃p:Nat,p<(gE π all).length/\π[p]?=some i/\π.getD p 0=i/\(gE π all)[p]?=some o/\∀q,q<(gE π all).length->(π.getD q 0=i↔q=p):=by
 have hlt:=(aH.1 h1).1;obtain⟨p,p1,p2⟩:=ho.all_ i hlt;have hpl:∀q,q<(gE π all).length->∃y,π[q]?=some y:=fun q hq=>⟨_,aN (by rw [ho.len];rw [ho.get.1] at hq;exact hq)⟩;refine⟨p,by rw [ho.get.1];exact p1,p2,by simp [List.getD,p2],by rw [ho.get.2,p2];exact h1,fun q hq=>⟨fun e=>?_,fun e=>by rw [e];simp [List.getD,p2]⟩⟩;obtain⟨y,hy⟩:=hpl q hq;have e':y=i:=by simpa [List.getD,hy] using e
 subst e';exact(List.getElem?_inj (by rw [ho.len];rw [ho.get.1] at hq;exact hq) ho.nodup).1 (hy.trans p2.symm)
theorem Yz(ho:Ord all π) (hsz:listed.size=all.length) {p:Nat} (hlt:i<all.length)(hp:∀q,q<(gE π all).length->(π.getD q 0=i↔q=p))(q:Nat)(hq:q<(gE π all).length):EP π (listed.setIfInBounds i true) q=(EP π listed q || decide (q=p)):=by
 unfold EP;rw [uT hsz hlt];congr 1;have:=hp q hq;by_cases h:q=p
 .simp [h,this.2 h] at this |-;exact this
 have:¬π.getD q 0=i:=fun e=>h (this.1 e);rw [decide_eq_false this,decide_eq_false h]
theorem aCc (hord:Ord all π)(hedge:∀(k:Nat) (o:Oper),all[k]?=some o->∀e∈o.after.toList,Region.binds .any e=true->e.on<k)(h:DrawFacts P c all (wtO all π) (gE π all) ks st ds) {w0:World} {g0:Gh} (hQ:Q .normal (ds.foldl St.upd st)):∀(fuel:Nat) (listed:Array Bool) (w:World) (g:Gh) (tmps:Array Value),listed.size=all.length->mM (mU all) (fun k=>listed.getD k false)->
  (∀(p:Nat) (k:DK),ks[p]?=some k->k.isNd=true->EP π listed p=true)->((List.range all.length).filter fun k=> !listed.getD k false).length=fuel->FrM dfs w0 g0 w g->Ok w g (kG st ds (gE π all).length (EP π listed)) (bQ tmps)->tmps.size=st.n->wpAnyIn (fR ro) 0 P .any all.toArray (Df dfs w0 g0 Q) fuel listed ⟨tmps,dfs⟩ w:=by
 have ends:∀(listed:Array Bool) (w:World) (g:Gh) (tmps:Array Value),listed.size=all.length->((List.range all.length).filter fun k=> !listed.getD k false)= []->FrM dfs w0 g0 w g->Ok w g (kG st ds (gE π all).length (EP π listed)) (bQ tmps)->tmps.size=st.n->Df dfs w0 g0 Q .normal ⟨tmps,dfs⟩ w:=by
  intro listed w g tmps hsz hnil hf hok hn;have e:kG st ds (gE π all).length (EP π listed)=ds.foldl St.upd st:=by
   unfold kG;have:(List.range (gE π all).length).filter (EP π listed)=List.range (gE π all).length:=by
    rw [tI];intro k hk;rw [fO,hord.get.1] at hk;rw [sV] at hnil;have hkp:k<π.length:=by rw [hord.len];exact hk
    have hy:π[k]?=some π[k]:=aN hkp;have:=hnil π[k] (fO.2 (hord.lt hy));unfold EP;simp only [List.getD,hy,gS];simpa using this
   rw [this,jL ds st _ (by rw [h.dlen];exact bD _),<- h.dlen,gC]
  rw [e] at hok;exact⟨fun _=>rfl,_,g,hQ,hf,hok,by rw [aI4];exact hn⟩
 intro fuel;induction fuel with
 | zero=>
  intro listed w g tmps hsz hE hnds hc hf hok hn;have hnil:=jW hc;refine⟨?_,ends listed w g tmps hsz hnil hf hok hn⟩;rw [List.eq_nil_iff_forall_not_mem];intro i hi;rw [tY] at hi;obtain⟨o,h1,h2,h3⟩:=hi;have hlt:=(aH.1 h1).1;rw [sV] at hnil;have:=hnil i (by simpa using hlt);have hs:listed[i]?=some listed[i]:=aV (by omega);simp [gJ,hs] at this h2;rw [this] at h2;cases h2
 | succ fuel ih =>
  intro listed w g tmps hsz hE hnds hc hf hok hn;refine⟨fun hnil=>?_,fun i hi=>?_⟩
  .exfalso;have hne:((List.range all.length).filter fun k=> !listed.getD k false)≠ []:=by intro e;rw [e] at hc;simp at hc
   obtain⟨i,hi⟩:=Mt hedge hsz hne;rw [hnil] at hi;cases hi
  rw [tY] at hi;obtain⟨o,h1,h2,h3⟩:=hi;have hlt:=(aH.1 h1).1;have hs:listed[i]?=some listed[i]:=aV (by omega);have hni:listed.getD i false=false:=by simp [gJ,hs] at h2 |-;exact h2
  have hrd:=Ie hE h1 h3;obtain⟨p,p1,p2,p3,p4,p5⟩:=hord.place h1;have hnp:EP π listed p=false:=by unfold EP;rw [p3];exact hni
  have hrp:∀q,wtO all π q p=true->EP π listed q=true:=fun q hq=>hrd _ (by rw [<- p3];exact hq);obtain⟨o',kk,s0,a1,a2,a3,a4,_,a5⟩:=h.at p1;rw [p4] at a1;simp at a1;subst a1;have hkn:kk.isNd=false:=by
   cases hk:kk.isNd with
   | false=>rfl
   | true=>have:=hnds p kk a2 hk;rw [hnp] at this;cases this
  have hag:=h.agree (Me hE) p1 hnp hrp;rw [a3] at hag;have hnext:=h.next (Me hE) p1 hnp hrp;refine Ya h1 hf hok (by rw [hn,aD1]) (a5 hkn _ hag) ?_;rintro w' g' tmps' S' rfl hf' hok' hn';have hUd:U ds (kG st ds (gE π all).length (EP π listed)) p=(kG st ds (gE π all).length (EP π listed)).upd (eX (rY c o.dst o.op kk) (nV kk) s0):=by
   simp only [U,List.getD,a4,gS]
  have hst:(kG st ds (gE π all).length (EP π listed)).upd (eX (rY c o.dst o.op kk) (nV kk) s0)=kG st ds (gE π all).length (EP π (listed.setIfInBounds i true)):=by
   rw [<- hUd,<- hnext];exact Oo fun q hq=>(Yz hord hsz hlt p5 q hq).symm
  rw [hst] at hok' hn';refine ih _ w' g' tmps' (by rw [Array.size_setIfInBounds];exact hsz) (Mm hsz hlt hE hrd) (fun q k hk hkn=>?_) (Wm hsz hlt hni hc) hf' hok' (by rw [hn',aD1]);have hq:q<(gE π all).length:=by rw [<- h.len];exact(aH.1 hk).1
  rw [Yz hord hsz hlt p5 q hq,hnds q k hk hkn];rfl
end
theorem aB7(ops:List Oper):gE (List.range ops.length) ops=ops:=by
 refine lR fun p=>?_;have:=(yF (all:=ops) (π:=List.range ops.length) fun i hi=>fO.1 hi).2 p;rw [this];by_cases hp:p<ops.length
 .rw [oA hp];rfl
 rw [gP (by simpa using hp),gP (by omega)];rfl
theorem aCo(n:Nat)(π:List Nat):EP π (Array.replicate n false)=fun _=>false:=by
 funext k;unfold EP;simp only [gJ,yW];split <;> rfl
theorem Vj(st:St)(ds:List Delta)(n:Nat):kG st ds n (fun _=>false)=st:=by
 unfold kG;rw [sV.2 (fun k _=>by simp)];rfl
theorem Hq(n:Nat):mM (mU all) (fun k=>(Array.replicate n false).getD k false):=by
 intro i j hj;simp only [gJ,yW] at hj;split at hj <;> cases hj
theorem Jq(n:Nat):((List.range n).filter fun k=> !(Array.replicate n false).getD k false).length=n:=by
 rw [tI.2 (fun k _=>?_),List.length_range];simp only [gJ,yW];split <;> rfl
theorem aD4 {id:Nat} (ks:List DK) (hm:P.follows .mixedOrders=true)(hok:Bu c ops ks=true)(h:∀K:St->Prop,(∀s,Q .normal s->K s)->gY P c ops ops ks st K):dL ro dfs P (.region id ops.toArray true) Q st:=by
 intro w0 g0 w g tmps hf hokk hn;unfold Bu at hok;simp only [fZ] at hok;obtain⟨hok,hnd⟩:=hok;rw [eJ] at hnd;have hwf:∀k∈ks,Zk (nV k)=true/\k.isNd=false:=by
  have h2:=hok;unfold Aq at h2;simp only [fZ,eJ] at h2;exact fun k hk=>⟨h2.1.1.1.2 k hk,by simpa using hnd k hk⟩
 obtain⟨ss,e,hc,hQ⟩:=Mc ops ks st (Q .normal) hwf (h _ fun _ h=>h);have hc':Chain P c ops (gE (List.range ops.length) ops) ks st ss e:=by rw [aB7];exact hc
 obtain⟨hord,hedge,hfacts,he⟩:=aBk hok hc';subst he;refine wpIn_region_any hm ?_;refine aCc hord hedge hfacts hQ ops.toArray.size _ w.drew g tmps (by simp) ?_ (fun p k hk hkn=>?_) ?_ (hf.trans (Fr.drew w g)) ?_ hn
 .rw [eK];exact Hq _
 .have:=(hwf k (aS hk)).2;rw [hkn] at this;cases this
 .rw [eK,Jq]
 rw [eK,aCo,Vj];exact hokk.drew
end
end
end Go.Vm
