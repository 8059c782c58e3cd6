import Derived.Test.YtbgfljpnhhdkoaaGreatVm20
set_option linter.all false
namespace Go.Vm
open Go
variable {E:Nat->Bool}{Q:Exit->St->Prop}{all ops r:List Oper}{c:Cfg}{dfs:List Deferred}{e st:St}{g0:Gh}{i j n:Nat}{ks:List DK}{listed:Array Bool}{o:Oper}{ro:Option Nat}{ss:List St}{w0:World}{π:List Nat}
section
variable {P:Program}
theorem St.ext' {a b:St} (h1:a.n=b.n)(h2:∀t,a.env t=b.env t)(h3:a.loc=b.loc)(h4:a.obj=b.obj):a=b:=by
 cases a;cases b;simp only at h1 h3 h4;subst h1;subst h3;subst h4;congr 1;exact funext h2
def U(ds:List Delta)(s:St)(k:Nat):St:=s.upd (ds.getD k ⟨[],none,none⟩)
def dl(c:Cfg):List Oper->List DK->List St->List Delta
 | o::r,k::ks,s::ss=>gC (vA c o.dst o.op k) (pU k) s::dl c r ks ss
 | _,_,_=> []
theorem Pf {B:List Oper} {kb:List DK} {tt:List St} :∀(A:List Oper) (ka:List DK) (ss:List St),ka.length=A.length->ss.length=A.length->dl c (A++B) (ka++kb) (ss++tt)=dl c A ka ss++dl c B kb tt
 | [], [], [],_,_=>rfl
 | o::A,k::ka,s::ss,h1,h2=>by simp only [aP,dl];rw [Pf A ka ss (by simpa using h1) (by simpa using h2)]
 | [],_::_,_,h,_=>by simp at h
 | [], [],_::_,_,h=>by simp at h
 | _::_, [],_,h,_=>by simp at h
 | _::_,_::_, [],_,h=>by simp at h
theorem Chain.len (h:Chain P c all r ks st ss e):ss.length=r.length:=by
 induction h with
 | nil ks st=>rfl
 | cons o r k ks st s ss e h hr ih=>simp [ih]
theorem wC (h:Chain P c all r ks st ss e):(dl c r ks ss).length=r.length/\e=(dl c r ks ss).foldl St.upd st/\
  ∀(k:Nat) (o:Oper) (kk:DK),r[k]?=some o->ks[k]?=some kk->∃s,(dl c r ks ss)[k]?=some (gC (vA c o.dst o.op kk) (pU kk) s)/\
   (aEt c o.dst o.op kk=true->∃J,s.obj=(((dl c r ks ss).take k).foldl St.upd st).obj++J)/\
   (kk.isNd=false->∀st',AgreeD (yA c all o kk) (pU kk) (Hg c o.dst o.op kk) (((dl c r ks ss).take k).foldl St.upd st) st'->No P all o st' (· =st'.upd (gC (vA c o.dst o.op kk) (pU kk) s))):=by
 induction h with
 | nil ks st=>exact⟨by simp [dl],by simp [dl],fun k o kk h=>by simp at h⟩
 | cons o r k ks st s ss e h hr ih =>
  obtain⟨h1,h2,h3⟩:=ih;refine⟨by simp [dl,h1],?_,fun i o' kk a1 a2=>?_⟩
  .simp only [dl,dV,<- h.self];exact h2
  match i with
  | 0=>
   simp at a1 a2;subst a1;subst a2;exact⟨s,by simp [dl],fun e=>by simpa using h.app e,fun hn st' ha=>h.go hn st' (by simpa using ha)⟩
  | i+1=>
   obtain⟨s',b1,b0,b2⟩:=h3 i o' kk (by simpa using a1) (by simpa using a2);refine⟨s',by simpa [dl] using b1,fun e=>by simpa [dl,<- h.self] using b0 e,fun hn st' ha=>b2 hn st' ?_⟩;simp only [dl,Ft,dV,<- h.self] at ha;exact ha
theorem nL(ds:List Delta)(st:St):∀k,k<=ds.length->(List.range k).foldl (U ds) st=(ds.take k).foldl St.upd st
 | 0,_=>by simp
 | k+1,h=>by
  rw [yV,lH,nL ds st k (by omega),zF (by omega),lH];simp only [dV,qU,U];congr 1;simp [List.getD,aQ (show k<ds.length by omega)]
theorem tE(ds:List Delta)(p:Nat->Bool)(t:Nat)(hp:∀k,p k=false->∀s,(U ds s k).env t=s.env t)(hq:∀k,∀s s':St,s.env t=s'.env t->(U ds s k).env t=(U ds s' k).env t):∀(L:List Nat) (s s':St),s.env t=s'.env t->(L.foldl (U ds) s).env t=((L.filter p).foldl (U ds) s').env t
 | [],s,s',h=>h
 | k::L,s,s',h=>by
  simp only [dV,gJ];cases hk:p k with
  | true=>simp only [aU,dV];exact tE ds p t hp hq L _ _ (hq k s s' h)
  | false=>simp only [iH,bJ];exact tE ds p t hp hq L _ _ (by rw [hp k hk];exact h)
theorem sR(ds:List Delta)(p:Nat->Bool)(hp:∀k,p k=false->∀s,(U ds s k).loc=s.loc)(hq:∀k,∀s s':St,s.loc=s'.loc->(U ds s k).loc=(U ds s' k).loc):∀(L:List Nat) (s s':St),s.loc=s'.loc->(L.foldl (U ds) s).loc=((L.filter p).foldl (U ds) s').loc
 | [],s,s',h=>h
 | k::L,s,s',h=>by
  simp only [dV,gJ];cases hk:p k with
  | true=>simp only [aU,dV];exact sR ds p hp hq L _ _ (hq k s s' h)
  | false=>simp only [iH,bJ];exact sR ds p hp hq L _ _ (by rw [hp k hk];exact h)
theorem rM(ds:List Delta)(p:Nat->Bool)(hp:∀k,p k=false->∀s,(U ds s k).obj=s.obj)(hq:∀k,∀s s':St,s.obj=s'.obj->(U ds s k).obj=(U ds s' k).obj):∀(L:List Nat) (s s':St),s.obj=s'.obj->(L.foldl (U ds) s).obj=((L.filter p).foldl (U ds) s').obj
 | [],s,s',h=>h
 | k::L,s,s',h=>by
  simp only [dV,gJ];cases hk:p k with
  | true=>simp only [aU,dV];exact rM ds p hp hq L _ _ (hq k s s' h)
  | false=>simp only [iH,bJ];exact rM ds p hp hq L _ _ (by rw [hp k hk];exact h)
theorem Fa(ds:List Delta):∀(L:List Nat) (s:St),(L.foldl (U ds) s).n=s.n
 | [],_=>rfl
 | k::L,s=>by rw [dV,Fa ds L];rfl
theorem rZ(n j:Nat)(hj:j<=n)(p q:Nat->Bool)(h:∀k,k<n->p k=(decide (k<j) && q k)):(List.range n).filter p=(List.range j).filter q:=by
 have e:List.range n=List.range j++(List.range (n - j)).map (j+ ·):=by
  rw [<- List.range_add];congr 1;omega
 rw [e,eP];have h1:(List.range j).filter p=(List.range j).filter q:=iA fun k hk=>by
  rw [fH] at hk;rw [h k (by omega)];simp [hk]
 have h2:((List.range (n - j)).map (j+ ·)).filter p= []:=by
  rw [mQ];intro k hk;obtain⟨i,hi,rfl⟩:=aX.1 hk;rw [fH] at hi;rw [h _ (by omega)];have:¬(j+i<j):=by omega
  simp [this]
 rw [h1,h2,fZ]
theorem pM(n j:Nat)(hj:j<n)(p q:Nat->Bool)(h:∀k,k<n->p k=((decide (k<j) && q k) || decide (k=j))):(List.range n).filter p=(List.range j).filter q++ [j]:=by
 have:(List.range n).filter p=(List.range (j+1)).filter p:=rZ n (j+1) hj p p fun k hk=>by
  rw [h k hk];by_cases h1:k<j
  .simp [h1,show k<j+1 by omega]
  by_cases h2:k=j
  .simp [h2]
  simp [h1,h2]
 rw [this,yV,eP];congr 1
 .exact iA fun k hk=>by
   rw [fH] at hk;rw [h k (by omega)];simp [hk,show ¬k=j by omega]
 simp [h j hj]
structure DrawFacts(P:Program)(c:Cfg)(all:List Oper)(wt:Nat->Nat->Bool)(ops:List Oper)(ks:List DK)(st:St)(ds:List Delta):Prop where
 len:ks.length=ops.length
 dlen:ds.length=ops.length
 apart:∀(i j:Nat) (oi oj:Oper) (ki kj:DK),ops[i]?=some oi->ks[i]?=some ki->ops[j]?=some oj->ks[j]?=some kj->i<j->wt i j=false->(Cj c all oi ki).apart (Cj c all oj kj)=true
 step:∀(k:Nat) (o:Oper) (kk:DK),ops[k]?=some o->ks[k]?=some kk->∃s,ds[k]?=some (gC (vA c o.dst o.op kk) (pU kk) s)/\
   (aEt c o.dst o.op kk=true->∃J,s.obj=((ds.take k).foldl St.upd st).obj++J)/\
   (kk.isNd=false->∀st',AgreeD (yA c all o kk) (pU kk) (Hg c o.dst o.op kk) ((ds.take k).foldl St.upd st) st'->No P all o st' (· =st'.upd (gC (vA c o.dst o.op kk) (pU kk) s)))
theorem Th {k:DK} (ho:ops[i]?=some o)(hk:ks[i]?=some k):(fps c all ops ks)[i]?=some (Cj c all o k):=by
 simp only [fps,bW,dY];exact⟨(o,k),List.getElem?_zip_eq_some.2 ⟨ho,hk⟩,rfl⟩
structure Ord(all:List Oper)(π:List Nat):Prop where
 len:π.length=all.length
 all_:∀i,i<all.length->∃p:Nat,p<all.length/\π[p]?=some i
 nodup:π.Nodup
 lt_:∀i∈π,i<all.length
theorem Hv:∀ {l:List Nat},Mu l=true->l.Nodup
 | [],_=>Ab
 | a::l,h=>by
  simp only [Mu,fQ,lM] at h;exact iR.2 ⟨by simpa using h.1,Hv h.2⟩
theorem Ord.lt (h:Ord all π) {p:Nat} (hp:π[p]?=some i):i<all.length:=h.lt_ i (bA hp)
theorem Ord.of (h1:π.length=all.length)(h2:∀i,i<all.length->π.contains i=true)(h3:Mu π=true)(h4:∀i∈π,i<all.length):Ord all π:=
 ⟨h1,fun i hi=>by
  obtain⟨p,hp⟩:=oV.1 (by simpa using h2 i hi:i∈π);exact⟨p,by have:=(aM.1 hp).1;omega,hp⟩,Hv h3,h4⟩
theorem Gd {all:List Oper} :∀ {π:List Nat},(∀i∈π,i<all.length)->(dS π all).length=π.length/\∀p:Nat,(dS π all)[p]?=(π[p]?).bind (all[·]?)
 | [],_=>⟨rfl,fun p=>by simp [dS]⟩
 | i::π,h=>by
  obtain⟨h1,h2⟩:=Gd (π:=π) fun j hj=>h j (by simp [hj]);have hlt:=h i (by simp);have hi:all[i]?=some all[i]:=aQ hlt;have e:dS (i::π) all=all[i]::dS π all:=by simp [dS,hi]
  rw [e];refine⟨by simp [h1],fun p=>?_⟩;cases p with
  | zero=>simp [hi]
  | succ p=>simp [h2 p]
theorem Ord.get (h:Ord all π):(dS π all).length=all.length/\∀p:Nat,(dS π all)[p]?=(π[p]?).bind (all[·]?):=by
 have:=Gd (all:=all) (π:=π) fun i hi=>by
  obtain⟨p,hp⟩:=oV.1 hi;exact h.lt hp
 exact⟨by rw [this.1,h.len],this.2⟩
theorem Lx (hok:yS c all π ks=true)(hc:Chain P c all (dS π all) ks st ss e):
  Ord all π/\(∀(k:Nat) (o:Oper),all[k]?=some o->∀e∈o.after.toList,Region.binds .any e=true->e.on<k)/\DrawFacts P c all (fun i j=>pK all (π.getD i 0) (π.getD j 0)) (dS π all) ks st (dl c (dS π all) ks ss)/\e=(dl c (dS π all) ks ss).foldl St.upd st:=by
 obtain⟨h1,h2,h3⟩:=wC hc;unfold yS at hok;simp only [fQ] at hok;obtain⟨⟨⟨⟨g1,g2⟩,g3⟩,g0,g5,g6,g7⟩,g4⟩:=hok;have hord:Ord all π:=by
  rw [gF] at g5 g7;exact Ord.of (by simpa using g0) (fun i hi=>g5 i (fH.2 hi)) g6 fun i hi=>by simpa using g7 i hi
 refine⟨hord,fun k o ho e he hb=>?_,⟨by rw [hord.get.1];simpa using g1,h1,fun i j oi oj ki kj a1 a2 a3 a4 hij hw=>?_,h3⟩,h2⟩
 .rw [gF] at g3;have hm:(o,k)∈all.zipIdx:=oV.2 ⟨k,by simp [ho]⟩;have:=g3 _ hm;rw [gF] at this;have:=this e he;simpa [hb] using this
 rw [gF] at g4;have hmj:(Cj c all oj kj,j)∈(fps c all (dS π all) ks).zipIdx:=oV.2 ⟨j,by simp [Th a3 a4]⟩;have hmi:(Cj c all oi ki,i)∈(fps c all (dS π all) ks).zipIdx:=oV.2 ⟨i,by simp [Th a1 a2]⟩;have:=g4 _ hmj;rw [gF] at this;have:=this _ hmi;have e:(!decide (i<j))=false:=by simp [hij]
 rw [e,zL] at this;have hw':pK all (π.getD i 0) (π.getD j 0)=false:=hw;rw [hw',zL] at this;exact this
theorem jC {a b:FP} (h:a.apart b=true):(∀t,t∈a.ws->t∉b.ws/\t∉b.rs)/\(∀t,t∈b.ws->t∉a.rs)/\(a.f.wL=true->b.f.rL=false/\b.f.wL=false)/\(b.f.wL=true->a.f.rL=false)/\(a.f.wO=true->b.f.rO=false/\b.f.wO=false)/\(b.f.wO=true->a.f.rO=false\/(a.t=true/\b.a=true)):=by
 unfold FP.apart at h;simp only [fQ,gF,lM,Bool.and_eq_false_iff,Bool.or_eq_false_iff] at h;obtain⟨⟨⟨⟨⟨h1,h2⟩,h3⟩,h4⟩,h5⟩,h6⟩:=h;refine⟨fun t ht=>?_,fun t ht=>?_,fun hw=>?_,fun hw=>?_,fun hw=>?_,fun hw=>?_⟩
 .have:=h1 t ht;simpa using this
 .have:=h2 t ht;simpa using this
 .rcases h3 with h | h
  .rw [hw] at h;cases h
  exact h
 .rcases h4 with h | h
  .rw [hw] at h;cases h
  exact h
 .rcases h5 with h | h
  .rw [hw] at h;cases h
  exact h
 rcases h6 with (h | h) | h
 .rw [hw] at h;cases h
 .exact .inl h
 exact .inr (by simpa using h)
section
variable {wt:Nat->Nat->Bool}{ds:List Delta}
def kW(st:St)(ds:List Delta)(n:Nat)(E:Nat->Bool):St:=((List.range n).filter E).foldl (U ds) st
def iJ(c:Cfg)(all ops:List Oper)(ks:List DK)(k:Nat):FP:=((fps c all ops ks)[k]?).getD ⟨[], [],⟨false,false,false,false⟩,false,false⟩
theorem DrawFacts.at(h:DrawFacts P c all wt ops ks st ds) {k:Nat} (hk:k<ops.length):∃o kk s,ops[k]?=some o/\ks[k]?=some kk/\iJ c all ops ks k=Cj c all o kk/\ds[k]?=some (gC (vA c o.dst o.op kk) (pU kk) s)/\
  (aEt c o.dst o.op kk=true->∃J,s.obj=((ds.take k).foldl St.upd st).obj++J)/\
  (kk.isNd=false->∀st',AgreeD (yA c all o kk) (pU kk) (Hg c o.dst o.op kk) ((ds.take k).foldl St.upd st) st'->No P all o st' (· =st'.upd (gC (vA c o.dst o.op kk) (pU kk) s))):=by
 have ho:ops[k]?=some ops[k]:=aQ hk;have hk2:k<ks.length:=by rw [h.len];exact hk
 have hkk:ks[k]?=some ks[k]:=aQ hk2;obtain⟨s,h1,h0,h2⟩:=h.step k _ _ ho hkk;exact⟨_,_,s,ho,hkk,by simp [iJ,Th ho hkk],h1,h0,h2⟩
theorem DrawFacts.sep(h:DrawFacts P c all wt ops ks st ds) (hij:i<j)(hj:j<ops.length)(hw:wt i j=false):(iJ c all ops ks i).apart (iJ c all ops ks j)=true:=by
 obtain⟨oi,ki,_,a1,a2,a3,_⟩:=h.at (show i<ops.length by omega);obtain⟨oj,kj,_,b1,b2,b3,_⟩:=h.at hj;rw [a3,b3];exact h.apart i j oi oj ki kj a1 a2 b1 b2 hij hw
theorem DrawFacts.env(h:DrawFacts P c all wt ops ks st ds)(t k:Nat):((iJ c all ops ks k).ws.contains t=false->∀s,(U ds s k).env t=s.env t)/\(∀s s':St,s.env t=s'.env t->(U ds s k).env t=(U ds s' k).env t):=by
 by_cases hk:k<ops.length
 .obtain⟨o,kk,s0,a1,a2,a3,a4,_⟩:=h.at hk;have e:∀s:St,(U ds s k).env t=if t∈vA c o.dst o.op kk then s0.env t else s.env t:=fun s=>by
   simp only [U,List.getD,a4,fK];exact uM _ _ _ _ _
  refine⟨fun hc s=>?_,fun s s' hs=>?_⟩
  .rw [a3] at hc;have:t∉vA c o.dst o.op kk:=by simpa [Cj] using hc
   rw [e,aC this]
  rw [e,e,hs]
 have:∀s:St,U ds s k=s:=fun s=>by
  simp only [U,List.getD,iZ (show ds.length<=k by rw [h.dlen];omega),Fb];rfl
 exact⟨fun _ s=>by rw [this],fun s s' hs=>by rw [this,this];exact hs⟩
theorem DrawFacts.loc(h:DrawFacts P c all wt ops ks st ds)(k:Nat):((iJ c all ops ks k).f.wL=false->∀s,(U ds s k).loc=s.loc)/\(∀s s':St,s.loc=s'.loc->(U ds s k).loc=(U ds s' k).loc):=by
 by_cases hk:k<ops.length
 .obtain⟨o,kk,s0,a1,a2,a3,a4,_⟩:=h.at hk;have e:∀s:St,(U ds s k).loc=if(pU kk).wL then s0.loc else s.loc:=fun s=>by
   simp only [U,List.getD,a4,fK,St.upd,gC];split <;> rfl
  refine⟨fun hc s=>?_,fun s s' hs=>?_⟩
  .rw [a3] at hc;rw [e,aC (by simpa [Cj] using hc)]
  rw [e,e,hs]
 have:∀s:St,U ds s k=s:=fun s=>by
  simp only [U,List.getD,iZ (show ds.length<=k by rw [h.dlen];omega),Fb];rfl
 exact⟨fun _ s=>by rw [this],fun s s' hs=>by rw [this,this];exact hs⟩
theorem DrawFacts.obj(h:DrawFacts P c all wt ops ks st ds)(k:Nat):((iJ c all ops ks k).f.wO=false->∀s,(U ds s k).obj=s.obj)/\(∀s s':St,s.obj=s'.obj->(U ds s k).obj=(U ds s' k).obj):=by
 by_cases hk:k<ops.length
 .obtain⟨o,kk,s0,a1,a2,a3,a4,_⟩:=h.at hk;have e:∀s:St,(U ds s k).obj=if(pU kk).wO then s0.obj else s.obj:=fun s=>by
   simp only [U,List.getD,a4,fK,St.upd,gC];split <;> rfl
  refine⟨fun hc s=>?_,fun s s' hs=>?_⟩
  .rw [a3] at hc;rw [e,aC (by simpa [Cj] using hc)]
  rw [e,e,hs]
 have:∀s:St,U ds s k=s:=fun s=>by
  simp only [U,List.getD,iZ (show ds.length<=k by rw [h.dlen];omega),Fb];rfl
 exact⟨fun _ s=>by rw [this],fun s s' hs=>by rw [this,this];exact hs⟩
def pL(wt:Nat->Nat->Bool)(E:Nat->Bool):Prop:=∀i j,E j=true->wt i j=true->E i=true
theorem DrawFacts.seen(h:DrawFacts P c all wt ops ks st ds) (hE:pL wt E) (hj:j<ops.length)(hnj:E j=false)(hready:∀i,wt i j=true->E i=true)(q:Nat->Bool)
  (hq:∀k,k<ops.length->k≠j->q k=true->(k<j->(iJ c all ops ks k).apart (iJ c all ops ks j)=false)/\(j<k->(iJ c all ops ks j).apart (iJ c all ops ks k)=false)):
  ∀k,k<ops.length->(E k && q k)=(decide (k<j) && q k):=by
 intro k hk;cases hqk:q k with
 | false=>simp
 | true =>
  simp only [Bool.and_true];by_cases hkj:k=j
  .subst hkj;simp [hnj]
  obtain⟨h1,h2⟩:=hq k hk hkj hqk;by_cases hlt:k<j
  .have:wt k j=true:=by
    cases hw:wt k j with
    | true=>rfl
    | false=>have:=h.sep hlt hj hw;rw [h1 hlt] at this;cases this
   simp [hlt,hready k this]
  have hgt:j<k:=by omega
  have hw:wt j k=true:=by
   cases hw:wt j k with
   | true=>rfl
   | false=>have:=h.sep hgt hk hw;rw [h2 hgt] at this;cases this
  cases hek:E k with
  | false=>simp [hlt]
  | true=>have:=hE j k hek hw;rw [hnj] at this;cases this
theorem mP {a b:FP} (h:¬(a.apart b=true)):a.apart b=false:=by simpa using h
theorem DrawFacts.env_seen(h:DrawFacts P c all wt ops ks st ds) (hE:pL wt E) (hj:j<ops.length)(hnj:E j=false)(hready:∀i,wt i j=true->E i=true) {t:Nat} (ht:t∈(iJ c all ops ks j).rs)(hws:t∈(iJ c all ops ks j).ws->t∈(iJ c all ops ks j).rs):
  ∀k,k<ops.length->(E k && (iJ c all ops ks k).ws.contains t)=(decide (k<j) && (iJ c all ops ks k).ws.contains t):=by
 refine h.seen hE hj hnj hready (fun k=>(iJ c all ops ks k).ws.contains t) fun k hk hkj hq=>?_;have hm:t∈(iJ c all ops ks k).ws:=by simpa using hq
 refine⟨fun _=>mP fun ha=>?_,fun _=>mP fun ha=>?_⟩
 .exact((jC ha).1 t hm).2 ht
 exact(jC ha).2.1 t hm ht
theorem DrawFacts.obj_pre(h:DrawFacts P c all wt ops ks st ds) (hE:pL wt E) (hj:j<ops.length)(hnj:E j=false)(hready:∀i,wt i j=true->E i=true)(hl:(iJ c all ops ks j).f.rO=true):∃J,(kW st ds ops.length E).obj=((ds.take j).foldl St.upd st).obj++J:=by
 have hdl:=h.dlen
 let W:Nat->Bool:=fun k=>(iJ c all ops ks k).f.wO
 have fold:∀(L:List Nat),(L.foldl (U ds) st).obj=((L.filter W).foldl (U ds) st).obj:=fun L=>rM ds W (fun k=>(h.obj k).1) (fun k=>(h.obj k).2) L st st rfl
 -- who writes and pK for nobody outside E
 have below:∀m,m<ops.length->(m=j\/(E m=true/\W m=true))->∀k,k<m->W k=true->E k=true:=by
  intro m hm hc k hk hw;rcases hc with rfl | ⟨he,hwm⟩
  .cases hwt:wt k m with
   | true=>exact hready k hwt
   | false=>have:=((jC (h.sep hk hm hwt)).2.2.2.2.1 hw).1;rw [hl] at this;cases this
  cases hwt:wt k m with
  | true=>exact hE k m he hwt
  | false=>have:=((jC (h.sep hk hm hwt)).2.2.2.2.1 hw).2;rw [show(iJ c all ops ks m).f.wO=true from hwm] at this;cases this
 have chain:∀m,m<ops.length->(m=j\/(E m=true/\W m=true))->(((List.range m).filter E).foldl (U ds) st).obj=((ds.take m).foldl St.upd st).obj:=by
  intro m hm hc;rw [<- nL ds st m (by omega),fold,fold (List.range m),iT];congr 2;refine iA fun k hk=>?_;rw [fH] at hk;cases hw:W k with
  | false=>simp
  | true=>simp [below m hm hc k hk hw]
 have go : ∀ n, j + n <= ops.length -> ∃ J, (((List.range (j + n)).filter E).foldl (U ds) st).obj = ((ds.take j).foldl St.upd st).obj ++ J := by
  intro n;induction n with
  | zero=>intro _;exact⟨[],by rw [jP,chain j hj (.inl rfl),fZ]⟩
  | succ n ih =>
   intro hn;obtain⟨J,hJ⟩:=ih (by omega);rw [show j+(n+1)=j+n+1 by omega,yV,eP,lH];cases he:E (j+n)with
   | false=>simp only [gJ,he,mI,qU];exact⟨J,hJ⟩
   | true =>
    simp only [gJ,he,mI,aU,dV,qU];have hne:n≠0:=by rintro rfl;rw [jP,hnj] at he;cases he
    cases hw:W (j+n)with
    | false=>rw [(h.obj (j+n)).1 hw];exact⟨J,hJ⟩
    | true =>
     have hap:(iJ c all ops ks j).apart (iJ c all ops ks (j+n))=true:=by
      cases hwt:wt j (j+n)with
      | true=>have:=hE j (j+n) he hwt;rw [hnj] at this;cases this
      | false=>exact h.sep (by omega) (by omega) hwt
     have ha:(iJ c all ops ks (j+n)).a=true:=by
      rcases(jC hap).2.2.2.2.2 hw with e | e
      .rw [hl] at e;cases e
      exact e.2
     obtain⟨o,kk,s0,a1,a2,a3,a4,a0,_⟩:=h.at (show j+n<ops.length by omega);rw [a3] at ha;obtain⟨J',hJ'⟩:=a0 ha;have hwk:(pU kk).wO=true:=by have:=hw;simp only [W,a3,Cj] at this;exact this
     have e:∀s:St,(U ds s (j+n)).obj=s0.obj:=fun s=>by
      simp only [U,List.getD,a4,fK,St.upd,gC,hwk,aU]
     rw [e,hJ',<- chain (j+n) (by omega) (.inr ⟨he,hw⟩),hJ];exact⟨J++J',by rw [bM]⟩
 obtain⟨J,hJ⟩:=go (ops.length - j) (by omega);rw [show j+(ops.length - j)=ops.length by omega] at hJ;exact⟨J,hJ⟩
theorem DrawFacts.agree(h:DrawFacts P c all wt ops ks st ds) (hE:pL wt E) (hj:j<ops.length)(hnj:E j=false)(hready:∀i,wt i j=true->E i=true):AgreeD (iJ c all ops ks j).rs (iJ c all ops ks j).f (iJ c all ops ks j).t ((ds.take j).foldl St.upd st) (kW st ds ops.length E):=by
 have hdl:=h.dlen;refine⟨?_,fun t ht=>?_,fun hl=>?_,fun hl=>?_⟩
 .rw [<- nL ds st j (by omega)];unfold kW;rw [Fa,Fa]
 .rw [<- nL ds st j (by omega)];unfold kW;rw [tE ds (fun k=>(iJ c all ops ks k).ws.contains t) t (fun k=>(h.env t k).1) (fun k=>(h.env t k).2) ((List.range ops.length).filter E) st st rfl,
   tE ds (fun k=>(iJ c all ops ks k).ws.contains t) t (fun k=>(h.env t k).1) (fun k=>(h.env t k).2) (List.range j) st st rfl,iT]
  rw [rZ ops.length j (by omega) _ (fun k=>(iJ c all ops ks k).ws.contains t)];intro k hk;rw [qP];exact h.env_seen hE hj hnj hready ht (fun _=>ht) k hk
 .rw [<- nL ds st j (by omega)];unfold kW;rw [sR ds (fun k=>(iJ c all ops ks k).f.wL) (fun k=>(h.loc k).1) (fun k=>(h.loc k).2) ((List.range ops.length).filter E) st st rfl,
   sR ds (fun k=>(iJ c all ops ks k).f.wL) (fun k=>(h.loc k).1) (fun k=>(h.loc k).2) (List.range j) st st rfl,iT]
  rw [rZ ops.length j (by omega) _ (fun k=>(iJ c all ops ks k).f.wL)];intro k hk;rw [qP];refine h.seen hE hj hnj hready (fun k=>(iJ c all ops ks k).f.wL) (fun k hk hkj hq=>⟨fun _=>mP fun ha=>?_,fun _=>mP fun ha=>?_⟩) k hk
  .have:=((jC ha).2.2.1 hq).1;rw [hl] at this;cases this
  have:=(jC ha).2.2.2.1 hq;rw [hl] at this;cases this
 refine⟨fun ht=>?_,h.obj_pre hE hj hnj hready hl⟩;rw [<- nL ds st j (by omega)];unfold kW;rw [rM ds (fun k=>(iJ c all ops ks k).f.wO) (fun k=>(h.obj k).1) (fun k=>(h.obj k).2) ((List.range ops.length).filter E) st st rfl,
  rM ds (fun k=>(iJ c all ops ks k).f.wO) (fun k=>(h.obj k).1) (fun k=>(h.obj k).2) (List.range j) st st rfl,iT]
 rw [rZ ops.length j (by omega) _ (fun k=>(iJ c all ops ks k).f.wO)];intro k hk;rw [qP];refine h.seen hE hj hnj hready (fun k=>(iJ c all ops ks k).f.wO) (fun k hk hkj hq=>⟨fun _=>mP fun ha=>?_,fun _=>mP fun ha=>?_⟩) k hk
 .have:=((jC ha).2.2.2.2.1 hq).1;rw [hl] at this;cases this
 rcases(jC ha).2.2.2.2.2 hq with this | ⟨this,_⟩
 .rw [hl] at this;cases this
 rw [ht] at this;cases this
theorem DrawFacts.next(h:DrawFacts P c all wt ops ks st ds) (hE:pL wt E) (hj:j<ops.length)(hnj:E j=false)(hready:∀i,wt i j=true->E i=true):
  kW st ds ops.length (fun k=>E k || decide (k=j))=U ds (kW st ds ops.length E) j:=by
 obtain⟨o,kk,s0,a1,a2,a3,a4,_,a5⟩:=h.at hj;have hwsrs:∀t,t∈(iJ c all ops ks j).ws->t∈(iJ c all ops ks j).rs:=fun t ht=>by
  rw [a3] at ht |-;simp only [Cj,yA] at ht |-;simp [ht]
 have eU:∀s:St,U ds s j=s.upd (gC (vA c o.dst o.op kk) (pU kk) s0):=fun s=>by simp only [U,List.getD,a4,fK]
 refine St.ext' ?_ (fun t=>?_) ?_ ?_
 .rw [eU];unfold kW;rw [Fa];show _=((List.range ops.length).filter E |>.foldl (U ds) st).n;rw [Fa]
 .by_cases ht:t∈(iJ c all ops ks j).ws
  .have lhs:(kW st ds ops.length (fun k=>E k || decide (k=j))).env t=s0.env t:=by
    unfold kW;rw [tE ds (fun k=>(iJ c all ops ks k).ws.contains t) t (fun k=>(h.env t k).1) (fun k=>(h.env t k).2) _ st st rfl,iT];rw [pM ops.length j hj _ (fun k=>(iJ c all ops ks k).ws.contains t)]
    .rw [lH,dV,qU,eU,uM];rw [a3] at ht;exact aI ht
    intro k hk;have hs:=h.env_seen hE hj hnj hready (hwsrs t ht) (hwsrs t) k hk;by_cases hkj:k=j
    .subst hkj;simp [ht]
    simp only [hkj,zU,uR];rw [qP];exact hs
   rw [lhs,eU,uM];rw [a3] at ht;exact(aI ht).symm
  have hc:(iJ c all ops ks j).ws.contains t=false:=by simpa using ht
  rw [(h.env t j).1 hc];unfold kW;rw [tE ds (fun k=>(iJ c all ops ks k).ws.contains t) t (fun k=>(h.env t k).1) (fun k=>(h.env t k).2) ((List.range ops.length).filter E) st st rfl,
   tE ds (fun k=>(iJ c all ops ks k).ws.contains t) t (fun k=>(h.env t k).1) (fun k=>(h.env t k).2) _ st st rfl,iT,iT]
  congr 2;refine iA fun k _=>?_;by_cases hkj:k=j
  .subst hkj;simp [ht]
  simp [hkj]
 .cases hl:(iJ c all ops ks j).f.wL with
  | true =>
   have lhs:(kW st ds ops.length (fun k=>E k || decide (k=j))).loc=(U ds ((List.range j).filter (fun k=>(iJ c all ops ks k).f.wL) |>.foldl (U ds) st) j).loc:=by
    unfold kW;rw [sR ds (fun k=>(iJ c all ops ks k).f.wL) (fun k=>(h.loc k).1) (fun k=>(h.loc k).2) _ st st rfl,iT];rw [pM ops.length j hj _ (fun k=>(iJ c all ops ks k).f.wL)]
    .rw [lH,dV,qU]
    intro k hk;by_cases hkj:k=j
    .subst hkj;simp [hl]
    simp only [hkj,zU,uR];rw [qP];refine h.seen hE hj hnj hready (fun k=>(iJ c all ops ks k).f.wL) (fun k hk hkj hq=>⟨fun _=>mP fun ha=>?_,fun _=>mP fun ha=>?_⟩) k hk
    .have:=((jC ha).2.2.1 hq).2;rw [hl] at this;cases this
    have:=((jC ha).2.2.1 hl).2;rw [hq] at this;cases this
   rw [lhs,eU,eU];rw [a3] at hl;simp only [Cj] at hl;simp [St.upd,gC,hl]
  | false =>
   rw [(h.loc j).1 hl];unfold kW;rw [sR ds (fun k=>(iJ c all ops ks k).f.wL) (fun k=>(h.loc k).1) (fun k=>(h.loc k).2) ((List.range ops.length).filter E) st st rfl,
    sR ds (fun k=>(iJ c all ops ks k).f.wL) (fun k=>(h.loc k).1) (fun k=>(h.loc k).2) _ st st rfl,iT,iT]
   congr 2;refine iA fun k _=>?_;by_cases hkj:k=j
   .subst hkj;simp [hl]
   simp [hkj]
 cases hl:(iJ c all ops ks j).f.wO with
 | true =>
  have lhs:(kW st ds ops.length (fun k=>E k || decide (k=j))).obj=(U ds ((List.range j).filter (fun k=>(iJ c all ops ks k).f.wO) |>.foldl (U ds) st) j).obj:=by
   unfold kW;rw [rM ds (fun k=>(iJ c all ops ks k).f.wO) (fun k=>(h.obj k).1) (fun k=>(h.obj k).2) _ st st rfl,iT];rw [pM ops.length j hj _ (fun k=>(iJ c all ops ks k).f.wO)]
   .rw [lH,dV,qU]
   intro k hk;by_cases hkj:k=j
   .subst hkj;simp [hl]
   simp only [hkj,zU,uR];rw [qP];refine h.seen hE hj hnj hready (fun k=>(iJ c all ops ks k).f.wO) (fun k hk hkj hq=>⟨fun _=>mP fun ha=>?_,fun _=>mP fun ha=>?_⟩) k hk
   .have:=((jC ha).2.2.2.2.1 hq).2;rw [hl] at this;cases this
   have:=((jC ha).2.2.2.2.1 hl).2;rw [hq] at this;cases this
  rw [lhs,eU,eU];rw [a3] at hl;simp only [Cj] at hl;simp [St.upd,gC,hl]
 | false =>
  rw [(h.obj j).1 hl];unfold kW;rw [rM ds (fun k=>(iJ c all ops ks k).f.wO) (fun k=>(h.obj k).1) (fun k=>(h.obj k).2) ((List.range ops.length).filter E) st st rfl,
   rM ds (fun k=>(iJ c all ops ks k).f.wO) (fun k=>(h.obj k).1) (fun k=>(h.obj k).2) _ st st rfl,iT,iT]
  congr 2;refine iA fun k _=>?_;by_cases hkj:k=j
  .subst hkj;simp [hl]
  simp [hkj]
theorem uQ :i∈Region.ready .any ops.toArray listed↔∃o,ops[i]?=some o/\listed.getD i true=false/\∀e∈o.after.toList,Region.binds .any e=true->listed.getD e.on false=true:=by
 unfold Region.ready;simp only [cY,fH,fT,fQ,lM,gK];constructor
 .rintro⟨h1,h2,h3⟩;rw [aQ h1] at h3;simp only [gL,fK] at h3;refine⟨_,aQ h1,h2,fun e he hb=>?_⟩;rw [Array.all_eq_true'] at h3;have:=h3 e (by simpa using he);simpa [hb] using this
 rintro⟨o,h1,h2,h3⟩;refine⟨(aM.1 h1).1,h2,?_⟩;rw [h1];simp only [gL,fK];rw [Array.all_eq_true'];intro e he;cases hb:Region.binds .any e with
 | false=>simp
 | true=>simp [h3 e (by simpa using he) hb]
def EP(π:List Nat)(listed:Array Bool)(p:Nat):Bool:=listed.getD (π.getD p 0) false
abbrev wtO(all:List Oper)(π:List Nat)(i j:Nat):Bool:=pK all (π.getD i 0) (π.getD j 0)
theorem uO (hE:pL (pK all) (fun k=>listed.getD k false)):pL (wtO all π) (EP π listed):=fun i j h1 h2=>hE _ _ h1 h2
theorem Dh (hE:pL (pK all) (fun k=>listed.getD k false)) (ho:all[j]?=some o)(hr:∀e∈o.after.toList,Region.binds .any e=true->listed.getD e.on false=true):∀i,pK all i j=true->listed.getD i false=true:=by
 intro i hw;obtain⟨e,he,hb,h1⟩:=Zy ho hw;rcases h1 with rfl | ⟨_,h1⟩
 .exact hr e he hb
 exact hE i e.on (hr e he hb) h1
theorem By {E':Nat->Bool} (h:∀k,k<n->E k=E' k):kW st ds n E=kW st ds n E':=by
 unfold kW;rw [iA fun k hk=>h k (fH.1 hk)]
theorem Bh (hsz:listed.size=n)(hlt:i<n)(k:Nat):(listed.setIfInBounds i true).getD k false=(listed.getD k false || decide (k=i)):=by
 simp only [kB,Ps];by_cases hk:i=k
 .subst hk;simp [hsz,hlt]
 have:¬k=i:=fun e=>hk e.symm;simp [hk,this]
theorem Bk (hsz:listed.size=all.length)(hlt:i<all.length)(hE:pL (pK all) (fun k=>listed.getD k false))(hrd:∀j,pK all j i=true->listed.getD j false=true):pL (pK all) (fun k=>(listed.setIfInBounds i true).getD k false):=by
 intro a b hb hw;simp only [Bh hsz hlt,Fo,eO] at hb |-;rcases hb with hb | rfl
 .exact .inl (hE a b hb hw)
 exact .inl (hrd a hw)
theorem Gr {fuel:Nat} (hsz:listed.size=n)(hlt:i<n)(hni:listed.getD i false=false)(hc:((List.range n).filter fun k=> !listed.getD k false).length=fuel+1):((List.range n).filter fun k=> !(listed.setIfInBounds i true).getD k false).length=fuel:=by
 have e1:((List.range n).filter fun k=> !(listed.setIfInBounds i true).getD k false)=((List.range n).filter fun k=> !listed.getD k false).filter (fun k=>decide (k≠i)):=by
  rw [iT];refine iA fun k _=>?_;rw [Bh hsz hlt];cases listed.getD k false <;> simp
 rw [e1];have hnd:((List.range n).filter fun k=> !listed.getD k false).Nodup:=List.Pairwise.filter _ List.nodup_range;have hmem:i∈((List.range n).filter fun k=> !listed.getD k false):=by
  rw [cY,fH];exact⟨hlt,by simp [hni]⟩
 have:((List.range n).filter fun k=> !listed.getD k false).filter (fun k=>decide (k≠i))=((List.range n).filter fun k=> !listed.getD k false).erase i:=by
  rw [List.Nodup.erase_eq_filter hnd];refine iA fun k _=>?_;simp [bne];cases hk:decide (k=i) <;> simp_all
 rw [this,Pm hmem,hc];rfl
theorem Jx (hedge:∀(k:Nat) (o:Oper),all[k]?=some o->∀e∈o.after.toList,Region.binds .any e=true->e.on<k)(hsz:listed.size=all.length)(hne:((List.range all.length).filter fun k=> !listed.getD k false)≠ []):∃i,i∈Region.ready .any all.toArray listed:=by
 obtain⟨k,hk⟩:=List.exists_mem_of_ne_nil _ hne;have least:∀m k,k<=m->k∈((List.range all.length).filter fun k=> !listed.getD k false)->∃i,i∈Region.ready .any all.toArray listed:=by
  intro m;induction m with
  | zero=>
   intro k hkm hk;have hk0:k=0:=by omega
   subst hk0;rw [cY,fH] at hk;have ho:=aQ hk.1;refine⟨0,uQ.2 ⟨_,ho,?_,fun e he hb=>?_⟩⟩
   .have hs:listed[0]?=some listed[0]:=bO (by omega);have:=hk.2;simp [kB,hs] at this |-;exact this
   have:=hedge 0 _ ho e he hb;omega
  | succ m ihm =>
   intro k hkm hk;rw [cY,fH] at hk;have ho:=aQ hk.1;by_cases hall:∀e∈all[k].after.toList,Region.binds .any e=true->listed.getD e.on false=true
   .refine⟨k,uQ.2 ⟨_,ho,?_,hall⟩⟩;have hs:listed[k]?=some listed[k]:=bO (by omega);have:=hk.2;simp [kB,hs] at this |-;exact this
   have:∃e,e∈all[k].after.toList/\Region.binds .any e=true/\listed.getD e.on false≠true:=by
    refine Fz fun hno=>hall fun e he hb=>Fz fun hn=>hno ⟨e,he,hb,hn⟩
   obtain⟨e,he,hb,hl⟩:=this;have hlt:=hedge k _ ho e he hb;refine ihm e.on (by omega) ?_;rw [cY,fH];exact⟨by omega,by simpa using hl⟩
 exact least k k (aV _) hk
theorem aT9(l:List Delta)(s:St):(l.foldl St.upd s).n=s.n:=by
 induction l generalizing s with
 | nil=>rfl
 | cons d l ih=>rw [dV,ih];rfl
theorem Hf(n:Nat)(E:Nat->Bool):(kW st ds n E).n=st.n:=by unfold kW;rw [Fa]
theorem Mp {fuel:Nat} {w:World} {g:Gh} {tmps:Array Value} {S:St} {K:St->Prop} (h1:all[i]?=some o)(hf:FrM dfs w0 g0 w g)(hok:Ok w g S (cL tmps))(hn:tmps.size=S.n)(hgo:No P all o S K)
  (hnext:∀(w':World) (g':Gh) (tmps':Array Value) (S':St),K S'->FrM dfs w0 g0 w' g'->Ok w' g' S' (cL tmps')->tmps'.size=S'.n->wpAnyIn (fR ro) 0 P .any all.toArray (Cf dfs w0 g0 Q) fuel (listed.setIfInBounds i true) ⟨tmps',dfs⟩ w'):
  wpOpIn (fR ro) 0 P all.toArray (Cf dfs w0 g0 Q) i (wpAnyIn (fR ro) 0 P .any all.toArray (Cf dfs w0 g0 Q) fuel (listed.setIfInBounds i true)) ⟨tmps,dfs⟩ w:=by
 have hgo:=hgo w g tmps hok hn;unfold wpOpIn;simp only [gK,h1];split
 .rename_i hw;refine Oper.wpIn_mono (fun a w'=>?_) (aSr (K:=fun tmps' w'=>∃st' g',K st'/\Fr w g w' g'/\Ok w' g' st' (cL tmps')/\tmps'.size=st'.n) dfs (hgo.1 hw));rintro⟨hdf,st',g',hk,hf',hok',hn'⟩;obtain⟨tmps',dfs'⟩:=a;simp only at hdf;rw [hdf];exact hnext w' g' tmps' st' hk (hf.trans hf') hok' hn'
 rename_i hw;obtain⟨st',g',hk,hf',hok',hn'⟩:=hgo.2 (by simpa using hw);refine⟨fun _ _=>trivial,?_⟩;have hds:=sS ⟨tmps,dfs⟩ o.dst undef;have hsz2:=xI ⟨tmps,dfs⟩ o.dst undef;have hok2:Ok w g' st' (cL ((⟨tmps,dfs⟩:Act).put o.dst undef).tmps):=by
  have:((⟨tmps,dfs⟩:Act).put o.dst undef).tmps=((⟨tmps, []⟩:Act).put o.dst undef).tmps:=by cases o.dst <;> rfl
  rw [this];exact hok'
 generalize hA:(⟨tmps,dfs⟩:Act).put o.dst undef=A at *;obtain⟨tmps',dfs'⟩:=A;simp only at hds hsz2 hok2;rw [hds];exact hnext w g' tmps' st' hk (hf.trans hf') hok2 (by rw [hsz2];exact hn')
section
theorem Ord.place(ho:Ord all π) (h1:all[i]?=some o):∃p:Nat,p<(dS π all).length/\π[p]?=some i/\π.getD p 0=i/\(dS π all)[p]?=some o/\∀q,q<(dS π all).length->(π.getD q 0=i↔q=p):=by
 have hlt:=(aM.1 h1).1;obtain⟨p,p1,p2⟩:=ho.all_ i hlt;have hpl:∀q,q<(dS π all).length->∃y,π[q]?=some y:=fun q hq=>⟨_,aQ (by rw [ho.len];rw [ho.get.1] at hq;exact hq)⟩;refine⟨p,by rw [ho.get.1];exact p1,p2,by simp [List.getD,p2],by rw [ho.get.2,p2];exact h1,fun q hq=>⟨fun e=>?_,fun e=>by rw [e];simp [List.getD,p2]⟩⟩;obtain⟨y,hy⟩:=hpl q hq;have e':y=i:=by simpa [List.getD,hy] using e
 subst e';exact(List.getElem?_inj (by rw [ho.len];rw [ho.get.1] at hq;exact hq) ho.nodup).1 (hy.trans p2.symm)
theorem Fh(ho:Ord all π) (hsz:listed.size=all.length) {p:Nat} (hlt:i<all.length)(hp:∀q,q<(dS π all).length->(π.getD q 0=i↔q=p))(q:Nat)(hq:q<(dS π all).length):EP π (listed.setIfInBounds i true) q=(EP π listed q || decide (q=p)):=by
 unfold EP;rw [Bh hsz hlt];congr 1;have:=hp q hq;by_cases h:q=p
 .simp [h,this.2 h] at this |-;exact this
 have:¬π.getD q 0=i:=fun e=>h (this.1 e);rw [decide_eq_false this,decide_eq_false h]
theorem Wy (hord:Ord all π)(hedge:∀(k:Nat) (o:Oper),all[k]?=some o->∀e∈o.after.toList,Region.binds .any e=true->e.on<k)(h:DrawFacts P c all (wtO all π) (dS π all) ks st ds) (hQ:Q .normal (ds.foldl St.upd st)):∀(fuel:Nat) (listed:Array Bool) (w:World) (g:Gh) (tmps:Array Value),listed.size=all.length->pL (pK all) (fun k=>listed.getD k false)->
  (∀(p:Nat) (k:DK),ks[p]?=some k->k.isNd=true->EP π listed p=true)->((List.range all.length).filter fun k=> !listed.getD k false).length=fuel->FrM dfs w0 g0 w g->Ok w g (kW st ds (dS π all).length (EP π listed)) (cL tmps)->tmps.size=st.n->wpAnyIn (fR ro) 0 P .any all.toArray (Cf dfs w0 g0 Q) fuel listed ⟨tmps,dfs⟩ w:=by
 have ends:∀(listed:Array Bool) (w:World) (g:Gh) (tmps:Array Value),listed.size=all.length->((List.range all.length).filter fun k=> !listed.getD k false)= []->FrM dfs w0 g0 w g->Ok w g (kW st ds (dS π all).length (EP π listed)) (cL tmps)->tmps.size=st.n->Cf dfs w0 g0 Q .normal ⟨tmps,dfs⟩ w:=by
  intro listed w g tmps hsz hnil hf hok hn;have e:kW st ds (dS π all).length (EP π listed)=ds.foldl St.upd st:=by
   unfold kW;have:(List.range (dS π all).length).filter (EP π listed)=List.range (dS π all).length:=by
    rw [lT];intro k hk;rw [fH,hord.get.1] at hk;rw [mQ] at hnil;have hkp:k<π.length:=by rw [hord.len];exact hk
    have hy:π[k]?=some π[k]:=aQ hkp;have:=hnil π[k] (fH.2 (hord.lt hy));unfold EP;simp only [List.getD,hy,fK];simpa using this
   rw [this,nL ds st _ (by rw [h.dlen];exact aV _),<- h.dlen,eH]
  rw [e] at hok;exact⟨fun _=>rfl,_,g,hQ,hf,hok,by rw [aT9];exact hn⟩
 intro fuel;induction fuel with
 | zero=>
  intro listed w g tmps hsz hE hnds hc hf hok hn;have hnil:=lS hc;refine⟨?_,ends listed w g tmps hsz hnil hf hok hn⟩;rw [Pi];intro i hi;rw [uQ] at hi;obtain⟨o,h1,h2,h3⟩:=hi;have hlt:=(aM.1 h1).1;rw [mQ] at hnil;have:=hnil i (by simpa using hlt);have hs:listed[i]?=some listed[i]:=bO (by omega);simp [kB,hs] at this h2;rw [this] at h2;cases h2
 | succ fuel ih =>
  intro listed w g tmps hsz hE hnds hc hf hok hn;refine⟨fun hnil=>?_,fun i hi=>?_⟩
  .exfalso;have hne:((List.range all.length).filter fun k=> !listed.getD k false)≠ []:=by intro e;rw [e] at hc;simp at hc
   obtain⟨i,hi⟩:=Jx hedge hsz hne;rw [hnil] at hi;cases hi
  rw [uQ] at hi;obtain⟨o,h1,h2,h3⟩:=hi;have hlt:=(aM.1 h1).1;have hs:listed[i]?=some listed[i]:=bO (by omega);have hni:listed.getD i false=false:=by simp [kB,hs] at h2 |-;exact h2
  have hrd:=Dh hE h1 h3;obtain⟨p,p1,p2,p3,p4,p5⟩:=hord.place h1;have hnp:EP π listed p=false:=by unfold EP;rw [p3];exact hni
  have hrp:∀q,wtO all π q p=true->EP π listed q=true:=fun q hq=>hrd _ (by rw [<- p3];exact hq);obtain⟨o',kk,s0,a1,a2,a3,a4,_,a5⟩:=h.at p1;rw [p4] at a1;simp at a1;subst a1;have hkn:kk.isNd=false:=by
   cases hk:kk.isNd with
   | false=>rfl
   | true=>have:=hnds p kk a2 hk;rw [hnp] at this;cases this
  have hag:=h.agree (uO hE) p1 hnp hrp;rw [a3] at hag;have hnext:=h.next (uO hE) p1 hnp hrp;refine Mp h1 hf hok (by rw [hn,Hf]) (a5 hkn _ hag) ?_;rintro w' g' tmps' S' rfl hf' hok' hn';have hUd:U ds (kW st ds (dS π all).length (EP π listed)) p=(kW st ds (dS π all).length (EP π listed)).upd (gC (vA c o.dst o.op kk) (pU kk) s0):=by
   simp only [U,List.getD,a4,fK]
  have hst:(kW st ds (dS π all).length (EP π listed)).upd (gC (vA c o.dst o.op kk) (pU kk) s0)=kW st ds (dS π all).length (EP π (listed.setIfInBounds i true)):=by
   rw [<- hUd,<- hnext];exact By fun q hq=>(Fh hord hsz hlt p5 q hq).symm
  rw [hst] at hok' hn';refine ih _ w' g' tmps' (by rw [Eb];exact hsz) (Bk hsz hlt hE hrd) (fun q k hk hkn=>?_) (Gr hsz hlt hni hc) hf' hok' (by rw [hn',Hf]);have hq:q<(dS π all).length:=by rw [<- h.len];exact(aM.1 hk).1
  rw [Fh hord hsz hlt p5 q hq,hnds q k hk hkn];rfl
theorem aO0 (hord:Ord all π)(hedge:∀(k:Nat) (o:Oper),all[k]?=some o->∀e∈o.after.toList,Region.binds .any e=true->e.on<k) {oc:Oper} {eA:St} {dsA:List Delta} {QQ:D->List (List D)->Prop} 
  (hj:(dS π all)[j]?=some oc) (hkj:ks[j]?=some .nd) (hnd:∀(p:Nat) (k:DK),ks[p]?=some k->k.isNd=true->p=j) (hw:∀p,j<p->p<(dS π all).length->wtO all π j p=true) (hg:oc.guard=none) (hd:eT oc eA) (hQQ:aHc P oc.dst oc.op eA QQ) (heA:dsA.foldl St.upd st=eA)
  (hfam:∀r σ0,QQ r σ0->∃ds,DrawFacts P c all (wtO all π) (dS π all) ks st ds/\Q .normal (ds.foldl St.upd st)/\ds.take j=dsA/\ds[j]?=some (gC (vA c oc.dst oc.op .nd) (pU .nd) (({ eA with obj:=σ0 } :St).put oc.dst (.d r)))):
  ∀(fuel:Nat) (listed:Array Bool) (w:World) (g:Gh) (tmps:Array Value),listed.size=all.length->pL (pK all) (fun k=>listed.getD k false)->EP π listed j=false->((List.range all.length).filter fun k=> !listed.getD k false).length=fuel->FrM dfs w0 g0 w g->
  (∃ds,DrawFacts P c all (wtO all π) (dS π all) ks st ds/\ds.take j=dsA/\Ok w g (kW st ds (dS π all).length (EP π listed)) (cL tmps))->tmps.size=st.n->wpAnyIn (fR ro) 0 P .any all.toArray (Cf dfs w0 g0 Q) fuel listed ⟨tmps,dfs⟩ w:=by
 have hjl:j<(dS π all).length:=(aM.1 hj).1;have below:∀(listed:Array Bool),pL (pK all) (fun k=>listed.getD k false)->EP π listed j=false->∀p,p<(dS π all).length->EP π listed p=true->p<j:=by
  intro listed hE hnj p hp he;rcases sH p j with h | rfl | h
  .exact h
  .rw [hnj] at he;cases he
  have:=uO (π:=π) hE j p he (hw p h hp);rw [hnj] at this;cases this
 have same:∀(E:Nat->Bool) (ds ds':List Delta),(∀p,p<(dS π all).length->E p=true->p<j)->ds.take j=ds'.take j->kW st ds (dS π all).length E=kW st ds' (dS π all).length E:=by
  intro E ds ds' hE ht;unfold kW;have hU:∀k,k<j->∀s,U ds s k=U ds' s k:=by
   intro k hk s;unfold U;have:=congrArg (fun l=>l[k]?) ht;simp only [eJ,hk,aU] at this;simp only [List.getD,this]
  have:∀(L:List Nat) (s:St),(∀k∈L,k<j)->L.foldl (U ds) s=L.foldl (U ds') s:=by
   intro L;induction L with
   | nil=>intro s _;rfl
   | cons k L ih=>intro s hL;rw [dV,dV,hU k (hL k (by simp)),ih _ fun q hq=>hL q (by simp [hq])]
  exact this _ _ fun k hk=>by
   rw [cY,fH] at hk;exact hE k hk.1 hk.2
 intro fuel;induction fuel with
 | zero=>
  intro listed w g tmps hsz hE hnj hc;exfalso;have hnil:=lS hc;rw [mQ] at hnil;have hjp:j<π.length:=by rw [hord.len];rw [hord.get.1] at hjl;exact hjl
  have hy:π[j]?=some π[j]:=aQ hjp;have:=hnil π[j] (fH.2 (hord.lt hy));unfold EP at hnj;simp only [List.getD,hy,fK] at hnj;rw [hnj] at this;simp at this
 | succ fuel ih =>
  rintro listed w g tmps hsz hE hnj hc hf ⟨ds,h,htk,hok⟩ hn;refine⟨fun hnil=>?_,fun i hi=>?_⟩
  .exfalso;have hne:((List.range all.length).filter fun k=> !listed.getD k false)≠ []:=by intro e;rw [e] at hc;simp at hc
   obtain⟨i,hi⟩:=Jx hedge hsz hne;rw [hnil] at hi;cases hi
  rw [uQ] at hi;obtain⟨o,h1,h2,h3⟩:=hi;have hlt:=(aM.1 h1).1;have hs:listed[i]?=some listed[i]:=bO (by omega);have hni:listed.getD i false=false:=by simp [kB,hs] at h2 |-;exact h2
  have hrd:=Dh hE h1 h3;obtain⟨p,p1,p2,p3,p4,p5⟩:=hord.place h1;have hnp:EP π listed p=false:=by unfold EP;rw [p3];exact hni
  have hrp:∀q,wtO all π q p=true->EP π listed q=true:=fun q hq=>hrd _ (by rw [<- p3];exact hq);have hle:p<=j:=by
   rcases qD j p with hlt | hge
   .have:=hrp j (hw p hlt p1);rw [hnj] at this;cases this
   exact hge
  obtain⟨o',kk,s0,a1,a2,a3,a4,_,a5⟩:=h.at p1;rw [p4] at a1;simp at a1;subst a1;have hag:=h.agree (uO hE) p1 hnp hrp;rw [a3] at hag;by_cases hpj:p=j
  .subst hpj;rw [hj] at p4;simp at p4;subst p4;rw [hkj] at a2;simp at a2;subst a2;have hA:Agree (yA c all oc .nd) (pU .nd) eA (kW st ds (dS π all).length (EP π listed)):=by
    have:=hag;rw [htk,heA] at this;exact AgreeD.toA this
   refine Mp h1 hf hok (by rw [hn,Hf]) (aO7 hg hd hQQ hA) ?_;rintro w' g' tmps' S' ⟨r,σ0,hq,rfl⟩ hf' hok' hn';obtain⟨ds',h',hQ',htk',hdj⟩:=hfam r σ0 hq;have hnext:=h'.next (uO hE) p1 hnp hrp;have e0:=same (EP π listed) ds ds' (below listed hE hnj) (htk.trans htk'.symm);have hst:({ kW st ds (dS π all).length (EP π listed)with obj:=σ0 } :St).put oc.dst (.d r)=kW st ds' (dS π all).length (EP π (listed.setIfInBounds i true)):=by
    rw [By (Fh hord hsz hlt p5),hnext,<- e0];simp only [U,List.getD,hdj,fK];exact aLt.symm
   rw [hst] at hok' hn';refine Wy hord hedge h' hQ' fuel _ w' g' tmps' (by rw [Eb];exact hsz) (Bk hsz hlt hE hrd) (fun q k hk hkn=>?_) (Gr hsz hlt hni hc) hf' hok' (by rw [hn',Hf]);have hq:=hnd q k hk hkn;subst hq;rw [Fh hord hsz hlt p5 _ p1];simp
  have hkn:kk.isNd=false:=by
   cases hk:kk.isNd with
   | false=>rfl
   | true=>exact absurd (hnd p kk a2 hk) hpj
  have hnext:=h.next (uO hE) p1 hnp hrp;refine Mp h1 hf hok (by rw [hn,Hf]) (a5 hkn _ hag) ?_;rintro w' g' tmps' S' rfl hf' hok' hn';have hUd:U ds (kW st ds (dS π all).length (EP π listed)) p=(kW st ds (dS π all).length (EP π listed)).upd (gC (vA c o.dst o.op kk) (pU kk) s0):=by
   simp only [U,List.getD,a4,fK]
  have hst:(kW st ds (dS π all).length (EP π listed)).upd (gC (vA c o.dst o.op kk) (pU kk) s0)=kW st ds (dS π all).length (EP π (listed.setIfInBounds i true)):=by
   rw [<- hUd,<- hnext];exact By fun q hq=>(Fh hord hsz hlt p5 q hq).symm
  rw [hst] at hok' hn';refine ih _ w' g' tmps' (by rw [Eb];exact hsz) (Bk hsz hlt hE hrd) ?_ (Gr hsz hlt hni hc) hf' ⟨ds,h,htk,hok'⟩ (by rw [hn',Hf]);rw [Fh hord hsz hlt p5 j hjl,hnj];have:¬j=p:=fun e=>hpj e.symm;simp [this]
end
theorem aLz(ops:List Oper):dS (List.range ops.length) ops=ops:=by
 refine mL fun p=>?_;have:=(Gd (all:=ops) (π:=List.range ops.length) fun i hi=>fH.1 hi).2 p;rw [this];by_cases hp:p<ops.length
 .rw [pY hp];rfl
 rw [iZ (by simpa using hp),iZ (by omega)];rfl
theorem Le(n:Nat)(π:List Nat):EP π (Array.replicate n false)=fun _=>false:=by
 funext k;unfold EP;simp only [kB,Ey];split <;> rfl
theorem Qc(st:St)(ds:List Delta)(n:Nat):kW st ds n (fun _=>false)=st:=by
 unfold kW;rw [mQ.2 (fun k _=>by simp)];rfl
theorem Cw(n:Nat):pL (pK all) (fun k=>(Array.replicate n false).getD k false):=by
 intro i j hj;simp only [kB,Ey] at hj;split at hj <;> cases hj
theorem Hr(n:Nat):((List.range n).filter fun k=> !(Array.replicate n false).getD k false).length=n:=by
 rw [lT.2 (fun k _=>?_),List.length_range];simp only [kB,Ey];split <;> rfl
theorem aLn {id:Nat} (ks:List DK) (hm:P.follows .mixedOrders=true)(hok:La c ops ks=true)(h:∀K:St->Prop,(∀s,Q .normal s->K s)->jS P c ops ops ks st K):eK ro dfs P (.region id ops.toArray true) Q st:=by
 intro w0 g0 w g tmps hf hokk hn;unfold La at hok;simp only [fQ] at hok;obtain⟨hok,hnd⟩:=hok;rw [gF] at hnd;have hwf:∀k∈ks,aAf (pU k)=true/\k.isNd=false:=by
  have h2:=hok;unfold yS at h2;simp only [fQ,gF] at h2;exact fun k hk=>⟨h2.1.1.1.2 k hk,by simpa using hnd k hk⟩
 obtain⟨ss,e,hc,hQ⟩:=Lw ops ks st (Q .normal) hwf (h _ fun _ h=>h);have hc':Chain P c ops (dS (List.range ops.length) ops) ks st ss e:=by rw [aLz];exact hc
 obtain⟨hord,hedge,hfacts,he⟩:=Lx hok hc';subst he;refine wpIn_region_any hm ?_;refine Wy hord hedge hfacts hQ ops.toArray.size _ w.drew g tmps (by simp) ?_ (fun p k hk hkn=>?_) ?_ (hf.trans (Fr.drew w g)) ?_ hn
 .rw [fT];exact Cw _
 .have:=(hwf k (bA hk)).2;rw [hkn] at this;cases this
 .rw [fT,Hr]
 rw [fT,Le,Qc];exact hokk.drew
theorem aD7 {id:Nat} (π:List Nat)(j:Nat)(ks:List DK) (hm:P.follows .mixedOrders=true)(hok:Jh c ops π j ks=true)(h:∀K:St->Prop,(∀s,Q .normal s->K s)->jS P c ops (dS π ops) ks st K):eK ro dfs P (.region id ops.toArray true) Q st:=by
 intro w0 g0 w g tmps hf hokk hn;unfold Jh at hok;simp only [fQ,gF] at hok;obtain⟨⟨⟨hok,hks⟩,hw⟩,hjg⟩:=hok;have hnd:∀(p:Nat) (k:DK),ks[p]?=some k->k.isNd=decide (p=j):=fun p k hk=>by
  have:=hks (k,p) (oV.2 ⟨p,by simp [hk]⟩);simpa using this
 obtain⟨oc,hj,hg⟩:∃oc,(dS π ops)[j]?=some oc/\oc.guard=none:=by
  cases ho:(dS π ops)[j]? with
  | none=>rw [ho] at hjg;simp at hjg
  | some oc=>rw [ho] at hjg;exact⟨oc,rfl,by simpa using hjg⟩
 have h2:=hok;unfold yS at h2;simp only [fQ,gF] at h2;have hlen:ks.length=(dS π ops).length:=by
  have hl:ks.length=ops.length:=by simpa using h2.1.1.1.1
  have hord:Ord ops π:=Ord.of (by simpa using h2.1.2.1) (fun i hi=>h2.1.2.2.1 i (fH.2 hi)) h2.1.2.2.2.1 fun i hi=>by simpa using h2.1.2.2.2.2 i hi
  rw [hord.get.1,hl]
 have hjl:j<(dS π ops).length:=(aM.1 hj).1;obtain⟨kk,hkk⟩:∃kk,ks[j]?=some kk:=⟨_,aQ (by rw [hlen];exact hjl)⟩;have hkn:kk= .nd:=by
  have:=hnd j kk hkk;simp at this;cases kk <;> first | rfl | simp [DK.isNd] at this
 subst hkn;have hspl:dS π ops=(dS π ops).take j++oc::(dS π ops).drop (j+1):=by
  obtain⟨_,e⟩:=aM.1 hj;rw [<- e,List.getElem_cons_drop,fP]
 have hspk:ks=ks.take j++ .nd::ks.drop (j+1):=by
  obtain⟨_,e⟩:=aM.1 hkk;rw [<- e,List.getElem_cons_drop,fP]
 have hla:(ks.take j).length=((dS π ops).take j).length:=by rw [bF,bF,hlen]
 have hwf:∀k∈ks.take j++ks.drop (j+1),aAf (pU k)=true/\k.isNd=false:=by
  intro k hk;rcases cK.1 hk with hk | hk
  .obtain⟨p,hp⟩:=oV.1 hk;rw [eJ] at hp;split at hp
   .rename_i hpj;exact⟨h2.1.1.1.2 k (bA hp),by rw [hnd p k hp];simp;omega⟩
   cases hp
  obtain⟨p,hp⟩:=oV.1 hk;rw [kC] at hp;exact⟨h2.1.1.1.2 k (bA hp),by rw [hnd _ k hp];simp;omega⟩
 have hv:=h (Q .normal) fun _ h=>h;rw [hspl,hspk] at hv;obtain⟨ssA,eA,QQ,hcA,hdc,hQQ,hB⟩:=Vs _ _ st _ hla hwf hg hv;have hssA:=hcA.len;have key:∀r σ0,QQ r σ0->∃ssB e,Chain P c ops (dS π ops) ks st (ssA++(({ eA with obj:=σ0 } :St).put oc.dst (.d r))::ssB) e/\Q .normal e:=by
  intro r σ0 hq;obtain⟨ssB,e,hb,hQe⟩:=hB r σ0 hq;refine⟨ssB,e,?_,hQe⟩;have hstep:Step P c ops oc .nd eA (({ eA with obj:=σ0 } :St).put oc.dst (.d r)):=⟨aLt.symm,fun e=>(by cases e),fun e=>(by cases e)⟩;have:=hcA.append hla (.cons oc _ .nd _ eA _ ssB e hstep hb);rw [<- hspl,<- hspk] at this;exact this
 have heA:=(wC hcA).2.1;have hdl:∀sω ssB,(dl c (dS π ops) ks (ssA++sω::ssB)).take j=dl c ((dS π ops).take j) (ks.take j) ssA/\(dl c (dS π ops) ks (ssA++sω::ssB))[j]?=some (gC (vA c oc.dst oc.op .nd) (pU .nd) sω):=by
  intro sω ssB;have hlA:(dl c ((dS π ops).take j) (ks.take j) ssA).length=j:=by
   rw [(wC hcA).1,bF];omega
  have e:dl c (dS π ops) ks (ssA++sω::ssB)=dl c ((dS π ops).take j) (ks.take j) ssA++gC (vA c oc.dst oc.op .nd) (pU .nd) sω::dl c ((dS π ops).drop (j+1)) (ks.drop (j+1)) ssB:=by
   have:=Pf (c:=c) (B:=oc::(dS π ops).drop (j+1)) (kb:= .nd::ks.drop (j+1)) (tt:=sω::ssB) ((dS π ops).take j) (ks.take j) ssA hla hssA;rw [<- hspl,<- hspk] at this;rw [this];rfl
  rw [e];refine⟨List.take_left' hlA,by rw [bQ (by omega),hlA];simp⟩
 obtain⟨r0,σ00,hq0⟩:∃r σ0,QQ r σ0:=by
  have:=hQQ;unfold aHc at this;split at this
  .exact this.2.2
  exact this.elim
 obtain⟨ssB0,e0,hc0,_⟩:=key r0 σ00 hq0;obtain⟨hord,hedge,hfacts0,_⟩:=Lx hok hc0;refine wpIn_region_any hm ?_;refine aO0 hord hedge (dsA:=dl c ((dS π ops).take j) (ks.take j) ssA) hj hkk (fun p k hk hkn=>?_) (fun p hp hpl=>?_) hg hdc hQQ heA.symm (fun r σ0 hq=>?_) ops.toArray.size _ w.drew g tmps (by simp) ?_ ?_ ?_ (hf.trans (Fr.drew w g)) ⟨_,hfacts0,(hdl _ _).1,?_⟩ hn
 .rw [hnd p k hk] at hkn;simpa using hkn
 .have:=hw p (fH.2 (by rw [hord.get.1] at hpl;exact hpl));have e:(!decide (j<p))=false:=by simp [hp]
  rw [e,zL] at this;exact this
 .obtain⟨ssB,e,hc,hQe⟩:=key r σ0 hq;obtain⟨_,_,hf',rfl⟩:=Lx hok hc;exact⟨_,hf',hQe,(hdl _ _).1,(hdl _ _).2⟩
 .rw [fT];exact Cw _
 .rw [fT,Le]
 .rw [fT,Hr]
 rw [fT,Le,Qc];exact hokk.drew
end
end
end Go.Vm
