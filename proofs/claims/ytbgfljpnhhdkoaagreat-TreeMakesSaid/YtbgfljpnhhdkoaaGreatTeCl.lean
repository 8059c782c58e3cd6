import Derived.Test.YtbgfljpnhhdkoaaGreatVmS3
import Derived.Test.YtbgfljpnhhdkoaaGreatTeSw
import Derived.Test.YtbgfljpnhhdkoaaGreatWkTe7
set_option linter.all false
set_option maxHeartbeats 8000000
set_option maxRecDepth 20000
open Go.Proofs.Tryz
namespace Go.Proofs.YtbgfljpnhhdkoaaGreat
open Go Go.Vm Go.Proofs Go.RowKit
variable {args:List D}{g:Gh}{os:List Nat}{q:Nat}{st:St}{val:Nat->Value}{vs:Array Value}{w:World}{σ:List (List D)}
inductive IQ(σ:List (List D)):Nat->List Nat->Prop
 | mk (q : Nat) (cs : List D) (qs : List Nat) (oss : List (List Nat)) (hq : σ[q]? = some cs) (h26 : cs[26]? = some (.sl true (qs.map fun q => D.ref q 0))) (hlen : qs.length < 1000000) (hl : oss.length = qs.length)
   (hk:∀(j:Nat) (h1:j<qs.length) (h2:j<oss.length),IQ σ qs[j] oss[j]):IQ σ q (q::oss.flatten)
def bq(g:Gh)(q:Nat):Nat:=g.bs[q]?.getD 0
theorem aB1 (ho:Ok w g st val) {i:Nat} {cs:List D} {d:D} (hq:st.obj[q]?=some cs)(hi:cs[i]?=some d):
  g.bs[q]?=some (bq g q)/\bq g q<w.heap.size/\∃x,w.cell? ⟨bq g q,i,none⟩=some x/\R g.M g.bs d x:=by
 have hlt:q<g.bs.length:=by rw [ho.ol];exact(aP.1 hq).1
 have hb:g.bs[q]?=some (bq g q):=by unfold bq;rw [aS hlt];rfl
 refine⟨hb,?_⟩;rcases ho.obj q _ cs hb hq with rfl | ⟨cur,E,hh,hs, -, -,hc⟩
 .simp at hi
 have hi2:i<cur.size:=by rw [hs];exact(aP.1 hi).1
 refine⟨(dL.1 hh).1,cur[i],by simp [World.cell?,hh,hi2],(hc i d cur[i] hi (by simp [hi2])).1⟩
theorem Jq (ho:Ok w g st val) {i:Nat} {cs:List D} {k:Int} (hq:st.obj[q]?=some cs)(hi:cs[i]?=some (D.int k)):w.cell? ⟨bq g q,i,none⟩=some (.int .i64 k):=by
 obtain⟨-, -,x,h1,h2⟩:=aB1 ho hq hi;cases h2 with
 | v _ _=>exact h1
theorem aSi {M:Mem} {bs:List Nat} {x:Value} (h:R M bs (.ref q 0) x):x=nY (bs[q]?.getD 0):=by
 cases h with
 | ref n o b hb=>rw [hb];rfl
theorem R.ptrs (ho:Ok w g st val) {o:Bool} {qs:List Nat} {x:Value} (h:R g.M g.bs (.sl o (qs.map fun q=>D.ref q 0)) x):PtrsAt w.heap.size w x (qs.map (bq g)):=by
 by_cases h0:qs= []
 .subst h0;simp only [kP] at h |-;cases h with
  | nil=>exact .inl ⟨none,0,rfl,rfl⟩
  | emp _ a cap _=>exact .inl ⟨some a,cap,rfl,rfl⟩
  | sl _ _ b off n cap k vs hl hn hk hc hm hr hs hx=>subst hn;exact .inl ⟨_,cap,rfl,rfl⟩
 obtain⟨b,off,cap,rfl, -, -,hc⟩:=h.cellsOf (by simpa using h0) (by
  intro d hd;obtain⟨q, -,rfl⟩:=aV.1 hd;rfl)
 have get:∀j (hj:j<(qs.map (bq g)).length),w.cell? ⟨b,off+j,none⟩=some (nY (qs.map (bq g))[j])/\b<w.heap.size:=fun j hj=>by
  have hj2:j<qs.length:=by simpa using hj
  obtain⟨y,hy,hs,hM⟩:=hc j (.ref qs[j] 0) (by simp [hj2]);have e:=aSi hy;have hM2:=hM y (by rw [e];rfl);refine⟨by rw [ho.mem _ _ _ hM2,e];simp [bq],ho.mlt hM2⟩
 have hpos:0<(qs.map (bq g)).length:=by simpa using List.length_pos_iff.2 h0
 refine .inr ⟨b,off,cap,by simp,(get 0 hpos).2,fun j hj=>(get j hj).1⟩
theorem IQ.iw (ho:Ok w g st val) (h:IQ st.obj q os):IW w.heap.size w (bq g q) (os.map (bq g)):=by
 induction h with
 | mk q cs qs oss hq h26 hlen hl hk ih=>
  obtain⟨-,hlt,x,hx,hr⟩:=aB1 ho hq h26;rw [cC,List.map_flatten];refine .mk _ x (qs.map (bq g)) (oss.map (List.map (bq g))) hlt hx (R.ptrs ho hr) (by simpa using hlen) (by simp [hl]) fun j h1 h2=>?_;simp only [bQ] at h1 h2;simpa using ih j h1 h2
theorem IQ.len_pos (h:IQ σ q os):∃t,os=q::t:=by cases h;exact⟨_,rfl⟩
theorem aTl {d:D} (ho:Ok w g (St.ofArgs args σ) (cJ vs))(i:Nat)(hi:args[i]?=some d):R g.M g.bs d (cJ vs i):=by
 have e:(St.ofArgs args σ).env i= .d d:=by
  simp [St.ofArgs,fT,hi]
 have hs:=ho.slot i;rw [e] at hs;exact hs.1
theorem aUg (ho:Ok w g (St.ofArgs args σ) (cJ vs))(i:Nat)(hi:args[i]?=some (.ref q 0)):cJ vs i=nY (bq g q):=aSi (aTl ho i hi)
theorem aYy {f:Fn} (ho:Ok w g (St.ofArgs args σ) (cJ vs))(i:Nat)(hi:args[i]?=some (.clo f [] [])):cJ vs i= .func f #[] #[]:=by
 have h:=aTl ho i hi;generalize cJ vs i=x at h;cases h with
 | clo _ _ _ v1 v2 l1 l2 _ _=>
 obtain rfl:v1=#[]:=Nr (by simpa using l1);obtain rfl:v2=#[]:=Nr (by simpa using l2);rfl
theorem aYv {k:Int} (ho:Ok w g (St.ofArgs args σ) (cJ vs))(i:Nat)(hi:args[i]?=some (D.int k)):cJ vs i= .int .i64 k:=by
 have h:=aTl ho i hi;generalize cJ vs i=x at h;cases h with
 | v _ _=>rfl
theorem aYz {a:Value} (hs:vs.size=1)(h0:cJ vs 0=a):vs=#[a]:=by
 apply Array.ext
 .simpa using hs
 intro i h1 h2;obtain rfl:i=0:=by simp at h2;omega
 simpa [cJ,h1] using h0
theorem aYf {a b:Value} (hs:vs.size=2)(h0:cJ vs 0=a)(h1:cJ vs 1=b):vs=#[a,b]:=by
 apply Array.ext
 .simpa using hs
 intro i h2 h3;have:i=0\/i=1:=by simp at h3;omega
 rcases this with rfl | rfl
 .simpa [cJ,h2] using h0
 simpa [cJ,h2] using h1
theorem Xa (isf:Nat)(eg:∀args w,(callFunc isf args).run prog w= .ok (.enter isf args) w)(hI:IQ σ q os)(hN:os.length<1000000)(pq:Nat->Bool)
  (hw:∀(w:World) (g:Gh) (st:St) (val:Nat->Value),Ok w g st val->st.obj=σ->∃p:Nat->Bool,∀x∈os,p (bq g x)=pq x/\∀m W,Below w.heap.size w W->CallsIn Fence.wide m prog isf #[nY (bq g x)] W fun e W'=>e= .returned (.bool (p (bq g x)))/\Below W.heap.size W W'):
  Ct prog 99 [.ref q 0,.clo (.func isf) [] []] σ (fun r σ'=>r=D.int (os.countP pq:Nat)/\σ'=σ):=by
 refine⟨by kernel_rfl,fun w g vs hs hb ho=>?_⟩;obtain rfl:=aYf hs (aUg ho 0 rfl) (aYy ho 1 rfl);obtain⟨p,hp⟩:=hw w g _ _ ho rfl;refine((callsIn_wide (n:=3)).1 (aI9 Fence.wide rfl 3 isf trivial eg trivial trivial trivial trivial rfl (by omega) _ _ w p (IQ.iw ho hI) (by simpa using hN) (fun b=>∃x∈os,bq g x=b) (fun b hb=>by simpa using hb)
  (fun b ⟨x,hx,e⟩ m W hW=>by subst e;exact(hp x hx).2 m W hW))).mono ?_
 rintro e w' ⟨rfl,hbel⟩;have ec:(os.map (bq g)).countP p=os.countP pq:=by
  rw [List.countP_map];exact List.countP_congr fun x hx=>by simp [(hp x hx).1]
 rw [ec];exact⟨D.int (os.countP pq:Nat),σ,_,g,rfl,⟨rfl,rfl⟩,hb,Fr.below g hbel,(ho.below hbel).res hb (D.int (os.countP pq:Nat)) _ (.v _ rfl) (.flat _ _ _ rfl)⟩
theorem aDy (hI:IQ σ q os)(hN:os.length<1000000)(k mv:Nat->Int)(hx:∀x∈os,∃cs,σ[x]?=some cs/\cs[15]?=some (D.int (k x))/\cs[16]?=some (D.int (mv x))):
  Ct prog 99 [.ref q 0,.clo (.func 100) [] []] σ (fun r σ'=>r=D.int (os.countP (fun x=> !(decide (k x=0) && decide (mv x=0))):Nat)/\σ'=σ):=
 Xa _ (enters_of func100 (by kernel_rfl) rfl) hI hN _ fun w g st val ho hs=>by
  refine⟨fun b=>match w.cell? ⟨b,15,none⟩,w.cell? ⟨b,16,none⟩with
   | some (.int _ k),some (.int _ m)=> !(decide (k=0) && decide (m=0))
   | _,_=>false,fun x hxm=>?_⟩
  obtain⟨cs,h1,h2,h3⟩:=hx x hxm;rw [<- hs] at h1;have c15:=Jq ho h1 h2;have c16:=Jq ho h1 h3;have hlt:=(aB1 ho h1 h2).2.1;refine⟨by simp only [c15,c16],fun m W hW=>?_⟩;simp only [c15,c16];exact aQ2 Fence.wide m trivial rfl _ _ _ W ((hW.cell (p:=⟨bq g x,15,none⟩) hlt).trans c15) ((hW.cell (p:=⟨bq g x,16,none⟩) hlt).trans c16)
theorem aEr (hI:IQ σ q os)(hN:os.length<1000000)(k:Nat->Int)(hx:∀x∈os,∃cs mv dx dy,σ[x]?=some cs/\cs[15]?=some (D.int (k x))/\cs[16]?=some (D.int mv)/\cs[17]?=some (D.int dx)/\cs[18]?=some (D.int dy)):
  Ct prog 99 [.ref q 0,.clo (.func 101) [] []] σ (fun r σ'=>r=D.int (os.countP (fun x=>ghK (k x)):Nat)/\σ'=σ):=
 Xa _ (enters_of func101 (by kernel_rfl) rfl) hI hN _ fun w g st val ho hs=>by
  refine⟨fun b=>match w.cell? ⟨b,15,none⟩with
   | some (.int _ k)=>ghK k
   | _=>false,fun x hxm=>?_⟩
  obtain⟨cs,mv,dx,dy,h1,h2,h3,h4,h5⟩:=hx x hxm;rw [<- hs] at h1;have c15:=Jq ho h1 h2;have c16:=Jq ho h1 h3;have c17:=Jq ho h1 h4;have c18:=Jq ho h1 h5;have hlt:=(aB1 ho h1 h2).2.1;refine⟨by simp only [c15],fun m W hW=>?_⟩;simp only [c15];exact aMg Fence.wide rfl m trivial trivial trivial rfl _ _ mv dx dy W ((hW.cell (p:=⟨bq g x,15,none⟩) hlt).trans c15) ((hW.cell (p:=⟨bq g x,16,none⟩) hlt).trans c16) ((hW.cell (p:=⟨bq g x,17,none⟩) hlt).trans c17) ((hW.cell (p:=⟨bq g x,18,none⟩) hlt).trans c18)
def aGo(idq:Nat->Int)(id:Int)(os:List Nat):D:=match os.find? (fun x=>decide (idq x=id))with
 | some x=> .ref x 0
 | none=> .v (.pointer none)
theorem IQ.inb (h:IQ σ q os):∀x∈os,x<σ.length:=by
 induction h with
 | mk q cs qs oss hq h26 hlen hl hk ih=>
  intro x hx;rcases bM.1 hx with rfl | hx
  .exact(aP.1 hq).1
  obtain⟨l,hl1,hl2⟩:=oO.1 hx;obtain⟨j,hj,rfl⟩:=iN hl1;exact ih j (by omega) hj x hl2
theorem aC7 (id:Int)(hI:IQ σ q os)(idq:Nat->Int)(hx:∀x∈os,∃cs,σ[x]?=some cs/\cs[0]?=some (D.int (idq x))):
  Ct prog 47 [.ref q 0,D.int id] σ (fun r σ'=>r=aGo idq id os/\σ'=σ):=by
 refine⟨by kernel_rfl,fun w g vs hs hb ho=>?_⟩;obtain rfl:=aYf hs (aUg ho 0 rfl) (aYv ho 1 rfl);have hc:∀x∈os,w.cell? ⟨bq g x,0,none⟩=some (.int .i64 (idq x)):=fun x hm=>by
  obtain⟨cs,h1,h2⟩:=hx x hm;exact Jq ho (show(St.ofArgs [D.ref q 0,D.int id] σ).obj[x]?=some cs from h1) h2
 let idf:Nat->Int:=fun b=>match w.cell? ⟨b,0,none⟩with
  | some (.int _ k)=>k
  | _=>0
 have hidf:∀x∈os,idf (bq g x)=idq x:=fun x hm=>by simp only [idf,hc x hm]
 refine((callsIn_wide (n:=3)).1 (aP0 Fence.wide rfl 3 trivial trivial trivial trivial rfl (by omega) _ _ w idf id (IQ.iw ho hI) (fun b hb=>by
  obtain⟨x,hm,rfl⟩:=aV.1 hb;rw [hidf x hm];exact hc x hm))).mono ?_
 rintro e w' ⟨rfl,hbel⟩;have ef:(os.map (bq g)).find? (fun b=>decide (idf b=id))=(os.find? fun x=>decide (idq x=id)).map (bq g):=by
  rw [List.find?_map];congr 1;have:∀l:List Nat,(∀x∈l,x∈os)->l.find? ((fun b=>decide (idf b=id)) ∘ bq g)=l.find? fun x=>decide (idq x=id):=by
   intro l;induction l with
   | nil=>intro _;rfl
   | cons a l ih=>
    intro h;simp only [List.find?_cons,Function.comp,hidf a (h a dH)];rw [<- ih fun x hx=>h x (eV _ hx)]
  exact this os fun _ h=>h
 refine⟨aGo idq id os,σ,_,g,rfl,⟨rfl,rfl⟩,hb,Fr.below g hbel,(ho.below hbel).res hb _ _ ?_ ?_⟩
 .unfold aGo Ui;rw [ef];cases e:os.find? (fun x=>decide (idq x=id))with
  | none=>exact .v _ rfl
  | some x=>
   have hm:=Fo e;have hlt:x<g.bs.length:=by rw [ho.ol];exact hI.inb x hm
   exact .ref x 0 _ (by unfold bq;rw [aS hlt];rfl)
 refine .flat _ _ _ ?_;unfold aGo;split <;> rfl
open Go Go.Vm
def itS(i:Int)(v:VN)(x:LK)(par:D)(qs:List Nat):List D:= [D.int i,D.int v.kind,D.str v.tag,D.str v.key,D.str v.text,.sl false (v.classes.map D.str),.sl false (v.attrs.map dA),.sl false (v.styles.map cQ),D.int v.opts.enter,D.int v.opts.leave,D.int v.opts.move,D.int v.opts.mode,D.bool v.opts.appear,D.bool v.opts.moves,.sl false [],
 D.int x.kind,D.int x.move,D.int x.DX,D.int x.DY,D.int 0,D.int 0,D.bool false,D.int 0,D.bool false,D.int 0,par,.sl true (qs.map fun q=>D.ref q 0)]
section
variable {m M l:Nat}{d:DS}{rk:Int->Nat}
end
def fl(p:Nat->Bool)(j:Nat):List Nat:=(List.range j).filter p
end Go.Proofs.YtbgfljpnhhdkoaaGreat
namespace Go.Vm
open Go
theorem Ok.rowResB {w w':World} {g:Gh} {st:St} {val:Nat->Value} (h:Ok w g st val)(hbl:g.bl= [])(hb:RowKit.Below w.heap.size w w')(G n cap k:Nat)(cur:Array Value)(E:TypeId)(es:List D)(vs:List Value)
  (hG:w.heap.size<=G) (hh:w'.heap[G]?=some (.cells cur E (0,0))) (hk:0<k) (hcs:cur.size=cap * k) (hn:n=es.length) (hn0:es≠ []) (hc:n<=cap) (hm:cap<=maxLen) (hl:vs.length=es.length)
  (hr:∀(M:Mem) (i:Nat) (d:D) (x:Value),es[i]?=some d->vs[i]?=some x->R M g.bs d x) (hs:∀(i:Nat) (d:D),es[i]?=some d->d.ncells=k)
  (hx:∀(i:Nat) (x:Value),vs[i]?=some x->x.cells.size=k/\∀(j:Nat) (c:Value),x.cells[j]?=some c->c.oneCell'=true/\cur[i * k+j]?=some c):
  ∃g',g'.bl= []/\Fr w g w' g'/\Ok w' g' (St.ofRes (.sl true es) st.obj) (fun t=>if t=0 then .slice (some ⟨G,0,none⟩) n cap else undef):=by
 have hG2:G<w'.heap.size:=(dL.1 hh).1;have hMG:∀o,g.M G o=none:=by
  intro o;cases hc':g.M G o with
  | none=>rfl
  | some c=>have:=h.mlt hc';omega
 have hXG:g.X G=none:=by
  cases hc':g.X G with
  | none=>rfl
  | some c=>have:=h.xlt G c hc';omega
 have h':=h.below hb
 let g':Gh:= { M:=fun b o=>if b=G then(if o<n * k then cur[o]? else none)else g.M b o,X:=fun b=>if b=G then some (.slot 0, [])else g.X b,bl:=g.bl,bs:=g.bs }
 have hle:g.M.le g'.M:=by
  intro b o c hc';by_cases hbG:b=G
  .subst hbG;rw [hMG] at hc';cases hc'
  show(if b=G then _ else g.M b o)=some c
  rw [aD hbG];exact hc'
 have hkk:∀(hd:Holder) (b:Nat) (q:List Nat),g.X b=some (hd,q)->w'.heap[b]?=w'.heap[b]?/\(∀o,g.M b o=none->g'.M b o=none)/\g'.X b=some (hd,q):=by
  intro hd b q hq;have hbG:b≠G:=by rintro rfl;rw [hXG] at hq;cases hq
  refine⟨rfl,fun o ho=>?_,?_⟩
  .show(if b=G then _ else g.M b o)=none
   rw [aD hbG];exact ho
  show(if b=G then _ else g.X b)=_
  rw [aD hbG];exact hq
 refine⟨g',hbl,⟨hb.os,hb.tape,hb.output,hb.size,fun b hb' hx'=>⟨hb.block b hb',?_,fun o=>?_⟩,hle,fun _ _ h=>h⟩,⟨?_,?_,fun t=>?_,by simp [St.ofRes,g',hbl],fun m b cs hn'=>by simp [g',hbl] at hn',h.ol,
  fun m b cs a1 a2=>(h'.obj m b cs a1 a2).keep hle (fun _ _ h=>h) (hkk _)⟩⟩
 .show(if b=G then _ else g.X b)=none
  rw [aD (by omega)];exact hx'
 .show(if b=G then _ else g.M b o)=_
  rw [aD (by omega)]
 .intro b o c hc';change (if b=G then(if o<n * k then cur[o]? else none)else g.M b o)=some c at hc';by_cases hbG:b=G
  .subst hbG;rw [aK rfl] at hc';split at hc'
   .simpa [World.cell?,hh] using hc'
   cases hc'
  rw [aD hbG] at hc';exact h'.mem b o c hc'
 .intro b t hx';change (if b=G then some (.slot 0, [])else g.X b)=some t at hx';by_cases hbG:b=G
  .subst hbG;exact hG2
  rw [aD hbG] at hx';exact h'.xlt b t hx'
 by_cases ht:t=0
 .subst ht;simp only [aU];refine⟨?_,?_⟩
  .refine .sl true es G 0 n cap k vs hl hn hk hc hm (hr _) hs fun i x hi=>⟨(hx i x hi).1,fun j c hj=>⟨((hx i x hi).2 j c hj).1,?_⟩⟩;have hj2:j<k:=by
    have:=(dL.1 hj).1;rw [(hx i x hi).1] at this;exact this
   have hi2:i<n:=by
    rw [hn,<- hl];exact(aP.1 hi).1
   have hlt:i * k+j<n * k:=by
    have:=fO k (show i+1<=n from hi2);rw [dB,Ac] at this;omega
   show(if G=G then(if 0+(i * k+j)<n * k then cur[0+(i * k+j)]? else none)else g.M G _)=some c
   rw [aK rfl,eL,aK hlt];exact((hx i x hi).2 j c hj).2
  refine .sl [] es _ (.inr ⟨G,n,cap,k,cur,E,rfl,hn0,?_,hh,hk,hcs,hn,hc,hm,fun o ho=>?_,hs⟩)
  .show(if G=G then _ else g.X G)=_
   rw [aK rfl]
  show(if G=G then(if o<n * k then cur[o]? else none)else g.M G o)=none
  rw [aK rfl,aD (by omega)]
 simp only [ht,bK,St.ofRes,fT];rw [iR (by simp;omega)];exact⟨.any _,.flat _ _ _ rfl⟩
end Go.Vm
namespace Go.Proofs.YtbgfljpnhhdkoaaGreat
open Go Go.Vm Go.Proofs Go.RowKit
variable {i:Int}{l os:List Nat}{q:Nat}{σ:List (List D)}
theorem aMb (hI:IQ σ q os)(hN:os.length<1000000):
  Ct prog 46 [.ref q 0] σ (fun r σ'=>r= .sl true (os.map fun q=>D.ref q 0)/\σ'=σ):=by
 refine⟨by kernel_rfl,fun w g vs hs hb ho=>?_⟩;obtain rfl:=aYz hs (aUg ho 0 rfl);refine((callsIn_wide (n:=3)).1 (aI1 Fence.wide rfl 3 trivial trivial trivial trivial rfl (by omega) _ _ w (IQ.iw ho hI) (by simpa using hN))).mono ?_;rintro e w' ⟨v,rfl,hrow,hne,hbel⟩;have hpos:os≠ []:=by obtain⟨t,e⟩:=hI.len_pos;rw [e];simp
 rcases hrow.2 with ⟨rfl,h0⟩ | ⟨G,cap',cur,rfl,hG,hh,hc1,hc2,hcs,htk⟩
 .exact absurd (by simpa using h0) hpos
 obtain⟨g',h1,h2,h3⟩:=ho.rowResB hb hbel G os.length cap' 1 cur 84 (os.map fun q=>D.ref q 0) ((os.map (bq g)).map nY) hG hh (by omega) (by rw [hcs]) (by simp) (by simpa using hpos) (by simpa using hc1) hc2 (by simp)
  (by
   intro M i d x hd hx;rw [cF] at hd hx;obtain⟨y,hy,rfl⟩:=dG.1 hd;rw [cF,hy] at hx;simp at hx;subst hx;have hlt:y<g.bs.length:=by rw [ho.ol];exact hI.inb y (bE hy)
   exact .ref y 0 _ (by unfold bq;rw [aS hlt];rfl))
  (by
   intro i d hd;rw [cF] at hd;obtain⟨y,hy,rfl⟩:=dG.1 hd;rfl)
  (by
   intro i x hx;refine⟨?_,fun j c hj=>?_⟩
   .rw [cF] at hx;obtain⟨y,hy,rfl⟩:=dG.1 hx;rfl
   have hx2:=hx;rw [cF] at hx;obtain⟨y,hy,rfl⟩:=dG.1 hx;have hj0:j=0/\c=nY y:=by
    match j,hj with
    | 0,hj=>simp [Value.cells] at hj;exact⟨rfl,hj.symm⟩
    | j+1,hj=>simp [Value.cells] at hj
   obtain⟨rfl,rfl⟩:=hj0;refine⟨rfl,?_⟩;rw [<- htk,eN] at hx2;split at hx2
   .simpa using hx2
   cases hx2)
 exact⟨_,σ,_,g',rfl,⟨rfl,rfl⟩,h1,h2,by simp only [bQ];exact h3⟩
open Go Go.Vm
theorem xT {α:Type} {P:Nat->α->Prop} :∀(n:Nat),(∀j,j<n->∃x,P j x)->∃l:List α,l.length=n/\∀(j:Nat) (hj:j<l.length),P j l[j]
 | 0,_=>⟨[],rfl,fun j hj=>absurd hj (by simp)⟩
 | n+1,h=>by
  obtain⟨l,h1,h2⟩:=xT n fun j hj=>h j (by omega);obtain⟨x,hx⟩:=h n (by omega);refine⟨l++ [x],by simp [h1],fun j hj=>?_⟩;by_cases hjl:j<l.length
  .rw [uR hjl];exact h2 j hjl
  have:j=n:=by simp at hj;omega
  subst this;rw [uZ (by omega)];simpa using hx
inductive Sq(σ:List (List D)):Int->List Nat->Prop
 | nil (i:Int):Sq σ i []
 | cons (i:Int) (x:Nat) (l:List Nat) (w:VN) (p:Nat) (rs:List Nat) (hx:σ[x]?=some (jG i w (.ref p 0) rs)) (hl:Sq σ (i+1) l):Sq σ i (x::l)
theorem Sq.append {A B:List Nat} (h:Sq σ i A):Sq σ (i+(A.length:Int)) B->Sq σ i (A++B):=by
 induction h with
 | nil i=>intro h;simpa using h
 | cons i x l w p rs hx hl ih=>
  intro h;refine .cons i x _ w p rs hx (ih ?_);rw [show i+1+(l.length:Int)=i+((x::l).length:Int) by simp;omega];exact h
theorem Sq.flat :∀(ks:List VN) (oss:List (List Nat)) (s:Int),oss.length=ks.length->(∀(j:Nat) (h1:j<oss.length) (h2:j<ks.length) (h3:j<(iD s ks).length),Sq σ ((iD s ks)[j]) oss[j]/\oss[j].length=cB ks[j])->
  Sq σ s oss.flatten/\oss.flatten.length=(ks.map cB).sum
 | [],oss,s,hl,h=>by
  obtain rfl:=sB.1 hl;exact⟨.nil s,rfl⟩
 | k::ks, [],s,hl,h=>by simp at hl
 | k::ks,o::oss,s,hl,h=>by
  obtain⟨a1,a2⟩:=h 0 (by simp) (by simp) (by simp [iD]);have a1':Sq σ s o:=a1;have a2':o.length=cB k:=a2;obtain⟨b1,b2⟩:=Sq.flat ks oss (s+cB k) (by simpa using hl) fun j h1 h2 h3=>h (j+1) (by simpa using h1) (by simpa using h2) (by simpa [iD] using h3);refine⟨?_,by rw [nU,aZ,b2,a2',cC,iA]⟩;rw [nU];exact a1'.append (by rw [a2'];exact b1)
theorem aL6 {i2:Int} {v v2:VN} {p p2:D} {a b:List Nat} (h:jG i v p a=jG i2 v2 p2 b):i=i2/\a=b:=by
 unfold jG at h;simp only [List.cons.injEq,D.v.injEq,Value.int.injEq,D.sl.injEq,sG,oR] at h;refine⟨by first | exact h.1 | exact h.1.2,?_⟩;have hm:a.map (fun q=>D.ref q 0)=b.map (fun q=>D.ref q 0):=by
  have:=h.2;first | exact this.2.2.2.2.2.2.2.2.2.2.2.2.2.2 | simp_all
 have:∀(a b:List Nat),a.map (fun q=>D.ref q 0)=b.map (fun q=>D.ref q 0)->a=b:=by
  intro a;induction a with
  | nil=>intro b h;cases b with
   | nil=>rfl
   | cons y b=>simp at h
  | cons x a ih =>
   intro b h;cases b with
   | nil=>simp at h
   | cons y b=>
    simp only [cC,List.cons.injEq,D.ref.injEq,oR] at h;rw [h.1,ih b h.2]
 exact this a b hm
theorem Sq.has (h:Sq σ i l):∀x∈l,∃(j:Int) (w:VN) (p:Nat) (rs:List Nat),i<=j/\σ[x]?=some (jG j w (.ref p 0) rs):=by
 induction h with
 | nil i=>intro x hx;cases hx
 | cons i x l w p rs hx hl ih=>
  intro y hy;rcases bM.1 hy with rfl | hy
  .exact⟨i,w,p,rs,mM _,hx⟩
  obtain⟨j,w2,p2,r2,h1,h2⟩:=ih y hy;exact⟨j,w2,p2,r2,by omega,h2⟩
theorem Sq.nodup (h:Sq σ i l):l.Nodup:=by
 induction h with
 | nil i=>exact vL
 | cons i x l w p rs hx hl ih=>
  rw [gY];refine⟨fun hm=>?_,ih⟩;obtain⟨j,w2,p2,r2,h1,h2⟩:=hl.has x hm;rw [hx] at h2;have:=(aL6 (oQ h2)).1;omega
theorem Sq.at_ (h:Sq σ i l):∀(a:Nat) (ha:a<l.length),∃(w:VN) (p:Nat) (rs:List Nat),σ[l[a]]?=some (jG (i+(a:Int)) w (.ref p 0) rs):=by
 induction h with
 | nil i=>intro a ha;simp at ha
 | cons i x l w p rs hx hl ih =>
  intro a ha;cases a with
  | zero=>exact⟨w,p,rs,by simpa using hx⟩
  | succ b=>
   obtain⟨w2,p2,r2,h2⟩:=ih b (by simpa using ha);exact⟨w2,p2,r2,by rw [show i+((b+1:Nat):Int)=i+1+(b:Int) by omega];exact h2⟩
theorem ItOk.ord {F:Nat->Prop} {v:VN} {par:D} (hc:cB v<=9999)(h:ItOk σ F i v par q):
  ∃t,IQ σ q (q::t)/\t.length+1=cB v/\Sq σ (i+1) t/\(∀x∈t,F x/\q<x)/\∀i2 w2 p2 qs,σ[q]?=some (jG i2 w2 p2 qs)->∀x∈qs,x∈t:=by
 induction h with
 | mk F i v par q qs hF hq hl hk ih =>
  have hP:∀j,j<qs.length->∃o:List Nat,∀(h1:j<v.kids.length) (h2:j<qs.length) (h3:j<(iD (i+1) v.kids).length),∃t,o=qs[j]::t/\IQ σ qs[j] o/\o.length=cB v.kids[j]/\Sq σ ((iD (i+1) v.kids)[j]) o/\∀x∈o,F x/\q<x:=by
   intro j hj;have h1:j<v.kids.length:=by omega
   have h3:j<(iD (i+1) v.kids).length:=by rw [pQ];exact h1
   have hcv:=dQ (bS h1);obtain⟨t,t1,t2,t3,t4, -⟩:=ih j h1 hj h3 (by omega);obtain⟨rs,r1, -⟩:=(hk j h1 hj h3).at_;refine⟨qs[j]::t,fun _ _ _=>⟨t,rfl,t1,by simpa using t2,.cons _ _ _ _ q rs r1 t3,fun x hx=>?_⟩⟩;rcases bM.1 hx with rfl | hx
   .exact(hk j h1 hj h3).F_
   exact(t4 x hx).1
  obtain⟨oss,o1,o2⟩:=xT qs.length hP;have hlen:=jV v;have hsq:=Sq.flat (σ:=σ) v.kids oss (i+1) (by omega) fun j h1 h2 h3=>by
   obtain⟨t,e,a1,a2,a3,a4⟩:=o2 j h1 h2 (by omega) h3;exact⟨a3,a2⟩
  refine⟨oss.flatten,.mk q _ qs oss hq rfl (by omega) o1 (fun j h1 h2=>?_),by rw [hsq.2,jC];omega,hsq.1,fun x hx=>?_,fun i2 w2 p2 qs2 e x hx=>?_⟩
  .obtain⟨t,e,a1,a2,a3,a4⟩:=o2 j h2 (by omega) h1 (by rw [pQ];omega);exact a1
  .obtain⟨o,ho,hxo⟩:=oO.1 hx;obtain⟨j,hj,rfl⟩:=iN ho;obtain⟨t,e,a1,a2,a3,a4⟩:=o2 j hj (by omega) (by omega) (by rw [pQ];omega);exact⟨(a4 x hxo).1,(a4 x hxo).2⟩
  rw [hq] at e;have:=(aL6 (oQ e)).2;subst this;obtain⟨j,hj,rfl⟩:=iN hx;obtain⟨t,e,a1,a2,a3,a4⟩:=o2 j (by omega) (by omega) hj (by rw [pQ];omega);exact oO.2 ⟨_,bS (by omega:j<oss.length),by rw [e];exact dH⟩
theorem IQ.frame {τ:List (List D)} (h:IQ σ q os)(hf:∀x∈os,∀cs,σ[x]?=some cs->∃cs2,τ[x]?=some cs2/\cs2[26]?=cs[26]?):IQ τ q os:=by
 induction h with
 | mk q cs qs oss hq h26 hlen hl hk ih=>
  obtain⟨cs2,c1,c2⟩:=hf q dH cs hq;refine .mk q cs2 qs oss c1 (c2.trans h26) hlen hl fun j h1 h2=>ih j h1 h2 fun x hx=>hf x (eV _ (oO.2 ⟨_,bS h2,hx⟩))
theorem aAx {n:Nat} {qf:Nat->Nat} {f:Nat->Bool} (hn:os.Nodup)(hi:∀a b,a<n->b<n->qf a=qf b->a=b)(hm:∀a,a<n->qf a∈os)(hf:∀x∈os,f x=true->∃a,a<n/\x=qf a):
  os.countP f=((List.range n).filter fun a=>f (qf a)).length:=by
 have e:((List.range n).filter fun a=>f (qf a)).length=(((List.range n).filter fun a=>f (qf a)).map qf).length:=(bQ ..).symm;rw [List.countP_eq_length_filter,e];refine List.Perm.length_eq ?_;rw [List.perm_ext_iff_of_nodup (hn.filter _) ?_]
 .intro x;rw [cS,aV];constructor
  .rintro⟨h1,h2⟩;obtain⟨a,ha,rfl⟩:=hf x h1 h2;exact⟨a,cS.2 ⟨eG.2 ha,h2⟩,rfl⟩
  rintro⟨a,ha,rfl⟩;obtain⟨h1,h2⟩:=cS.1 ha;exact⟨hm a (eG.1 h1),h2⟩
 show List.Pairwise _ _
 rw [List.pairwise_map];refine List.Pairwise.imp_of_mem ?_ (Gn _ List.pairwise_lt_range);intro a b ha hb hlt e;have:=hi a b (eG.1 (cS.1 ha).1) (eG.1 (cS.1 hb).1) e;omega
structure CS where
 σ:List (List D)
 ql:List Nat
 a:List (List D)
 q:Nat
 ks:List Nat
structure CI(σ:List (List D))(i:Int)(v:VN)(j:Nat)(s:CS):Prop where
 len:σ.length<s.σ.length
 keep:∀p,p<σ.length->s.σ[p]?=σ[p]?
 at_:s.σ[σ.length]?=some (jG i v (.v (.pointer none)) s.ql)
 ko:KidsOk s.σ (fun p=>(σ.length<=p/\p<s.σ.length)/\σ.length<p) i v σ.length s.ql j
structure CR(σ:List (List D))(i:Int)(v:VN)(k:Nat)(j:Nat)(hj:j<v.kids.length)(s s':CS):Prop where
 gr:Ct prog 45 [.ref k 0] s.σ (fun r τ=>r= .ref s'.q 0/\τ=s'.a)
 a1:s'.a[σ.length]?=some (jG i v (.v (.pointer none)) s.ql)
 a2:s'.q≠σ.length
 a3:s'.a[s'.q]?=some (jG (pB i v j) v.kids[j] (.v (.pointer none)) s'.ks)
 ql:s'.ql=s.ql++ [s'.q]
 st:s'.σ=(s'.a.set s'.q (jG (pB i v j) v.kids[j] (.ref σ.length 0) s'.ks)).set σ.length (jG i v (.v (.pointer none)) s'.ql)
end Go.Proofs.YtbgfljpnhhdkoaaGreat
