import Derived.Test.YtbgfljpnhhdkoaaGreatVmS3
import Derived.Test.YtbgfljpnhhdkoaaGreatTeSw
import Derived.Test.YtbgfljpnhhdkoaaGreatWkTe7
set_option maxHeartbeats 8000000
set_option linter.all false
set_option maxRecDepth 20000
open Go.Proofs.Tryz
namespace Go.Proofs.YtbgfljpnhhdkoaaGreat
open Go Go.Vm Go.Proofs Go.RowKit
variable {args:List D}{g:Gh}{os:List Nat}{q:Nat}{st:St}{val:Nat->Value}{vs:Array Value}{w:World}{σ:List (List D)}
inductive IQ(σ:List (List D)):Nat->List Nat->Prop
 | mk (q : Nat) (cs : List D) (qs : List Nat) (oss : List (List Nat)) (hq : σ[q]? = some cs) (h26 : cs[26]? = some (.sl true (qs.map fun q => D.ref q 0))) (hlen : qs.length < 1000000) (hl : oss.length = qs.length)
   (hk:∀(j:Nat) (h1:j<qs.length) (h2:j<oss.length),IQ σ qs[j] oss[j]):IQ σ q (q::oss.flatten)
def bq(g:Gh)(q:Nat):Nat:=g.bs[q]?.getD 0
theorem aIh (ho:Ok w g st val) {i:Nat} {cs:List D} {d:D} (hq:st.obj[q]?=some cs)(hi:cs[i]?=some d):
  g.bs[q]?=some (bq g q)/\bq g q<w.heap.size/\∃x,w.cell? ⟨bq g q,i,none⟩=some x/\R g.M g.bs d x:=by
 have hlt:q<g.bs.length:=by rw [ho.ol];exact(aN.1 hq).1
 have hb:g.bs[q]?=some (bq g q):=by unfold bq;rw [aS hlt];rfl
 refine⟨hb,?_⟩;rcases ho.obj q _ cs hb hq with rfl | ⟨cur,E,hh,hs, -, -,hc⟩
 .simp at hi
 have hi2:i<cur.size:=by rw [hs];exact(aN.1 hi).1
 refine⟨(dK.1 hh).1,cur[i],by simp [World.cell?,hh,hi2],(hc i d cur[i] hi (by simp [hi2])).1⟩
theorem aK4 (ho:Ok w g st val) {i:Nat} {cs:List D} {k:Int} (hq:st.obj[q]?=some cs)(hi:cs[i]?=some (D.int k)):w.cell? ⟨bq g q,i,none⟩=some (.int .i64 k):=by
 obtain⟨-, -,x,h1,h2⟩:=aIh ho hq hi;cases h2 with
 | v _ _=>exact h1
theorem aQ6 {M:Mem} {bs:List Nat} {x:Value} (h:R M bs (.ref q 0) x):x=nN (bs[q]?.getD 0):=by
 cases h with
 | ref n o b hb=>rw [hb];rfl
theorem R.ptrs (ho:Ok w g st val) {o:Bool} {qs:List Nat} {x:Value} (h:R g.M g.bs (.sl o (qs.map fun q=>D.ref q 0)) x):PtrsAt w.heap.size w x (qs.map (bq g)):=by
 by_cases h0:qs= []
 .subst h0;simp only [iW] at h |-;cases h with
  | nil=>exact .inl ⟨none,0,rfl,rfl⟩
  | emp _ a cap _=>exact .inl ⟨some a,cap,rfl,rfl⟩
  | sl _ _ b off n cap k vs hl hn hk hc hm hr hs hx=>subst hn;exact .inl ⟨_,cap,rfl,rfl⟩
 obtain⟨b,off,cap,rfl, -, -,hc⟩:=h.cellsOf (by simpa using h0) (by
  intro d hd;obtain⟨q, -,rfl⟩:=aX.1 hd;rfl)
 have get:∀j (hj:j<(qs.map (bq g)).length),w.cell? ⟨b,off+j,none⟩=some (nN (qs.map (bq g))[j])/\b<w.heap.size:=fun j hj=>by
  have hj2:j<qs.length:=by simpa using hj
  obtain⟨y,hy,hs,hM⟩:=hc j (.ref qs[j] 0) (by simp [hj2]);have e:=aQ6 hy;have hM2:=hM y (by rw [e];rfl);refine⟨by rw [ho.mem _ _ _ hM2,e];simp [bq],ho.mlt hM2⟩
 have hpos:0<(qs.map (bq g)).length:=by simpa using List.length_pos_iff.2 h0
 refine .inr ⟨b,off,cap,by simp,(get 0 hpos).2,fun j hj=>(get j hj).1⟩
theorem IQ.iw (ho:Ok w g st val) (h:IQ st.obj q os):IW w.heap.size w (bq g q) (os.map (bq g)):=by
 induction h with
 | mk q cs qs oss hq h26 hlen hl hk ih=>
  obtain⟨-,hlt,x,hx,hr⟩:=aIh ho hq h26;rw [cE,List.map_flatten];refine .mk _ x (qs.map (bq g)) (oss.map (List.map (bq g))) hlt hx (R.ptrs ho hr) (by simpa using hlen) (by simp [hl]) fun j h1 h2=>?_;simp only [bQ] at h1 h2;simpa using ih j h1 h2
theorem IQ.len_pos (h:IQ σ q os):∃t,os=q::t:=by cases h;exact⟨_,rfl⟩
theorem aSm {d:D} (ho:Ok w g (St.ofArgs args σ) (cG vs))(i:Nat)(hi:args[i]?=some d):R g.M g.bs d (cG vs i):=by
 have e:(St.ofArgs args σ).env i= .d d:=by
  simp [St.ofArgs,fP,hi]
 have hs:=ho.slot i;rw [e] at hs;exact hs.1
theorem aTt (ho:Ok w g (St.ofArgs args σ) (cG vs))(i:Nat)(hi:args[i]?=some (.ref q 0)):cG vs i=nN (bq g q):=aQ6 (aSm ho i hi)
theorem aXt {f:Fn} (ho:Ok w g (St.ofArgs args σ) (cG vs))(i:Nat)(hi:args[i]?=some (.clo f [] [])):cG vs i= .func f #[] #[]:=by
 have h:=aSm ho i hi;generalize cG vs i=x at h;cases h with
 | clo _ _ _ v1 v2 l1 l2 _ _=>
 obtain rfl:v1=#[]:=Ph (by simpa using l1);obtain rfl:v2=#[]:=Ph (by simpa using l2);rfl
theorem aXf {k:Int} (ho:Ok w g (St.ofArgs args σ) (cG vs))(i:Nat)(hi:args[i]?=some (D.int k)):cG vs i= .int .i64 k:=by
 have h:=aSm ho i hi;generalize cG vs i=x at h;cases h with
 | v _ _=>rfl
theorem aXq {a:Value} (hs:vs.size=1)(h0:cG vs 0=a):vs=#[a]:=by
 apply Array.ext
 .simpa using hs
 intro i h1 h2;obtain rfl:i=0:=by simp at h2;omega
 simpa [cG,h1] using h0
theorem aWf {a b:Value} (hs:vs.size=2)(h0:cG vs 0=a)(h1:cG vs 1=b):vs=#[a,b]:=by
 apply Array.ext
 .simpa using hs
 intro i h2 h3;have:i=0\/i=1:=by simp at h3;omega
 rcases this with rfl | rfl
 .simpa [cG,h2] using h0
 simpa [cG,h2] using h1
theorem aGu (isf:Nat)(eg:∀args w,(callFunc isf args).run prog w= .ok (.enter isf args) w)(hI:IQ σ q os)(hN:os.length<1000000)(pq:Nat->Bool)
  (hw:∀(w:World) (g:Gh) (st:St) (val:Nat->Value),Ok w g st val->st.obj=σ->∃p:Nat->Bool,∀x∈os,p (bq g x)=pq x/\∀m W,Below w.heap.size w W->CallsIn Fence.wide m prog isf #[nN (bq g x)] W fun e W'=>e= .returned (.bool (p (bq g x)))/\Below W.heap.size W W'):
  Ct prog 99 [.ref q 0,.clo (.func isf) [] []] σ (fun r σ'=>r=D.int (os.countP pq:Nat)/\σ'=σ):=by
 refine⟨by kernel_rfl,fun w g vs hs hb ho=>?_⟩;obtain rfl:=aWf hs (aTt ho 0 rfl) (aXt ho 1 rfl);obtain⟨p,hp⟩:=hw w g _ _ ho rfl;refine((callsIn_wide (n:=3)).1 (aMk Fence.wide rfl 3 isf trivial eg trivial trivial trivial trivial rfl (by omega) _ _ w p (IQ.iw ho hI) (by simpa using hN) (fun b=>∃x∈os,bq g x=b) (fun b hb=>by simpa using hb)
  (fun b ⟨x,hx,e⟩ m W hW=>by subst e;exact(hp x hx).2 m W hW))).mono ?_
 rintro e w' ⟨rfl,hbel⟩;have ec:(os.map (bq g)).countP p=os.countP pq:=by
  rw [List.countP_map];exact List.countP_congr fun x hx=>by simp [(hp x hx).1]
 rw [ec];exact⟨D.int (os.countP pq:Nat),σ,_,g,rfl,⟨rfl,rfl⟩,hb,Fr.below g hbel,(ho.below hbel).res hb (D.int (os.countP pq:Nat)) _ (.v _ rfl) (.flat _ _ _ rfl)⟩
theorem aEx (hI:IQ σ q os)(hN:os.length<1000000)(k mv:Nat->Int)(hx:∀x∈os,∃cs,σ[x]?=some cs/\cs[15]?=some (D.int (k x))/\cs[16]?=some (D.int (mv x))):
  Ct prog 99 [.ref q 0,.clo (.func 100) [] []] σ (fun r σ'=>r=D.int (os.countP (fun x=> !(decide (k x=0) && decide (mv x=0))):Nat)/\σ'=σ):=
 aGu _ (enters_of func100 (by kernel_rfl) rfl) hI hN _ fun w g st val ho hs=>by
  refine⟨fun b=>match w.cell? ⟨b,15,none⟩,w.cell? ⟨b,16,none⟩with
   | some (.int _ k),some (.int _ m)=> !(decide (k=0) && decide (m=0))
   | _,_=>false,fun x hxm=>?_⟩
  obtain⟨cs,h1,h2,h3⟩:=hx x hxm;rw [<- hs] at h1;have c15:=aK4 ho h1 h2;have c16:=aK4 ho h1 h3;have hlt:=(aIh ho h1 h2).2.1;refine⟨by simp only [c15,c16],fun m W hW=>?_⟩;simp only [c15,c16];exact aNw Fence.wide m trivial rfl _ _ _ W ((hW.cell (p:=⟨bq g x,15,none⟩) hlt).trans c15) ((hW.cell (p:=⟨bq g x,16,none⟩) hlt).trans c16)
def aJi(idq:Nat->Int)(id:Int)(os:List Nat):D:=match os.find? (fun x=>decide (idq x=id))with
 | some x=> .ref x 0
 | none=> .v (.pointer none)
theorem IQ.inb (h:IQ σ q os):∀x∈os,x<σ.length:=by
 induction h with
 | mk q cs qs oss hq h26 hlen hl hk ih=>
  intro x hx;rcases bN.1 hx with rfl | hx
  .exact(aN.1 hq).1
  obtain⟨l,hl1,hl2⟩:=oQ.1 hx;obtain⟨j,hj,rfl⟩:=jA hl1;exact ih j (by omega) hj x hl2
theorem aP6 (id:Int)(hI:IQ σ q os)(idq:Nat->Int)(hx:∀x∈os,∃cs,σ[x]?=some cs/\cs[0]?=some (D.int (idq x))):
  Ct prog 47 [.ref q 0,D.int id] σ (fun r σ'=>r=aJi idq id os/\σ'=σ):=by
 refine⟨by kernel_rfl,fun w g vs hs hb ho=>?_⟩;obtain rfl:=aWf hs (aTt ho 0 rfl) (aXf ho 1 rfl);have hc:∀x∈os,w.cell? ⟨bq g x,0,none⟩=some (.int .i64 (idq x)):=fun x hm=>by
  obtain⟨cs,h1,h2⟩:=hx x hm;exact aK4 ho (show(St.ofArgs [D.ref q 0,D.int id] σ).obj[x]?=some cs from h1) h2
 let idf:Nat->Int:=fun b=>match w.cell? ⟨b,0,none⟩with
  | some (.int _ k)=>k
  | _=>0
 have hidf:∀x∈os,idf (bq g x)=idq x:=fun x hm=>by simp only [idf,hc x hm]
 refine((callsIn_wide (n:=3)).1 (aQf Fence.wide rfl 3 trivial trivial trivial trivial rfl (by omega) _ _ w idf id (IQ.iw ho hI) (fun b hb=>by
  obtain⟨x,hm,rfl⟩:=aX.1 hb;rw [hidf x hm];exact hc x hm))).mono ?_
 rintro e w' ⟨rfl,hbel⟩;have ef:(os.map (bq g)).find? (fun b=>decide (idf b=id))=(os.find? fun x=>decide (idq x=id)).map (bq g):=by
  rw [List.find?_map];congr 1;have:∀l:List Nat,(∀x∈l,x∈os)->l.find? ((fun b=>decide (idf b=id)) ∘ bq g)=l.find? fun x=>decide (idq x=id):=by
   intro l;induction l with
   | nil=>intro _;rfl
   | cons a l ih=>
    intro h;simp only [List.find?_cons,Function.comp,hidf a (h a dY)];rw [<- ih fun x hx=>h x (fW _ hx)]
  exact this os fun _ h=>h
 refine⟨aJi idq id os,σ,_,g,rfl,⟨rfl,rfl⟩,hb,Fr.below g hbel,(ho.below hbel).res hb _ _ ?_ ?_⟩
 .unfold aJi Wm;rw [ef];cases e:os.find? (fun x=>decide (idq x=id))with
  | none=>exact .v _ rfl
  | some x=>
   have hm:=Ft e;have hlt:x<g.bs.length:=by rw [ho.ol];exact hI.inb x hm
   exact .ref x 0 _ (by unfold bq;rw [aS hlt];rfl)
 refine .flat _ _ _ ?_;unfold aJi;split <;> rfl
open Go Go.Vm
def Sm(i:Int)(v:VN)(x:LK)(par:D)(qs:List Nat):List D:= [D.int i,D.int v.kind,D.str v.tag,D.str v.key,D.str v.text,.sl false (v.classes.map D.str),.sl false (v.attrs.map cY),.sl false (v.styles.map cQ),D.int v.opts.enter,D.int v.opts.leave,D.int v.opts.move,D.int v.opts.mode,D.bool v.opts.appear,D.bool v.opts.moves,.sl false [],
 D.int x.kind,D.int x.move,D.int x.DX,D.int x.DY,D.int 0,D.int 0,D.bool false,D.int 0,D.bool false,D.int 0,par,.sl true (qs.map fun q=>D.ref q 0)]
section
variable {m M l:Nat}{d:DS}{rk:Int->Nat}
end
theorem aQa(qf:Nat->Nat) {n j:Nat} (h:j<n):(List.range n)[j]?=some j:=qF h
def fl(p:Nat->Bool)(j:Nat):List Nat:=(List.range j).filter p
end Go.Proofs.YtbgfljpnhhdkoaaGreat
namespace Go.Vm
open Go
theorem Ok.rowResB {w w':World} {g:Gh} {st:St} {val:Nat->Value} (h:Ok w g st val)(hbl:g.bl= [])(hb:RowKit.Below w.heap.size w w')(G n cap k:Nat)(cur:Array Value)(E:TypeId)(es:List D)(vs:List Value)
  (hG:w.heap.size<=G) (hh:w'.heap[G]?=some (.cells cur E (0,0))) (hk:0<k) (hcs:cur.size=cap * k) (hn:n=es.length) (hn0:es≠ []) (hc:n<=cap) (hm:cap<=maxLen) (hl:vs.length=es.length)
  (hr:∀(M:Mem) (i:Nat) (d:D) (x:Value),es[i]?=some d->vs[i]?=some x->R M g.bs d x) (hs:∀(i:Nat) (d:D),es[i]?=some d->d.ncells=k)
  (hx:∀(i:Nat) (x:Value),vs[i]?=some x->x.cells.size=k/\∀(j:Nat) (c:Value),x.cells[j]?=some c->c.oneCell'=true/\cur[i * k+j]?=some c):
  ∃g',g'.bl= []/\Fr w g w' g'/\Ok w' g' (St.ofRes (.sl true es) st.obj) (fun t=>if t=0 then .slice (some ⟨G,0,none⟩) n cap else undef):=by
 have hG2:G<w'.heap.size:=(dK.1 hh).1;have hMG:∀o,g.M G o=none:=by
  intro o;cases hc':g.M G o with
  | none=>rfl
  | some c=>have:=h.mlt hc';omega
 have hXG:g.X G=none:=by
  cases hc':g.X G with
  | none=>rfl
  | some c=>have:=h.xlt G c hc';omega
 have h':=h.below hb
 let g':Gh:= { M:=fun b o=>if b=G then(if o<n * k then cur[o]? else none)else g.M b o,X:=fun b=>if b=G then some (.slot 0, [])else g.X b,bl:=g.bl,bs:=g.bs }
 have hle:g.M.le g'.M:=by
  intro b o c hc';by_cases hbG:b=G
  .subst hbG;rw [hMG] at hc';cases hc'
  show(if b=G then _ else g.M b o)=some c
  rw [aD hbG];exact hc'
 have hkk:∀(hd:Holder) (b:Nat) (q:List Nat),g.X b=some (hd,q)->w'.heap[b]?=w'.heap[b]?/\(∀o,g.M b o=none->g'.M b o=none)/\g'.X b=some (hd,q):=by
  intro hd b q hq;have hbG:b≠G:=by rintro rfl;rw [hXG] at hq;cases hq
  refine⟨rfl,fun o ho=>?_,?_⟩
  .show(if b=G then _ else g.M b o)=none
   rw [aD hbG];exact ho
  show(if b=G then _ else g.X b)=_
  rw [aD hbG];exact hq
 refine⟨g',hbl,⟨hb.os,hb.tape,hb.output,hb.size,fun b hb' hx'=>⟨hb.block b hb',?_,fun o=>?_⟩,hle,fun _ _ h=>h⟩,⟨?_,?_,fun t=>?_,by simp [St.ofRes,g',hbl],fun m b cs hn'=>by simp [g',hbl] at hn',h.ol,
  fun m b cs a1 a2=>(h'.obj m b cs a1 a2).keep hle (fun _ _ h=>h) (hkk _)⟩⟩
 .show(if b=G then _ else g.X b)=none
  rw [aD (by omega)];exact hx'
 .show(if b=G then _ else g.M b o)=_
  rw [aD (by omega)]
 .intro b o c hc';change (if b=G then(if o<n * k then cur[o]? else none)else g.M b o)=some c at hc';by_cases hbG:b=G
  .subst hbG;rw [aL rfl] at hc';split at hc'
   .simpa [World.cell?,hh] using hc'
   cases hc'
  rw [aD hbG] at hc';exact h'.mem b o c hc'
 .intro b t hx';change (if b=G then some (.slot 0, [])else g.X b)=some t at hx';by_cases hbG:b=G
  .subst hbG;exact hG2
  rw [aD hbG] at hx';exact h'.xlt b t hx'
 by_cases ht:t=0
 .subst ht;simp only [aU];refine⟨?_,?_⟩
  .refine .sl true es G 0 n cap k vs hl hn hk hc hm (hr _) hs fun i x hi=>⟨(hx i x hi).1,fun j c hj=>⟨((hx i x hi).2 j c hj).1,?_⟩⟩;have hj2:j<k:=by
    have:=(dK.1 hj).1;rw [(hx i x hi).1] at this;exact this
   have hi2:i<n:=by
    rw [hn,<- hl];exact(aN.1 hi).1
   have hlt:i * k+j<n * k:=by
    have:=fS k (show i+1<=n from hi2);rw [cW,yU] at this;omega
   show(if G=G then(if 0+(i * k+j)<n * k then cur[0+(i * k+j)]? else none)else g.M G _)=some c
   rw [aL rfl,eI,aL hlt];exact((hx i x hi).2 j c hj).2
  refine .sl [] es _ (.inr ⟨G,n,cap,k,cur,E,rfl,hn0,?_,hh,hk,hcs,hn,hc,hm,fun o ho=>?_,hs⟩)
  .show(if G=G then _ else g.X G)=_
   rw [aL rfl]
  show(if G=G then(if o<n * k then cur[o]? else none)else g.M G o)=none
  rw [aL rfl,aD (by omega)]
 simp only [ht,bJ,St.ofRes,fP];rw [gQ (by simp;omega)];exact⟨.any _,.flat _ _ _ rfl⟩
end Go.Vm
namespace Go.Proofs.YtbgfljpnhhdkoaaGreat
open Go Go.Vm Go.Proofs Go.RowKit
variable {i:Int}{l os:List Nat}{q:Nat}{v:VN}{σ:List (List D)}
theorem aHm (hI:IQ σ q os)(hN:os.length<1000000):
  Ct prog 46 [.ref q 0] σ (fun r σ'=>r= .sl true (os.map fun q=>D.ref q 0)/\σ'=σ):=by
 refine⟨by kernel_rfl,fun w g vs hs hb ho=>?_⟩;obtain rfl:=aXq hs (aTt ho 0 rfl);refine((callsIn_wide (n:=3)).1 (aHh Fence.wide rfl 3 trivial trivial trivial trivial rfl (by omega) _ _ w (IQ.iw ho hI) (by simpa using hN))).mono ?_;rintro e w' ⟨v,rfl,hrow,hne,hbel⟩;have hpos:os≠ []:=by obtain⟨t,e⟩:=hI.len_pos;rw [e];simp
 rcases hrow.2 with ⟨rfl,h0⟩ | ⟨G,cap',cur,rfl,hG,hh,hc1,hc2,hcs,htk⟩
 .exact absurd (by simpa using h0) hpos
 obtain⟨g',h1,h2,h3⟩:=ho.rowResB hb hbel G os.length cap' 1 cur 84 (os.map fun q=>D.ref q 0) ((os.map (bq g)).map nN) hG hh (by omega) (by rw [hcs]) (by simp) (by simpa using hpos) (by simpa using hc1) hc2 (by simp)
  (by
   intro M i d x hd hx;rw [cD] at hd hx;obtain⟨y,hy,rfl⟩:=dE.1 hd;rw [cD,hy] at hx;simp at hx;subst hx;have hlt:y<g.bs.length:=by rw [ho.ol];exact hI.inb y (bD hy)
   exact .ref y 0 _ (by unfold bq;rw [aS hlt];rfl))
  (by
   intro i d hd;rw [cD] at hd;obtain⟨y,hy,rfl⟩:=dE.1 hd;rfl)
  (by
   intro i x hx;refine⟨?_,fun j c hj=>?_⟩
   .rw [cD] at hx;obtain⟨y,hy,rfl⟩:=dE.1 hx;rfl
   have hx2:=hx;rw [cD] at hx;obtain⟨y,hy,rfl⟩:=dE.1 hx;have hj0:j=0/\c=nN y:=by
    match j,hj with
    | 0,hj=>simp [Value.cells] at hj;exact⟨rfl,hj.symm⟩
    | j+1,hj=>simp [Value.cells] at hj
   obtain⟨rfl,rfl⟩:=hj0;refine⟨rfl,?_⟩;rw [<- htk,eJ] at hx2;split at hx2
   .simpa using hx2
   cases hx2)
 exact⟨_,σ,_,g',rfl,⟨rfl,rfl⟩,h1,h2,by simp only [bQ];exact h3⟩
open Go Go.Vm
theorem xI {α:Type} {P:Nat->α->Prop} :∀(n:Nat),(∀j,j<n->∃x,P j x)->∃l:List α,l.length=n/\∀(j:Nat) (hj:j<l.length),P j l[j]
 | 0,_=>⟨[],rfl,fun j hj=>absurd hj (by simp)⟩
 | n+1,h=>by
  obtain⟨l,h1,h2⟩:=xI n fun j hj=>h j (by omega);obtain⟨x,hx⟩:=h n (by omega);refine⟨l++ [x],by simp [h1],fun j hj=>?_⟩;by_cases hjl:j<l.length
  .rw [uO hjl];exact h2 j hjl
  have:j=n:=by simp at hj;omega
  subst this;rw [uR (by omega)];simpa using hx
inductive Sq(σ:List (List D)):Int->List Nat->Prop
 | nil (i:Int):Sq σ i []
 | cons (i:Int) (x:Nat) (l:List Nat) (w:VN) (p:Nat) (rs:List Nat) (hx:σ[x]?=some (fZ i w (.ref p 0) rs)) (hl:Sq σ (i+1) l):Sq σ i (x::l)
theorem Sq.append {A B:List Nat} (h:Sq σ i A):Sq σ (i+(A.length:Int)) B->Sq σ i (A++B):=by
 induction h with
 | nil i=>intro h;simpa using h
 | cons i x l w p rs hx hl ih=>
  intro h;refine .cons i x _ w p rs hx (ih ?_);rw [show i+1+(l.length:Int)=i+((x::l).length:Int) by simp;omega];exact h
theorem Sq.flat :∀(ks:List VN) (oss:List (List Nat)) (s:Int),oss.length=ks.length->(∀(j:Nat) (h1:j<oss.length) (h2:j<ks.length) (h3:j<(gL s ks).length),Sq σ ((gL s ks)[j]) oss[j]/\oss[j].length=cJ ks[j])->
  Sq σ s oss.flatten/\oss.flatten.length=(ks.map cJ).sum
 | [],oss,s,hl,h=>by
  obtain rfl:=yN.1 hl;exact⟨.nil s,rfl⟩
 | k::ks, [],s,hl,h=>by simp at hl
 | k::ks,o::oss,s,hl,h=>by
  obtain⟨a1,a2⟩:=h 0 (by simp) (by simp) (by simp [gL]);have a1':Sq σ s o:=a1;have a2':o.length=cJ k:=a2;obtain⟨b1,b2⟩:=Sq.flat ks oss (s+cJ k) (by simpa using hl) fun j h1 h2 h3=>h (j+1) (by simpa using h1) (by simpa using h2) (by simpa [gL] using h3);refine⟨?_,by rw [oK,aY,b2,a2',cE,iX]⟩;rw [oK];exact a1'.append (by rw [a2'];exact b1)
theorem aMc {i2:Int} {v2:VN} {p p2:D} {a b:List Nat} (h:fZ i v p a=fZ i2 v2 p2 b):i=i2/\a=b:=by
 unfold fZ at h;simp only [List.cons.injEq,D.v.injEq,Value.int.injEq,D.sl.injEq,true_and,oT] at h;refine⟨by first | exact h.1 | exact h.1.2,?_⟩;have hm:a.map (fun q=>D.ref q 0)=b.map (fun q=>D.ref q 0):=by
  have:=h.2;first | exact this.2.2.2.2.2.2.2.2.2.2.2.2.2.2 | simp_all
 have:∀(a b:List Nat),a.map (fun q=>D.ref q 0)=b.map (fun q=>D.ref q 0)->a=b:=by
  intro a;induction a with
  | nil=>intro b h;cases b with
   | nil=>rfl
   | cons y b=>simp at h
  | cons x a ih =>
   intro b h;cases b with
   | nil=>simp at h
   | cons y b=>
    simp only [cE,List.cons.injEq,D.ref.injEq,oT] at h;rw [h.1,ih b h.2]
 exact this a b hm
theorem Sq.has (h:Sq σ i l):∀x∈l,∃(j:Int) (w:VN) (p:Nat) (rs:List Nat),i<=j/\σ[x]?=some (fZ j w (.ref p 0) rs):=by
 induction h with
 | nil i=>intro x hx;cases hx
 | cons i x l w p rs hx hl ih=>
  intro y hy;rcases bN.1 hy with rfl | hy
  .exact⟨i,w,p,rs,mA _,hx⟩
  obtain⟨j,w2,p2,r2,h1,h2⟩:=ih y hy;exact⟨j,w2,p2,r2,by omega,h2⟩
theorem Sq.nodup (h:Sq σ i l):l.Nodup:=by
 induction h with
 | nil i=>exact tQ
 | cons i x l w p rs hx hl ih=>
  rw [gW];refine⟨fun hm=>?_,ih⟩;obtain⟨j,w2,p2,r2,h1,h2⟩:=hl.has x hm;rw [hx] at h2;have:=(aMc (nB h2)).1;omega
theorem Sq.at_ (h:Sq σ i l):∀(a:Nat) (ha:a<l.length),∃(w:VN) (p:Nat) (rs:List Nat),σ[l[a]]?=some (fZ (i+(a:Int)) w (.ref p 0) rs):=by
 induction h with
 | nil i=>intro a ha;simp at ha
 | cons i x l w p rs hx hl ih =>
  intro a ha;cases a with
  | zero=>exact⟨w,p,rs,by simpa using hx⟩
  | succ b=>
   obtain⟨w2,p2,r2,h2⟩:=ih b (by simpa using ha);exact⟨w2,p2,r2,by rw [show i+((b+1:Nat):Int)=i+1+(b:Int) by omega];exact h2⟩
theorem ItOk.ord {F:Nat->Prop} {par:D} (hc:cJ v<=9999)(h:ItOk σ F i v par q):
  ∃t,IQ σ q (q::t)/\t.length+1=cJ v/\Sq σ (i+1) t/\(∀x∈t,F x/\q<x)/\∀i2 w2 p2 qs,σ[q]?=some (fZ i2 w2 p2 qs)->∀x∈qs,x∈t:=by
 induction h with
 | mk F i v par q qs hF hq hl hk ih =>
  have hP:∀j,j<qs.length->∃o:List Nat,∀(h1:j<v.kids.length) (h2:j<qs.length) (h3:j<(gL (i+1) v.kids).length),∃t,o=qs[j]::t/\IQ σ qs[j] o/\o.length=cJ v.kids[j]/\Sq σ ((gL (i+1) v.kids)[j]) o/\∀x∈o,F x/\q<x:=by
   intro j hj;have h1:j<v.kids.length:=by omega
   have h3:j<(gL (i+1) v.kids).length:=by rw [mW];exact h1
   have hcv:=eL (bP h1);obtain⟨t,t1,t2,t3,t4, -⟩:=ih j h1 hj h3 (by omega);obtain⟨rs,r1, -⟩:=(hk j h1 hj h3).at_;refine⟨qs[j]::t,fun _ _ _=>⟨t,rfl,t1,by simpa using t2,.cons _ _ _ _ q rs r1 t3,fun x hx=>?_⟩⟩;rcases bN.1 hx with rfl | hx
   .exact(hk j h1 hj h3).F_
   exact(t4 x hx).1
  obtain⟨oss,o1,o2⟩:=xI qs.length hP;have hlen:=lP v;have hsq:=Sq.flat (σ:=σ) v.kids oss (i+1) (by omega) fun j h1 h2 h3=>by
   obtain⟨t,e,a1,a2,a3,a4⟩:=o2 j h1 h2 (by omega) h3;exact⟨a3,a2⟩
  refine⟨oss.flatten,.mk q _ qs oss hq rfl (by omega) o1 (fun j h1 h2=>?_),by rw [hsq.2,jI];omega,hsq.1,fun x hx=>?_,fun i2 w2 p2 qs2 e x hx=>?_⟩
  .obtain⟨t,e,a1,a2,a3,a4⟩:=o2 j h2 (by omega) h1 (by rw [mW];omega);exact a1
  .obtain⟨o,ho,hxo⟩:=oQ.1 hx;obtain⟨j,hj,rfl⟩:=jA ho;obtain⟨t,e,a1,a2,a3,a4⟩:=o2 j hj (by omega) (by omega) (by rw [mW];omega);exact⟨(a4 x hxo).1,(a4 x hxo).2⟩
  rw [hq] at e;have:=(aMc (nB e)).2;subst this;obtain⟨j,hj,rfl⟩:=jA hx;obtain⟨t,e,a1,a2,a3,a4⟩:=o2 j (by omega) (by omega) hj (by rw [mW];omega);exact oQ.2 ⟨_,bP (by omega:j<oss.length),by rw [e];exact dY⟩
theorem IQ.frame {τ:List (List D)} (h:IQ σ q os)(hf:∀x∈os,∀cs,σ[x]?=some cs->∃cs2,τ[x]?=some cs2/\cs2[26]?=cs[26]?):IQ τ q os:=by
 induction h with
 | mk q cs qs oss hq h26 hlen hl hk ih=>
  obtain⟨cs2,c1,c2⟩:=hf q dY cs hq;refine .mk q cs2 qs oss c1 (c2.trans h26) hlen hl fun j h1 h2=>ih j h1 h2 fun x hx=>hf x (fW _ (oQ.2 ⟨_,bP h2,hx⟩))
theorem Yd {n:Nat} {qf:Nat->Nat} {f:Nat->Bool} (hn:os.Nodup)(hi:∀a b,a<n->b<n->qf a=qf b->a=b)(hm:∀a,a<n->qf a∈os)(hf:∀x∈os,f x=true->∃a,a<n/\x=qf a):
  os.countP f=((List.range n).filter fun a=>f (qf a)).length:=by
 have e:((List.range n).filter fun a=>f (qf a)).length=(((List.range n).filter fun a=>f (qf a)).map qf).length:=(bQ ..).symm;rw [List.countP_eq_length_filter,e];refine List.Perm.length_eq ?_;rw [List.perm_ext_iff_of_nodup (hn.filter _) ?_]
 .intro x;rw [cX,aX];constructor
  .rintro⟨h1,h2⟩;obtain⟨a,ha,rfl⟩:=hf x h1 h2;exact⟨a,cX.2 ⟨dZ.2 ha,h2⟩,rfl⟩
  rintro⟨a,ha,rfl⟩;obtain⟨h1,h2⟩:=cX.1 ha;exact⟨hm a (dZ.1 h1),h2⟩
 show List.Pairwise _ _
 rw [List.pairwise_map];refine List.Pairwise.imp_of_mem ?_ (Fh _ List.pairwise_lt_range);intro a b ha hb hlt e;have:=hi a b (dZ.1 (cX.1 ha).1) (dZ.1 (cX.1 hb).1) e;omega
theorem Zo(q:Nat)(i:Int)(v:VN)(par:D)(n:Nat)(kf p:Nat->Nat)(st a:Nat->List (List D))(nx:Nat->Int)(ws:Nat->VN)(ks:Nat->List Nat)(σ:List (List D))(hq:σ[q]?=some (fZ i v par ((List.range n).map kf)))(hn:n<=9999)(h0:st 0=σ++ [fZ i v (.v (.pointer none)) []])(hG:∀j,j<n->Ct prog 45 [.ref (kf j) 0] (st j) (fun r τ=>r= .ref (p j) 0/\τ=a j))(hs:∀j,j<=n->(st j)[q]?=some (fZ i v par ((List.range n).map kf))/\(st j)[σ.length]?=some (fZ i v (.v (.pointer none)) (Ws p j)))(ha:∀j,j<n->(a j)[σ.length]?=some (fZ i v (.v (.pointer none)) (Ws p j))/\p j≠σ.length/\(a j)[p j]?=some (fZ (nx j) (ws j) (.v (.pointer none)) (ks j)))(hst:∀j,j<n->st (j+1)=((a j).set (p j) (fZ (nx j) (ws j) (.ref σ.length 0) (ks j))).set σ.length (fZ i v (.v (.pointer none)) (Ws p (j+1)))):Ct prog 45 [.ref q 0] σ (fun r σ'=>r= .ref σ.length 0/\σ'=st n):=by
 refine zf func45 ?_;have hlt:=nX hq;have hqa:∀J,(σ++J)[q]?=some (fZ i v par ((List.range n).map kf)):=fun J=>(bB hlt).trans hq;simp only [fZ] at hq hqa;refine zr ⟨[27],[],[3],[],[]⟩ fun _ _ Z=>?_;simp[fZ,aJ,aG,hq,hqa];apply Z;refine zr ⟨[27],[],[3],[],[]⟩ fun _ _ Z=>?_;simp[fZ,aJ,aG,hq,hqa];and_intros<;>(try omega);apply Z;refine zr ⟨[27],[],[3],[],[]⟩ fun _ _ Z=>?_;simp[fZ,aJ,aG,hq,hqa];apply Z;apply aE;refine zr ⟨[27],[],[3],[],[]⟩ fun _ _ Z=>?_;simp[fZ,aJ,aG,hq,hqa];and_intros<;>(try omega);apply Z;apply aR;refine zk [2,3,15,16,17] ?_;refine nK (fun(j:Nat)=> [(17,.d (.v (.int .i64 (j:Int)))),(5,.d (.any)),(6,.d (.any))]) (fun(j:Nat)=> []) (fun(j:Nat)=>st j) [5,6,17,18,19,20,21,22,23,24,25,26,27,28,29,30,31,32] (fun(j:Nat)=>j<=n) (fun(j:Nat)=>n - j) (0) (by simp <;> rfl) ?_ (by simp) (by rw [h0];rfl) ?_ ?_
 .simp
 .simp
 rintro j hj;simp only [aQ,aP];have hsj:=(hs j hj).1;simp only [fZ] at hsj;have hql:=Sj p j;refine zr ⟨[27],[],[3],[],[]⟩ fun _ _ Z=>?_;simp[fZ,aJ,aG,hq,hqa,hsj];apply Z;apply aE;refine zI ?_ ?_<;>intro c1<;>try simp at c1
 .have hrg:=aQa kf c1;apply kP;refine zr ⟨[27],[],[3],[],[]⟩ fun _ _ Z=>?_;simp[fZ,aJ,aG,hq,hqa,hsj,hrg];and_intros<;>(try omega);apply Z;refine zr ⟨[27],[],[3],[],[]⟩ fun _ _ Z=>?_;refine zs 1 fun _ Y=>?_;simp[fZ,aJ,aG,hq,hqa,hsj,hrg];apply Y;refine aF fun _ Y=>?_;simp[fZ,aJ,aG,hq,hqa,hsj,hrg];refine cU (hG j (by omega)) ?_;obtain⟨ha1,ha2,ha3⟩:=ha j (by omega);have g1:∀c,((a j).set (p j) c)[σ.length]?=some (fZ i v (.v (.pointer none)) (Ws p j)):=fun c=>by rw [dF ha2];exact ha1
  have g2:∀c c2,(((a j).set (p j) c).set σ.length c2)[p j]?=some c:=fun c c2=>by rw [dF (fun e=>ha2 e.symm)];exact aM ha3 c
  have g3:∀c c2,(((a j).set (p j) c).set σ.length c2)[σ.length]?=some c2:=fun c c2=>aM (g1 c) c2;simp only [fZ] at ha3 g1;have hso:=hst j (by omega);simp only [fZ,xB,cN,cE,iW] at hso;apply Y;simp[fZ,aJ,aG,hq,hqa,hsj,hrg,ha3,g1,g2,g3];apply Z;refine zk [2,3,5,6,15,16,17] ?_;refine zr ⟨[27],[],[3],[],[]⟩ fun _ _ Z=>?_;simp[fZ,aJ,aG,hq,hqa,hsj,hrg,ha3,g1,g2,g3];apply Z;refine zt ⟨[27],[],[3],[],[]⟩ fun _ _ Z=>?_;simp[fZ,aJ,aG,hq,hqa,hsj,hrg,ha3,g1,g2,g3];and_intros<;>(try omega);apply Z;apply zB;refine zk [2,3,5,6,15,16,17] ?_;refine zt ⟨[27],[],[3],[],[]⟩ fun _ _ Z=>?_;simp[fZ,aJ,aG,hq,hqa,hsj,hrg,ha3,g1,g2,g3];and_intros<;>(try omega);apply Z;refine fU (j+1) ?_ ?_ (eN rfl ?_ (by simp) (by rw [hso];rfl))
  .omega
  .try dsimp only
   omega
  simp[fZ,aJ,aG,hq,hqa,hsj,hrg,ha3,g1,g2,g3]
 obtain rfl:j=n:=by omega
 apply zE;refine zr ⟨[27],[],[3],[],[]⟩ fun _ _ Z=>?_;simp[fZ,aJ,aG];apply Z;apply aC;simp [aH]
theorem aQb {a:Nat} (hj:a<v.kids.length)(h3:a<(gL (i+1) v.kids).length):(gL (i+1) v.kids)[a]=nO i v a:=by
 have h4:gL (i+1) v.kids=gL (i+1) (v.kids.take a)++gL (i+1+((((v.kids.take a).map cJ).sum:Nat):Int)) (v.kids.drop a):=by
  have:∀(A B:List VN) (s:Int),gL s (A++B)=gL s A++gL (s+(((A.map cJ).sum:Nat):Int)) B:=by
   intro A;induction A with
   | nil=>intro B s;simp [gL]
   | cons c A ih=>
    intro B s;simp only [aQ,gL,ih,cE,iX];congr 3;omega
  rw [<- this,eO]
 have h5:(gL (i+1) (v.kids.take a)).length=a:=by rw [mW,bG];omega
 have h6:(gL (i+1) v.kids)[a]?=some (nO i v a):=by
  rw [h4,bX (by omega),h5,lD,uW hj];simp [gL,nO,uB]
 rw [aS h3] at h6;exact nB h6
structure CS where
 σ:List (List D)
 ql:List Nat
 a:List (List D)
 q:Nat
 ks:List Nat
structure CI(σ:List (List D))(i:Int)(v:VN)(j:Nat)(s:CS):Prop where
 len:σ.length<s.σ.length
 keep:∀p,p<σ.length->s.σ[p]?=σ[p]?
 at_:s.σ[σ.length]?=some (fZ i v (.v (.pointer none)) s.ql)
 ko:KidsOk s.σ (fun p=>(σ.length<=p/\p<s.σ.length)/\σ.length<p) i v σ.length s.ql j
structure CR(σ:List (List D))(i:Int)(v:VN)(k:Nat)(j:Nat)(hj:j<v.kids.length)(s s':CS):Prop where
 gr:Ct prog 45 [.ref k 0] s.σ (fun r τ=>r= .ref s'.q 0/\τ=s'.a)
 a1:s'.a[σ.length]?=some (fZ i v (.v (.pointer none)) s.ql)
 a2:s'.q≠σ.length
 a3:s'.a[s'.q]?=some (fZ (nO i v j) v.kids[j] (.v (.pointer none)) s'.ks)
 ql:s'.ql=s.ql++ [s'.q]
 st:s'.σ=(s'.a.set s'.q (fZ (nO i v j) v.kids[j] (.ref σ.length 0) s'.ks)).set σ.length (fZ i v (.v (.pointer none)) s'.ql)
def aLn(σ:List (List D))(i:Int)(v:VN)(q:Nat):Prop:=
 ∃σ',Ct prog 45 [.ref q 0] σ (fun r τ=>r= .ref σ.length 0/\τ=σ')/\σ.length<σ'.length/\(∀p,p<σ.length->σ'[p]?=σ[p]?)/\ItOk σ' (fun p=>σ.length<=p/\p<σ'.length) i v (.v (.pointer none)) σ.length
theorem Zs {j k:Nat} (hj:j<v.kids.length)(s:CS)(h:CI σ i v j s)(ih:aLn s.σ (nO i v j) v.kids[j] k):∃s',CR σ i v k j hj s s'/\CI σ i v (j+1) s':=by
 obtain⟨a,c1,l1,k1,it1⟩:=ih;obtain⟨ks,hks,it2⟩:=it1.par_ (.ref σ.length 0);have hlen:=h.len;have hac:a[σ.length]?=some (fZ i v (.v (.pointer none)) s.ql):=(k1 _ hlen).trans h.at_;have hsc:∀c,(a.set s.σ.length c)[σ.length]?=some (fZ i v (.v (.pointer none)) s.ql):=fun c=>by rw [dF (by omega)];exact hac
 refine⟨⟨(a.set s.σ.length (fZ (nO i v j) v.kids[j] (.ref σ.length 0) ks)).set σ.length (fZ i v (.v (.pointer none)) (s.ql++ [s.σ.length])),s.ql++ [s.σ.length],a,s.σ.length,ks⟩,⟨c1,hac,by show s.σ.length≠σ.length;omega,hks,rfl,rfl⟩,⟨?_,fun p hp=>?_,aM (hsc _) _,?_⟩⟩
 .show σ.length<((a.set _ _).set _ _).length
  rw [bY,bY];omega
 .show((a.set _ _).set _ _)[p]?=_
  rw [dF (by omega),dF (by omega),k1 p (by omega),h.keep p hp]
 refine KidsOk.snoc (KidsOk.frame (fun p hp=>?_) h.ko) hj (it2.frame fun p hp=>?_)
 .obtain⟨⟨p1,p2⟩,p3⟩:=hp;refine⟨⟨⟨p1,?_⟩,p3⟩,?_⟩
  .show p<((a.set _ _).set _ _).length
   rw [bY,bY];omega
  show((a.set _ _).set _ _)[p]?=_
  rw [dF (by omega),dF (by omega),k1 p p2]
 obtain⟨p1,p2⟩:=hp;refine⟨⟨⟨by omega,?_⟩,by omega⟩,?_⟩
 .show p<((a.set _ _).set _ _).length
  rw [bY,bY];omega
 show((a.set _ _).set _ _)[p]?=_
 rw [dF (by omega)]
theorem Pn:∀(v:VN),cJ v<=9999->∀ {i:Int} {par:D} {q:Nat} {σ:List (List D)} {F:Nat->Prop},ItOk σ F i v par q->(∀p,F p->p<σ.length)->aLn σ i v q
 | v, hc, i, par, q, σ, F, it, hF9 => by
  cases it with
  | mk _ _ _ _ _ qs hF hq hl hk =>
   have hcv:=lP v;have hqs:(List.range v.kids.length).map (fun j=>qs[j]?.getD 0)=qs:=by
    apply Gg
    .simp [hl]
    intro j h1 h2;simp [h2]
   have h0:CI σ i v 0 ⟨σ++ [fZ i v (.v (.pointer none)) []], [], [],0, []⟩:=⟨by simp,fun p hp=>bB hp,by simp,.zero ..⟩;obtain⟨S,S0,hI,hR⟩:=Kj (Inv:=CI σ i v) (Rel:=fun j s s'=>∃hj,CR σ i v (qs[j]?.getD 0) j hj s s') v.kids.length _ h0 fun j hj s hs=>by
    have hck:=eL (bP hj);have hjq:j<qs.length:=by omega
    have h3:j<(gL (i+1) v.kids).length:=by rw [mW];exact hj
    have hit:=hk j hj hjq h3;have hit2:ItOk s.σ (fun p=>F p/\q<p) ((gL (i+1) v.kids)[j]) v.kids[j] (.ref q 0) qs[j]:=hit.frame fun p hp=>⟨hp,hs.keep p (hF9 p hp.1)⟩;rw [aQb hj h3] at hit2;have hlen:=hs.len;obtain⟨s',r1,r2⟩:=Zs hj s hs (Pn v.kids[j] (by omega) hit2 fun p hp=>by have:=hF9 p hp.1;omega);rw [show qs[j]?.getD 0=qs[j] by simp [hjq]];exact⟨s',⟨hj,r1⟩,r2⟩
   have hql:∀j,j<=v.kids.length->(S j).ql=Ws (fun j=>(S (j+1)).q) j:=by
    intro j;induction j with
    | zero=>intro _;rw [S0];rfl
    | succ j ih=>
     intro hj;obtain⟨hj2,r⟩:=hR j (by omega);rw [r.ql,ih (by omega),xB]
   have fin:=hI v.kids.length (aV _);refine⟨(S v.kids.length).σ,?_,fin.len,fin.keep,?_⟩
   .have hq2:σ[q]?=some (fZ i v par ((List.range v.kids.length).map fun j=>qs[j]?.getD 0)):=by rw [hqs];exact hq
    refine Zo q i v par v.kids.length (fun j=>qs[j]?.getD 0) (fun j=>(S (j+1)).q) (fun j=>(S j).σ) (fun j=>(S (j+1)).a) (nO i v) (fun j=>v.kids[j]?.getD v) (fun j=>(S (j+1)).ks) σ hq2 (by omega) (by show(S 0).σ=_;rw [S0]) (fun j hj=>?_) (fun j hj=>?_) (fun j hj=>?_) fun j hj=>?_
    .obtain⟨hj2,r⟩:=hR j hj;exact r.gr
    .refine⟨((hI j hj).keep q (nX hq)).trans hq2,?_⟩;rw [<- hql j hj];exact(hI j hj).at_
    .obtain⟨hj2,r⟩:=hR j hj;have e:v.kids[j]?.getD v=v.kids[j]:=by simp [hj]
     exact⟨by rw [<- hql j (by omega)];exact r.a1,r.a2,by show _=some (fZ _ (v.kids[j]?.getD v) _ _);rw [e];exact r.a3⟩
    obtain⟨hj2,r⟩:=hR j hj;have e:v.kids[j]?.getD v=v.kids[j]:=by simp [hj]
    show(S (j+1)).σ=((S (j+1)).a.set _ (fZ _ (v.kids[j]?.getD v) _ _)).set _ _
    rw [e,<- hql (j+1) hj];exact r.st
   exact(fin.ko.frame fun p hp=>⟨hp,rfl⟩).done ⟨aV _,nX fin.at_⟩ fin.at_
termination_by v=>cJ v
decreasing_by
 have:=eL (bP hj);omega
end Go.Proofs.YtbgfljpnhhdkoaaGreat
