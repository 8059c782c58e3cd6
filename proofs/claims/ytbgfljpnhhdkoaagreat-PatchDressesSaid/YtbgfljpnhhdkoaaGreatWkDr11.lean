import Derived.Test.YtbgfljpnhhdkoaaGreatPaDl
import Derived.Test.YtbgfljpnhhdkoaaGreatVmX7
set_option linter.all false
set_option maxHeartbeats 8000000
set_option maxRecDepth 20000
open Go.Proofs.Tryz
namespace Go.Proofs.YtbgfljpnhhdkoaaGreat
open Go Go.Vm
variable {k m M l:Nat} {d d':DS} {rk rk':Int->Nat} {σ σ2:List (List D)} {x y:RD} {ops:List TOp} {i:Int} {o:OW}
theorem aOq(h:IX k m M d rk x σ)(i:Int)(o:OW):Jw (aG d.l i) (eN d.l i) o=uD (aG x.l i) (eN x.l i) i o:=by
 rw [Te h,aAo h];unfold Jw uD;cases e:eN d.l i with
 | false=>rfl
 | true=>
  obtain⟨n,n1,n2,n3⟩:=fE e;rw [n3,n2]
theorem aU7 {n:ND} {is:Bool} (h:uD n is i o=0):is=true/\¬i=0/\n.kind=2/\∀s∈iO o,fF s=true:=by
 unfold uD at h;split at h
 .cases h
 split at h
 .cases h
 split at h
 .cases h
 split at h
 .cases h
 rename_i a b c e;refine⟨by cases is <;> simp_all,b,by omega,fun s hs=>?_⟩;cases q:fF s with
 | true=>rfl
 | false=>exact absurd (lU.2 ⟨s,hs,by simp [q]⟩) e
theorem aYj {α β γ δ:Type} {A:List α} {B:List β} {C:List γ} {f:α->δ} {g:β->δ} {e:γ->δ} {O:List δ} (hO:O=A.map f++B.map g++C.map e):(∀j (h:j<A.length) (h':j<O.length),O[j]=f A[j])/\(∀j (h:j<B.length) (h':A.length+j<O.length),O[A.length+j]=g B[j])/\(∀j (h:j<C.length) (h':A.length+B.length+j<O.length),O[A.length+B.length+j]=e C[j]):=by
 subst hO;refine⟨fun j h h'=>?_,fun j h h'=>?_,fun j h h'=>?_⟩
 .rw [Hn (by simp;omega),Hn (by simpa using h),jM]
 .rw [Hn (by simp;omega),Hi (by simp),jM];congr 2;simp
 rw [Hi (by simp),jM];congr 2;simp
structure Dressed(k m M l:Nat)(i:Int)(o:OW)(x:RD)(ops:List TOp)(k':Nat)(d':DS)(rk':Int->Nat)(y:RD)(ops':List TOp)(σ':List (List D)):Prop where
 lx:LX k' m M l d' rk' y ops' σ'
 kk:k'<=4 * k+24
 op:ops'=ops++Tx i (aG x.l i) (eN x.l i) o
 path:∀x0,RPath x0 ops x->RPath x0 ops' y
 has:uD (aG x.l i) (eN x.l i) i o=0->uD (aG y.l i) (eN y.l i) i o=0/\iP (aG y.l i) o= []
theorem Yh(h:LX k m M l d rk x ops σ)(hk:k<=150)(i:Int)(o:OW)(h1:o.classes.length<=8)(h2:o.attrs.length<=8)(h3:o.styles.length<=8)(hs:∀s∈iO o,s.size<=9223372036854775807)(hv:∀p∈o.attrs,p.value.size<=1000)(ho:OwOk o)(hn:NmsOk x):
  ∃k' d' rk' y ops' σ',Ct prog 55 [.ref l 0,D.int i,Yz o] σ (fun r τ=>r=D.int (uD (aG x.l i) (eN x.l i) i o)/\τ=σ')/\Dressed k m M l i o x ops k' d' rk' y ops' σ':=by
 have hm:=aOq h.ix i o;by_cases he:uD (aG x.l i) (eN x.l i) i o=0
 .obtain⟨b1,b2,b3,b4⟩:=aU7 he;have hsa:Sorted nA (aG x.l i).attrs:=by rw [Te h.ix];exact aM1 h.ix.iv i
  have hss:Sorted nP (aG x.l i).styles:=by rw [Te h.ix];exact aOh h.ix.iv i
  obtain⟨n,n1,n2,n3⟩:=fE b1;have hq:=aI8 ho hsa hss (by rw [n3];exact hn n n1) b4 hv;obtain⟨n',r1,r2,r3,r4,r5,r6⟩:=aHl ho hsa hss;have hsz:=h.ix.iv.ip.sz (aG d.l i) (by
   rw [aAo h.ix] at b1;obtain⟨q,q1,q2,q3⟩:=fE b1;rw [q3];exact q1)
  rw [<- Te h.ix] at hsz;obtain⟨-,z1,z2,z3⟩:=hsz;have g1:=Mj (aG x.l i).classes o.classes;have g2:=zP nA zD (aG x.l i).attrs o.attrs;have g3:=zP nP Ao (aG x.l i).styles o.styles;have g4:=jQ (aG x.l i).classes;have g5:=jQ o.classes;have hlen:(iP (aG x.l i) o).length=(jG (aG x.l i).classes o.classes).length+(jF nA zD (aG x.l i).attrs o.attrs).length+(jF nP Ao (aG x.l i).styles o.styles).length:=by unfold iP;simp;omega
  obtain⟨st,cs,e0,e1,e2⟩:=aBz (i:=i) (iP (aG x.l i) o) k ⟨d,rk,x,ops,σ⟩ h (by omega) fun q hq'=>⟨by have:=aHm (hq q hq').1;omega,(hq q hq').2⟩;have es:(st 0).x=x:=by rw [e0]
  obtain⟨a1,a2,a3⟩:=aB4 b2 (iP (aG x.l i) o) (fun j=>(st j).x) cs n' (by show((st 0).x.l.map ND.ID).Nodup;rw [es];exact(aV3 h.ix).nd) (by show eN (st 0).x.l i=true;rw [es];exact b1) (by show(aG (st 0).x.l i).kind=2;rw [es];exact b3)
   (fun j hj=>(e2 j hj).2.2.1) (fun q hq'=>(hq q hq').1) (by show uT (aG (st 0).x.l i) _=_;rw [es];exact r1)
  obtain⟨hlx, -⟩:=e1 _ (aV _);have hop:∀j,j<=(iP (aG x.l i) o).length->(st j).ops=ops++((iP (aG x.l i) o).take j).map (fun q=>q.top i):=by
   intro j;induction j with
   | zero=>intro _;rw [e0];simp
   | succ j ih=>
    intro hj;rw [(e2 j (by omega)).2.1,a1 j (by omega),ih (by omega),bK _ j (by omega),dK];unfold Nv;rw [aI rfl,bM];rfl
  have hpa:∀x0,RPath x0 ops x->∀j,j<=(iP (aG x.l i) o).length->RPath x0 (st j).ops (st j).x:=by
   intro x0 h0 j;induction j with
   | zero=>intro _;rw [e0];exact h0
   | succ j ih=>
    intro hj;obtain⟨-,q2, -,q4⟩:=e2 j (by omega);rw [a1 j (by omega)] at q2 q4;rw [q2];unfold Nv;rw [aI rfl];exact(ih (by omega)).snoc q4
  have hd:=Te h.ix;refine⟨_,_,_,_,_,_,?_,⟨hlx,by omega,?_,fun x0 h0=>hpa x0 h0 _ (aV _),fun _=>⟨?_,?_⟩⟩⟩
  .rw [he,hlen];obtain⟨c1,c2,c3⟩:=aYj (O:=iP (aG x.l i) o) rfl;have e3:∀j (h:j<(iP (aG x.l i) o).length),Ct prog (iP (aG x.l i) o)[j].lf (.ref l 0::(iP (aG x.l i) o)[j].la i) (st j).σ (fun r τ=>r=D.int (cs j)/\τ=(st (j+1)).σ):=fun j hj=>(e2 j hj).1;have:=Ot k m M l d rk x ops i o (fun j=>(st j).σ) cs σ h (by omega) (by omega) (by omega) (by omega) hs (by rw [hm];exact he) (by show(st 0).σ=σ;rw [e0])
    (by
     rw [<- hd];intro j hj;have q:=e3 j (by omega);have e:(iP (aG x.l i) o)[j]'(by omega)=cOp (jG (aG x.l i).classes o.classes)[j]:=c1 j hj _;rw [e] at q;exact q)
    (by
     rw [<- hd];intro j hj;have q:=e3 ((jG (aG x.l i).classes o.classes).length+j) (by omega);have e:(iP (aG x.l i) o)[(jG (aG x.l i).classes o.classes).length+j]'(by omega)=aOp (jF nA zD (aG x.l i).attrs o.attrs)[j]:=c2 j hj _;rw [e] at q;exact q)
    (by
     rw [<- hd];intro j hj;have q:=e3 ((jG (aG x.l i).classes o.classes).length+(jF nA zD (aG x.l i).attrs o.attrs).length+j) (by omega);have e:(iP (aG x.l i) o)[(jG (aG x.l i).classes o.classes).length+(jF nA zD (aG x.l i).attrs o.attrs).length+j]'(by omega)=sOp (jF nP Ao (aG x.l i).styles o.styles)[j]:=c3 j hj _;rw [e] at q;exact q)
   rw [<- hd] at this;exact this
  .rw [hop _ (aV _),eH];unfold Tx;rw [aI he,aFu ho hsa hss]
  .have a2':eN (st (iP (aG x.l i) o).length).x.l i=true:=a2;have a3':aG (st (iP (aG x.l i) o).length).x.l i=n':=a3;rw [a2',a3'];unfold uD;rw [aC (by simp),aC b2,aC (by rw [r3,b3];simp),aC];rw [lU];rintro⟨s,s1,s2⟩;rw [b4 s s1] at s2;cases s2
  have a3':aG (st (iP (aG x.l i) o).length).x.l i=n':=a3;rw [a3'];exact Uv ho r4 r5 r6
 refine⟨k,d,rk,x,ops,σ,?_,⟨h,by omega,?_,fun x0 h0=>h0,fun q=>absurd q he⟩⟩
 .rw [<- hm];exact aDn k m M l d rk x ops i o σ h (by omega) (by omega) (by omega) (by omega) hs (by rw [hm];exact he)
 unfold Tx;rw [aC he];simp
theorem Zv {n:ND} (h:iP n o= []):jG n.classes o.classes= []/\jF nA zD n.attrs o.attrs= []/\jF nP Ao n.styles o.styles= []:=by
 unfold iP at h;simpa [and_assoc] using h
theorem Tn(h:LX k m M l d rk x ops σ)(hk:k<=790)(h1:o.classes.length<=8)(h2:o.attrs.length<=8)(h3:o.styles.length<=8)(hs:∀s∈iO o,s.size<=9223372036854775807)(hm:uD (aG x.l i) (eN x.l i) i o=0)(ho:iP (aG x.l i) o= []):
  Ct prog 55 [.ref l 0,D.int i,Yz o] σ (fun r τ=>r=D.int 0/\τ=σ):=by
 rw [Te h.ix] at ho;obtain⟨e1,e2,e3⟩:=Zv ho;have:=Ot k m M l d rk x ops i o (fun _=>σ) (fun _=>0) σ h (by omega) (by omega) (by omega) (by omega) hs (by rw [aOq h.ix i o];exact hm) rfl
  (fun j hj=>by rw [e1] at hj;simp at hj) (fun j hj=>by rw [e2] at hj;simp at hj) (fun j hj=>by rw [e3] at hj;simp at hj)
 exact this
end Go.Proofs.YtbgfljpnhhdkoaaGreat
namespace Go.Vm
open Go
variable {rr:Option Nat} {dfr:List Deferred}
theorem Ok.freezeB {w:World} {g:Gh} {st:St} {val:Nat->Value} (h:Ok w g st val)(n i N len cap k:Nat)(cs ds es:List D)(hn:st.loc[n]?=some cs)(hi:cs[i]?=some (.slo N 0 len cap))(hN:st.obj[N]?=some ds)(hk:0<k)(hcs:ds.length=cap * k)(hl:es.length=len)
  (hes:∀d∈es,d.ncells=k/\d.arr=true) (he:es.flatMap D.cells<+:ds):
  ∃g':Gh,g'.bl=g.bl/\Fr w g w g'/\Ok w g' { st with loc:=st.loc.set n (cs.set i (.sl false es)),obj:=st.obj.set N [] } val:=by
 have hnl:=(aM.1 hn).1;have hNl:=(aM.1 hN).1;obtain⟨bn,hbn⟩:∃bn,g.bl[n]?=some bn:=⟨_,aQ (by rw [h.ll];exact hnl)⟩;obtain⟨b,hbN⟩:∃b,g.bs[N]?=some b:=⟨_,aQ (by rw [h.ol];exact hNl)⟩;have hne:cs≠ []:=by rintro rfl;simp at hi
 obtain⟨curn,En,m1,m2,m3,m4,m5⟩:=(h.loc n bn cs hbn hn).resolve_left hne;have hil:=(aM.1 hi).1;obtain⟨v,hvi⟩:∃v,curn[i]?=some v:=⟨_,bO (by rw [m2];exact hil)⟩;obtain⟨hr,_,hone⟩:=m5 i _ v hi hvi;have hlen:∀d∈es,d.cells.length=k:=fun d hd=>by rw [fC];exact(hes d hd).1
 -- what is known for good
 obtain⟨M',t1,t2,t3,t4⟩:∃M':Mem,g.M.le M'/\(∀(b':Nat) (t:nD),g.X b'=some t->t.1≠ .obj N->∀o,g.M b' o=none->M' b' o=none)/\(∀(b' o:Nat) (c:Value),M' b' o=some c->w.cell? ⟨b',o,none⟩=some c)/\
   (R M' g.bs (.sl false es) v/\∀(b':Nat),g.X b'=none->∀o,M' b' o=g.M b' o):=by
  cases hr with
  | slo _ _ _ _ x hb hc hmx=>
  by_cases hes0:es= []
  .subst hes0;have hl0:len=0:=by simpa using hl.symm
   subst hl0;refine⟨g.M,fun _ _ _ h=>h,fun _ _ _ _ _ h=>h,h.mem,?_,fun _ _ _=>rfl⟩;cases x with
   | some a=>exact .emp _ a cap hmx
   | none=>
    rcases zS cap with hc0 | hc0
    .subst hc0;exact .nil _
    obtain⟨_,_,e⟩:=hb hc0;cases e
  have hcap0:0<cap:=by
   have:0<es.length:=Fj.2 hes0;omega
  obtain⟨b',hb2,rfl⟩:=hb hcap0;have ebb:b'=b:=by rw [hbN] at hb2;simpa using hb2.symm
  subst ebb;have hdne:ds≠ []:=by
   intro e;rw [e] at hcs;have:0<cap * k:=qT hcap0 hk;simp at hcs;omega
  obtain⟨cur,E,o1,o2,o3,o4,o5⟩:=(h.obj N b' ds hb2 hN).resolve_left hdne;have hfit:∀i,i<es.length->i * k+k<=es.length * k:=fun i hi=>by
   have:(i+1) * k<=es.length * k:=iG _ hi;rw [dP] at this;omega
  have hcap:es.length * k<=cur.size:=by rw [o2,hcs];exact iG _ (by omega)
  have o9:∀(o:Nat) (c:Value),cur[o]?=some c->c.oneCell'=true:=fun o c ho=>by
   have hlt:=(dO.1 ho).1;rw [o2] at hlt;exact(o5 o _ c (aQ hlt) ho).2.2
  have hle:g.M.le (fun b2 o=>if b2=b' then(if o<es.length * k then cur[o]? else none)else g.M b2 o):=fun b2 o c hc=>by
   by_cases e:b2=b'
   .subst e;rw [o4] at hc;cases hc
   simp only [aC e];exact hc
  refine⟨fun b2 o=>if b2=b' then(if o<es.length * k then cur[o]? else none)else g.M b2 o,hle,fun b2 t hx ht o ho=>?_,fun b2 o c hc=>?_,?_,fun b2 hx o=>?_⟩
  .have:b2≠b':=by intro e;subst e;rw [o3] at hx;simp only [bC] at hx;subst hx;exact ht rfl
   simp only [aC this];exact ho
  .by_cases e:b2=b'
   .subst e;simp only [aU] at hc;split at hc
    .rw [cell_of_row w b2 o cur E (0,0) o1];exact hc
    cases hc
   simp only [aC e] at hc;exact h.mem b2 o c hc
  .have el:∀(i:Nat) (d:D),es[i]?=some d->R (fun b2 o=>if b2=b' then(if o<es.length * k then cur[o]? else none)else g.M b2 o) g.bs d (Nu cur k i d)/\(Nu cur k i d).cells.size=k/\∀(j:Nat) (c:Value),(Nu cur k i d).cells[j]?=some c->j<k/\cur[i * k+j]?=some c:=by
    intro i d hi;have hil:=(aM.1 hi).1;have:=hfit i hil;obtain⟨r1,r2,r3⟩:=aAa (M:=g.M) (bs:=g.bs) (cur:=cur) (i:=i) (hes d (bA hi)).1 (hes d (bA hi)).2 (by omega) o9 (fun j e hj=>by
     have hcell:=Cy hk es hlen hi hj;obtain⟨rest,hrest⟩:=he;have hcc:ds[i * k+j]?=some e:=by
      rw [<- hrest,aW (by exact(aM.1 hcell).1)];exact hcell
     have hlt:=(aM.1 hcc).1;rw [<- o2] at hlt;exact⟨_,bO hlt,(o5 _ e _ hcc (bO hlt)).1⟩) hk
    exact⟨r1.mono hle (fun _ _ h=>h),r2,r3⟩
   have hvs:∀(i:Nat) (x:Value),(es.mapIdx fun i d=>Nu cur k i d)[i]?=some x->∃d,es[i]?=some d/\x=Nu cur k i d:=by
    intro i x hi;rw [List.getElem?_mapIdx,dY] at hi;obtain⟨d,h1,h2⟩:=hi;exact⟨d,h1,h2.symm⟩
   refine .sl false es b' 0 _ cap k (es.mapIdx fun i d=>Nu cur k i d) (by simp) hl.symm hk (by omega) hmx (fun i d x a1 a2=>?_) (fun i d hi=>(hes d (bA hi)).1) (fun i x a2=>?_)
   .obtain⟨d',h1,rfl⟩:=hvs i x a2;rw [a1] at h1;have:d=d':=by simpa using h1
    subst this;exact(el i d a1).1
   obtain⟨d',h1,rfl⟩:=hvs i x a2;obtain⟨r1,r2,r3⟩:=el i d' h1;refine⟨r2,fun j c hj=>?_⟩;obtain⟨hj1,hj2⟩:=r3 j c hj;have:=hfit i (aM.1 h1).1;refine⟨o9 _ c hj2,?_⟩;simp only [aU,fG];rw [aI (by omega)];exact hj2
  have:b2≠b':=by intro e;subst e;rw [o3] at hx;cases hx
  simp only [aC this]
 have other:∀(hd:Holder),hd≠ .obj N->∀(b':Nat) (q:List Nat),g.X b'=some (hd,q)->w.heap[b']?=w.heap[b']?/\(∀o,g.M b' o=none->M' b' o=none)/\g.X b'=some (hd,q):=
  fun hd hne b' q hx=>⟨rfl,t2 b' _ hx hne,hx⟩
 refine⟨{ g with M:=M' },rfl,⟨rfl,rfl,rfl,aV _,fun b' hb' hx=>⟨rfl,hx,t4.2 b' hx⟩,t1,fun _ _ h=>h⟩,t3,h.xlt,fun u=>?_,by simp [h.ll],fun n' b' cs' h1 h2=>?_,by simp [h.ol],fun n' b' cs' h1 h2=>?_⟩
 .exact(h.slot u).keep t1 (fun _ _ h=>h) (fun _ _ h=>h) (other _ (by simp))
 .rw [bP] at h2;split at h2
  .rename_i e;subst e;have h2':cs.set i (.sl false es)=cs':=by simpa [hnl] using h2
   subst h2';have ebm:b'=bn:=by rw [hbn] at h1;simpa using h1.symm
   subst ebm;refine .inr ⟨curn,En,m1,by simpa using m2,m3,fun o=>t2 _ _ m3 (by simp) o (m4 o),fun j d x a1 a2=>?_⟩;rw [bP] at a1;split at a1
   .rename_i e;subst e;have hd:D.sl false es=d:=by first | (simpa [hil] using a1) | exact a1
    subst hd;have hx:x=v:=by rw [hvi] at a2;simpa using a2.symm
    subst hx;exact⟨t4.1,.flat _ _ _ rfl,hone⟩
   obtain⟨r1,r2,r3⟩:=m5 j d x a1 a2;exact⟨r1.mono t1 (fun _ _ h=>h),r2.keep t1 (fun _ _ h=>h) (other _ (by simp)),r3⟩
  exact(h.loc n' b' cs' h1 h2).keep t1 (fun _ _ h=>h) (other _ (by simp))
 rw [bP] at h2;split at h2
 .exact .inl (by simpa [hNl] using h2.symm)
 rename_i e;exact(h.obj n' b' cs' h1 h2).keep t1 (fun _ _ h=>h) (other _ (by simp;exact fun e'=>e e'.symm))
theorem Ig {P:Program} (i0 i N len cap k:Nat)(cs ds es:List D) {c:Code} {n:Nat} {l:List (Nat×Slot)} {loc obj:List (List D)} {Q:Exit->St->Prop} (hn:loc[i0]?=some cs)(hi:cs[i]?=some (.slo N 0 len cap))(hN:obj[N]?=some ds)(hk:0<k)(hcs:ds.length=cap * k)(hl:es.length=len)
  (hes:∀d∈es,d.ncells=k/\d.arr=true) (he:es.flatMap D.cells<+:ds) (h:eK rr dfr P c Q (St.mk' n l (loc.set i0 (cs.set i (.sl false es))) (obj.set N []))):eK rr dfr P c Q (St.mk' n l loc obj):=by
 intro w0 g0 w g tmps hf hok hn0;obtain⟨g',_,hfr,hok'⟩:=hok.freezeB i0 i N len cap k cs ds es hn hi hN hk hcs hl hes he;exact h w0 g0 w g' tmps (hf.trans hfr) hok' hn0
end Go.Vm
namespace Go.Proofs.YtbgfljpnhhdkoaaGreat
open Go Go.Vm
variable {α:Type}
structure OPT where
 enter:Int
 leave:Int
 move:Int
 mode:Int
 appear:Bool
 moves:Bool
 deriving DecidableEq
@[simp] abbrev aW7(s:OPT):D:= .agg [.v (.int .i64 s.enter),.v (.int .i64 s.leave),.v (.int .i64 s.move),.v (.int .i64 s.mode),.v (.bool s.appear),.v (.bool s.moves)]
structure FL where
 deep:Int
 kind:Int
 tag:ByteArray
 key:ByteArray
 text:ByteArray
 classes:(List ByteArray)
 attrs:(List AT)
 styles:(List PI)
 opts:OPT
 deriving DecidableEq
@[simp] abbrev Yp(s:FL):D:= .agg [.v (.int .i64 s.deep),.v (.int .i64 s.kind),.v (.string s.tag),.v (.string s.key),.v (.string s.text),.sl false (s.classes.map D.str),.sl false (s.attrs.map dU),.sl false (s.styles.map cM),.v (.int .i64 s.opts.enter),.v (.int .i64 s.opts.leave),.v (.int .i64 s.opts.move),.v (.int .i64 s.opts.mode),.v (.bool s.opts.appear),.v (.bool s.opts.moves)]
@[simp] abbrev bAa(s:FL):D:= .agg [.v (.int .i64 s.deep),.v (.int .i64 s.kind),.v (.string s.tag),.v (.string s.key),.v (.string s.text),.sl true (s.classes.map D.str),.sl true (s.attrs.map dU),.sl true (s.styles.map cM),.v (.int .i64 s.opts.enter),.v (.int .i64 s.opts.leave),.v (.int .i64 s.opts.move),.v (.int .i64 s.opts.mode),.v (.bool s.opts.appear),.v (.bool s.opts.moves)]
structure VN where
 kind:Int
 tag:ByteArray
 key:ByteArray
 text:ByteArray
 classes:(List ByteArray)
 attrs:(List AT)
 styles:(List PI)
 opts:OPT
 kids:(List VN)
def aIv(s:VN):D:= .agg [.v (.int .i64 s.kind),.v (.string s.tag),.v (.string s.key),.v (.string s.text),.sl false (s.classes.map D.str),.sl false (s.attrs.map dU),.sl false (s.styles.map cM),.v (.int .i64 s.opts.enter),.v (.int .i64 s.opts.leave),.v (.int .i64 s.opts.move),.v (.int .i64 s.opts.mode),.v (.bool s.opts.appear),.v (.bool s.opts.moves),.sl false (s.kids.attach.map fun k=>aIv k.1)]
termination_by SizeOf.sizeOf s
decreasing_by
 have h:=List.sizeOf_lt_of_mem k.2;cases s;simp at h |-;omega
@[simp] abbrev aHo(s:VN):D:= .agg [.v (.int .i64 s.kind),.v (.string s.tag),.v (.string s.key),.v (.string s.text),.sl false (s.classes.map D.str),.sl false (s.attrs.map dU),.sl false (s.styles.map cM),.v (.int .i64 s.opts.enter),.v (.int .i64 s.opts.leave),.v (.int .i64 s.opts.move),.v (.int .i64 s.opts.mode),.v (.bool s.opts.appear),.v (.bool s.opts.moves),.sl false (s.kids.map aIv)]
@[simp] abbrev aZw(s:VN):D:= .agg [.v (.int .i64 s.kind),.v (.string s.tag),.v (.string s.key),.v (.string s.text),.sl true (s.classes.map D.str),.sl true (s.attrs.map dU),.sl true (s.styles.map cM),.v (.int .i64 s.opts.enter),.v (.int .i64 s.opts.leave),.v (.int .i64 s.opts.move),.v (.int .i64 s.opts.mode),.v (.bool s.opts.appear),.v (.bool s.opts.moves),.sl true (s.kids.map aIv)]
@[simp] theorem aX6(s:VN):aIv s=aHo s:=by rw [aIv];simp
def Au(l:Ls)(n:Nat):Ls:=(l.take n).map (uC 20)
def aYi(p:PI):PI:=⟨uC 20 p.name,p.value⟩
def aYn(p:AT):AT:=⟨uC 20 p.name,uC 40 p.value⟩
def Ar(l:List PI)(n:Nat):List PI:=(l.take n).map aYi
def Dg(l:List AT)(n:Nat):List AT:=(l.take n).map aYn
theorem aGn(l:List ByteArray)(k:Nat)(h:k<l.length):Au l (k+1)=Au l k++ [uC 20 l[k]]:=by
 unfold Au;rw [bK l k h,dK];rfl
theorem aVj(l:List ByteArray):Au l 0= []:=rfl
theorem Mx(l:List ByteArray)(n:Nat):(Au l n).length<=n:=by simp [Au];omega
theorem aLp(l:List ByteArray)(k n:Nat)(h:l.length<=k)(hn:k<=n):Au l k=Au l n:=by
 unfold Au;rw [bL h,bL (sQ h hn)]
theorem aFy(l:List PI)(k:Nat)(h:k<l.length):Ar l (k+1)=Ar l k++ [⟨uC 20 l[k].name,l[k].value⟩]:=by
 unfold Ar;rw [bK l k h,dK];rfl
theorem aUj(l:List PI):Ar l 0= []:=rfl
theorem Lp(l:List PI)(n:Nat):(Ar l n).length<=n:=by simp [Ar];omega
theorem aIz(l:List PI)(k n:Nat)(h:l.length<=k)(hn:k<=n):Ar l k=Ar l n:=by
 unfold Ar;rw [bL h,bL (sQ h hn)]
theorem aHk(l:List AT)(k:Nat)(h:k<l.length):Dg l (k+1)=Dg l k++ [⟨uC 20 l[k].name,uC 40 l[k].value⟩]:=by
 unfold Dg;rw [bK l k h,dK];rfl
theorem aSw(l:List AT):Dg l 0= []:=rfl
theorem Kg(l:List AT)(n:Nat):(Dg l n).length<=n:=by simp [Dg];omega
theorem aLv(l:List AT)(k n:Nat)(h:l.length<=k)(hn:k<=n):Dg l k=Dg l n:=by
 unfold Dg;rw [bL h,bL (sQ h hn)]
@[simp] abbrev q40_1:Cfg:=⟨[4,5,18,26],[],[],[],[]⟩
theorem aTy(l:Ls)(n:Nat)(σ:List (List D))(hl:l.length<=9223372036854775807)(hn:n<=1000000):Ct prog 169 [dl l,D.int n] σ (fun r σ'=>r= .sl true ((Au l n).map D.str)/\σ'=σ):=by
 refine zf func169 ?_;refine zr q40_1 fun _ _ Z=>?_;simp(disch:=omega);apply Z;refine zr q40_1 fun _ _ Z=>?_;simp(disch:=omega);apply Z;apply aF;refine zr q40_1 fun _ _ Z=>?_;simp(disch:=omega);apply Z;apply aS;refine zk [0,1,4,5,6] ?_;refine aZ (fun(k:Nat)=> [(6,.d (.int (k:Int))),(5,.d (.sl true ((Au l k).map D.str)))]) [5,6,7,8,9,10,11,12,13,14,15,16,17,18,19,20,21,22,23,24,25] (fun(k:Nat)=>k<=l.length/\k<=n) (fun(k:Nat)=>l.length - k) (0) (by simp <;> rfl) ?_ ?_ ?_
 .simp [aVj]
 .simp
 rintro k ⟨hk,hn2⟩;simp only [aP,aN];have hfl:=Mx l k;apply aF;refine pB q40_1 fun all hall _ Z=>?_;have ga4:aT all 4=some 11:=hall 4;refine zs 5 fun _ Y=>?_;simp(disch:=omega)[ga4];and_intros<;>(try omega);apply Y;refine zb 11 ?_ ?_<;>intro g1<;>try simp at g1
 .simp(disch:=omega)[ga4];apply Z;refine zI ?_ ?_<;>intro c2<;>try simp at c2
  .apply kR;refine zk [0,1,4,5,6] ?_;refine zt q40_1 fun _ _ Z=>?_;refine zs 5 fun _ Y=>?_;simp(disch:=omega);and_intros<;>(try omega);apply Y;refine aE fun _ Y=>?_;simp(disch:=omega);refine cB (wX _ 20 _ (by omega)) ?_;apply Y;simp(disch:=omega);and_intros<;>(try omega);apply Z;apply zB;refine zk [0,1,4,5,6] ?_;refine zt q40_1 fun _ _ Z=>?_;simp(disch:=omega);and_intros<;>(try omega);apply Z;refine zq (k+1) ?_ ?_ ?_
   .omega
   .try dsimp only
    omega
   simp(disch:=omega)[aGn]
  apply zE;refine zk [4,5] ?_;refine zr q40_1 fun _ _ Z=>?_;simp(disch:=omega);apply Z;apply aD;simp [aK];rw [show k=n by omega]
 simp(disch:=omega)[ga4];apply Z;refine bS (t:=false) (by simp) (fun h=>by cases h) (fun _=>?_);apply zE;refine zk [4,5] ?_;refine zr q40_1 fun _ _ Z=>?_;simp(disch:=omega);apply Z;apply aD;simp [aK];rw [aLp l k n (by omega) (by omega)]
@[simp] abbrev q40_2:Cfg:=⟨[4,5,18,33],[],[],[],[]⟩
theorem aQn(l:List PI)(n:Nat)(σ:List (List D))(hl:l.length<=9223372036854775807)(hn:n<=1000000):Ct prog 170 [.sl false (l.map cM),D.int n] σ (fun r σ'=>r= .sl true ((Ar l n).map cM)/\σ'=σ):=by
 refine zf func170 ?_;refine zr q40_2 fun _ _ Z=>?_;simp(disch:=omega);apply Z;refine zr q40_2 fun _ _ Z=>?_;simp(disch:=omega);apply Z;apply aF;refine zr q40_2 fun _ _ Z=>?_;simp(disch:=omega);apply Z;apply aS;refine zk [0,1,4,5,6] ?_;refine aZ (fun(k:Nat)=> [(6,.d (.int (k:Int))),(5,.d (.sl true ((Ar l k).map cM)))]) [5,6,7,8,9,10,11,12,13,14,15,16,17,18,19,20,21,22,23,24,25,26,27,28,29,30,31,32] (fun(k:Nat)=>k<=l.length/\k<=n) (fun(k:Nat)=>l.length - k) (0) (by simp <;> rfl) ?_ ?_ ?_
 .simp [aUj]
 .simp
 rintro k ⟨hk,hn2⟩;simp only [aP,aN];have hfl:=Lp l k;apply aF;refine pB q40_2 fun all hall _ Z=>?_;have ga4:aT all 4=some 11:=hall 4;refine zs 5 fun _ Y=>?_;simp(disch:=omega)[ga4];and_intros<;>(try omega);apply Y;refine zb 11 ?_ ?_<;>intro g1<;>try simp at g1
 .simp(disch:=omega)[ga4];apply Z;refine zI ?_ ?_<;>intro c2<;>try simp at c2
  .apply kR;refine zk [0,1,4,5,6] ?_;refine ze q40_2 [.op {},.op {},.op {},.op {},.op {},.op {},.pure,.op {},.op {},.op {},.op {},.op {},.op {},.op {},.op {},.op {}] fun all hall _ Z=>?_;refine iU 6 fun _ Y=>?_;simp(disch:=omega);and_intros<;>(try omega);apply Y;refine dL fun _ Y=>?_;simp(disch:=omega);refine Ia (fun _=>(wX _ 20 _ (by omega))) ?_;apply Y;refine iU 8 fun _ Y=>?_;simp(disch:=omega);and_intros<;>(try omega);apply Y;simp(disch:=omega);apply Z;apply zB;refine zk [0,1,4,5,6] ?_;refine zt q40_2 fun _ _ Z=>?_;simp(disch:=omega);and_intros<;>(try omega);apply Z;refine zq (k+1) ?_ ?_ ?_
   .omega
   .try dsimp only
    omega
   simp(disch:=omega)[aFy]
  apply zE;refine zk [4,5] ?_;refine zr q40_2 fun _ _ Z=>?_;simp(disch:=omega);apply Z;apply aD;simp [aK];rw [show k=n by omega]
 simp(disch:=omega)[ga4];apply Z;refine bS (t:=false) (by simp) (fun h=>by cases h) (fun _=>?_);apply zE;refine zk [4,5] ?_;refine zr q40_2 fun _ _ Z=>?_;simp(disch:=omega);apply Z;apply aD;simp [aK];rw [aIz l k n (by omega) (by omega)]
def iN(f:FL):VN:=⟨f.kind,uC 20 f.tag,uC 20 f.key,uC 70 f.text,Au f.classes 4,Dg f.attrs 4,Ar f.styles 4,f.opts, []⟩
abbrev FO(f:FL):Prop:=f.classes.length<=9223372036854775807/\f.attrs.length<=9223372036854775807/\f.styles.length<=9223372036854775807
theorem aIc(f:FL)(σ:List (List D))(h:FO f):Ct prog 89 [Yp f] σ (fun r σ'=>r=aHo (iN f)/\∃J,σ'=σ++J):=by
 refine zf func89 ?_;have h5:=h.1;have h6:=h.2.1;have h7:=h.2.2;refine zr ⟨[37],[],[3],[],[]⟩ fun _ _ Z=>?_;simp(disch:=omega)[aY,aL,aR,aJ];apply Z;refine zd ⟨[37],[],[3],[],[]⟩ [.op {},.op {rL:=true},.op {},.op {rL:=true},.pure,.op {},.op {rL:=true},.pure,.op {},.op {rL:=true},.pure,.op {},.op {rL:=true},.pure,.op {},.op {rL:=true},.pure,.op {},.op {rL:=true},.op {},.op {rO:=true,wO:=true},.op {rO:=true,wO:=true}] fun all hall _ Z=>?_;refine iU 4 fun _ Y=>?_;simp(disch:=omega)[aY,aL,aR,aJ];apply Y;refine dL fun _ Y=>?_;simp(disch:=omega)[aY,aL,aR,aJ];refine Ia (fun _=>(wX f.tag 20 _ (by omega))) ?_;apply Y;refine iU 2 fun _ Y=>?_;simp(disch:=omega)[aY,aL,aR,aJ];apply Y;refine dL fun _ Y=>?_;simp(disch:=omega)[aY,aL,aR,aJ];refine Ia (fun _=>(wX f.key 20 _ (by omega))) ?_;apply Y;refine iU 2 fun _ Y=>?_;simp(disch:=omega)[aY,aL,aR,aJ];apply Y;refine dL fun _ Y=>?_;simp(disch:=omega)[aY,aL,aR,aJ];refine Ia (fun _=>(wX f.text 70 _ (by omega))) ?_;apply Y;refine iU 2 fun _ Y=>?_;simp(disch:=omega)[aY,aL,aR,aJ];apply Y;refine dL fun _ Y=>?_;simp(disch:=omega)[aY,aL,aR,aJ];refine Ia (fun _=>(aTy f.classes 4 _ h5 (by omega))) ?_;apply Y;refine iU 2 fun _ Y=>?_;simp(disch:=omega)[aY,aL,aR,aJ];apply Y;refine dL fun _ Y=>?_;simp(disch:=omega)[aY,aL,aR,aJ];refine Ia (fun _=>(aQn f.styles 4 _ h7 (by omega))) ?_;apply Y;simp(disch:=omega)[aY,aL,aR,aJ];and_intros<;>(try omega);apply Z;apply aF;refine zk [1,2,3] ?_;refine zr ⟨[37],[],[3],[],[]⟩ fun _ _ Z=>?_;simp(disch:=omega)[aY,aL,aR,aJ];apply Z;apply aS;refine zk [1,2,3,4] ?_;refine qB (fun(k:Nat)=> [(4,.d (.v (.int .i64 (k:Int))))]) (fun(k:Nat)=> []) (fun(k:Nat)=> [(σ.length, [D.int f.kind,D.str (uC 20 f.tag),D.str (uC 20 f.key),D.str (uC 70 f.text),.sl false ((Au f.classes 4).map D.str),.sl true ((Dg f.attrs k).map dU),.sl false ((Ar f.styles 4).map cM),D.int f.opts.enter,D.int f.opts.leave,D.int f.opts.move,D.int f.opts.mode,D.bool f.opts.appear,D.bool f.opts.moves,.sl true []])]) [4,25,26,27,28,29,30,31,32,33,34,35,36,37,38,39,40,41,42,43,44,45,46,47,48,49,50,51,52,53,54,55] (fun(k:Nat)=>k<=f.attrs.length/\k<=4) (fun(k:Nat)=>f.attrs.length - k) (0) (by simp <;> rfl) ?_ (by simp) (by simp [aL,aSw]) ?_ ?_
 .simp
 .simp
 rintro k ⟨hk,hk4⟩;simp only [aP,aN,rK,oS,eQ,gR];have hfl:=Kg f.attrs k;apply aF;refine pB ⟨[37],[],[3],[],[]⟩ fun all hall _ Z=>?_;have ga5:aT all 5=some 30:=hall 5;refine zs 6 fun _ Y=>?_;simp(disch:=omega)[aY,aL,aR,aJ,ga5];and_intros<;>(try omega);apply Y;refine zb 30 ?_ ?_<;>intro g1<;>try simp at g1
 .simp(disch:=omega)[aY,aL,aR,aJ,ga5];apply Z;refine zI ?_ ?_<;>intro c2<;>try simp at c2
  .apply kR;refine zk [1,2,3,4] ?_;refine ze ⟨[37],[],[3],[],[]⟩ [.op {},.op {rO:=true,wO:=true},.op {},.op {rL:=true},.op {},.op {},.op {},.op {},.pure,.op {},.op {rL:=true},.op {},.op {},.op {},.op {},.pure,.op {},.op {},.op {},.op {},.op {rO:=true,wO:=true}] fun all hall _ Z=>?_;refine iU 8 fun _ Y=>?_;simp(disch:=omega)[aY,aL,aR,aJ];and_intros<;>(try omega);apply Y;refine dL fun _ Y=>?_;simp(disch:=omega)[aY,aL,aR,aJ];refine Ia (fun _=>(wX f.attrs[k].name 20 _ (by omega))) ?_;apply Y;refine iU 6 fun _ Y=>?_;simp(disch:=omega)[aY,aL,aR,aJ];and_intros<;>(try omega);apply Y;refine dL fun _ Y=>?_;simp(disch:=omega)[aY,aL,aR,aJ];refine Ia (fun _=>(wX f.attrs[k].value 40 _ (by omega))) ?_;apply Y;simp(disch:=omega)[aY,aL,aR,aJ];and_intros<;>(try omega);apply Z;apply zB;refine zk [1,2,3,4] ?_;refine zt ⟨[37],[],[3],[],[]⟩ fun _ _ Z=>?_;simp(disch:=omega)[aY,aL,aR,aJ];and_intros<;>(try omega);apply Z;refine eX (k+1) ?_ ?_ (dX rfl ?_ (by simp) (by simp [aHk,aL, *]))
   .omega
   .try dsimp only
    omega
   simp(disch:=omega)[aY,aL,aR,aJ]
  apply zE;refine zk [2,3] ?_;refine zr ⟨[37],[],[3],[],[]⟩ fun _ _ Z=>?_;simp(disch:=omega)[aY,aL,aR,aJ];apply Z;apply aD;simp [aK,iN];rw [show k=4 by omega]
 simp(disch:=omega)[aY,aL,aR,aJ,ga5];apply Z;refine bS (t:=false) (by simp) (fun h=>by cases h) (fun _=>?_);apply zE;refine zk [2,3] ?_;refine zr ⟨[37],[],[3],[],[]⟩ fun _ _ Z=>?_;simp(disch:=omega)[aY,aL,aR,aJ];apply Z;apply aD;simp [aK,iN];rw [aLv f.attrs k 4 (by omega) (by omega)]
theorem aU9(N:Nat)(x:ByteArray):Sc N (D.str x):=Sc.v _
theorem aU0(N:Nat)(x:AT):Sc N (dU x):=Sc.agg fun d hd=>by
 simp at hd;rcases hd with rfl | rfl <;> exact Sc.v _
theorem aS0(N:Nat)(x:PI):Sc N (cM x):=Sc.agg fun d hd=>by
 simp at hd;rcases hd with rfl | rfl <;> exact Sc.v _
theorem aO9(N:Nat)(f:FL):Sc N (aHo (iN f)):=Sc.agg fun d hd=>by
 simp only [bU,fJ,fU] at hd;rcases hd with rfl | rfl | rfl | rfl | rfl | rfl | rfl | rfl | rfl | rfl | rfl | rfl | rfl | rfl <;> first
  | exact Sc.v _
  | exact Sc.sl (Sc.map fun a=>aU9 _ a)
  | exact Sc.sl (Sc.map fun a=>aU0 _ a)
  | exact Sc.sl (Sc.map fun a=>aS0 _ a)
  | exact Sc.sl fun d hd=>by cases hd
theorem aQ7(f:FL)(σ:List (List D))(h:FO f):Ct prog 89 [Yp f] σ (fun r σ'=>r=aHo (iN f)/\σ'=σ):=
 (aIc f σ h).trim fun r σ' ⟨hr,J,hs⟩=>⟨σ,J,hs,rfl,by rw [hr];exact aO9 _ _,fun n cs h=> .inl h,hr,rfl⟩
abbrev VF(v:VN):Prop:=v.classes.length<=4/\v.attrs.length<=4/\v.styles.length<=4/\v.text.size<=70
inductive VG:VN->Prop
 | mk (v:VN) (h:VF v) (hk:∀k∈v.kids,VG k):VG v
@[simp] abbrev q40_3:Cfg:=⟨[6,8,41,45],[],[],[],[]⟩
theorem aNl(l:List FL)(d:Int)(σ:List (List D))(hl:l.length<=1000):Ct prog 90 [.sl false (l.map Yp),D.int l.length,D.int d] σ (fun r σ'=>r= .tup [.sl true [],D.int l.length]/\σ'=σ):=by
 refine zf func90 ?_;refine zr q40_3 fun _ _ Z=>?_;simp;apply Z;refine zr q40_3 fun _ _ Z=>?_;simp;apply Z;apply Ea;refine zk [0,1,2,6,7,8] ?_;refine aZ (fun(u:Unit)=> [(8,.d (.sl true [])),(1,.d (.int (l.length:Int))),(9,.d (.any))]) [1,8,9,10,11,12,13,14,15,16,17,18,19,20,21,22,23,24,25,26,27,28,29,30,31,32,33,34,35,36,37,38,39,40,41,42,43,44] (fun(u:Unit)=>True) (fun(u:Unit)=>0) (()) (by simp <;> rfl) ?_ ?_ ?_
 .simp
 .trivial
 rintro u hu;simp only [aP,aN];apply aF;refine zk [0,1,2,6,7,8,9] ?_;refine pB q40_3 fun all hall _ Z=>?_;have ga4:aT all 4=some 14:=hall 4;refine zs 5 fun _ Y=>?_;simp[ga4];and_intros<;>(try omega);apply Y;refine zb 14 ?_ ?_<;>intro g1<;>try simp at g1
 simp[ga4];apply Z;refine bS (t:=false) (by simp) (fun h=>by cases h) (fun _=>?_);apply zE;refine zk [1,6,7,8] ?_;refine zr q40_3 fun _ _ Z=>?_;simp;apply Z;apply aD;simp [aK]
theorem aGw(f:FL)(σ:List (List D))(h:FO f):Ct prog 27 [.sl false [Yp f],D.int 1] σ (fun r σ'=>(r.plain=true/\r.strip=aHo (iN f))/\σ'=σ):=by
 refine zf func27 ?_;refine bE fun _ _ Z=>?_;simp;apply Z;apply aF;refine bE fun _ _ Z=>?_;simp;and_intros<;>(try omega);apply Z;refine zI ?_ ?_<;>intro c1<;>try simp at c1
 apply zA;apply aF;refine bE fun _ _ Z=>?_;simp;and_intros<;>(try omega);apply Z;refine zI ?_ ?_<;>intro c2<;>try simp at c2
 apply zA;refine bE fun _ _ Z=>?_;refine zs 3 fun _ Y=>?_;simp;and_intros<;>(try omega);apply Y;refine aE fun _ Y=>?_;simp;refine cB (aQ7 f _ h) ?_;apply Y;simp;apply Z;refine zk [0,4,5] ?_;refine bE fun _ _ Z=>?_;refine zs 5 fun _ Y=>?_;simp;and_intros<;>(try omega);apply Y;refine aE fun _ Y=>?_;simp;refine cB (aNl [f] f.deep _ (by simp)) ?_;apply Y;simp;apply Z;refine zk [4,5] ?_;refine bE fun _ _ Z=>?_;simp;apply Z;apply aD;simp [aK,iN]
theorem aI1(f:FL)(σ:List (List D))(h:FO f):Ct prog 27 [.sl false [Yp f],D.int 1] σ (fun r σ'=>r=aHo (iN f)/\σ'=σ):=
 (aGw f σ h).strip fun r σ' h=>⟨h.1.1,h.1.2,h.2⟩
theorem Uh {β:Type} {n1:α->ByteArray} {n2:β->ByteArray} {f:α->β} (h:∀a,n2 (f a)=n1 a):∀(l:List α) (p:α),(gS n1 l p).map f=gS n2 (l.map f) (f p)
 | [],p=>rfl
 | q::l,p=>by
  simp only [gS,eZ,h];split
  .rw [eZ,Uh h l p]
  split <;> simp
theorem aQ5 {β:Type} {n1:α->ByteArray} {n2:β->ByteArray} {f:α->β} (h:∀a,n2 (f a)=n1 a)(l:List α):(fY n1 l).map f=fY n2 (l.map f):=by
 have:∀(l o:List α),(l.foldl (gS n1) o).map f=(l.map f).foldl (gS n2) (o.map f):=by
  intro l;induction l with
  | nil=>intro o;rfl
  | cons a l ih=>intro o;simp only [dV,eZ];rw [ih,Uh h]
 exact this l []
def As(l:List AT)(k:Nat):List PI:=(List.range k).map fun i=>⟨(l.getD i ⟨⟨#[]⟩,⟨#[]⟩⟩).name,i⟩
def Qy(l:List AT)(p:PI):AT:=⟨p.name,(l.getD p.value.toNat ⟨⟨#[]⟩,⟨#[]⟩⟩).value⟩
theorem aFp(l:List AT) {k:Nat} (h:k<l.length):As l (k+1)=As l k++ [⟨l[k].name,k⟩]:=by
 unfold As;rw [yV,dK];simp [List.getD,h]
theorem Nr(l:List AT)(k:Nat):(As l k).length=k:=by simp [As]
theorem Tk {nm:α->ByteArray} {l:List α} {x:α} (h:x∈fY nm l):x∈l:=by
 have:∀(l o:List α),x∈l.foldl (gS nm) o->x∈o\/x∈l:=by
  intro l;induction l with
  | nil=>intro o h;exact .inl h
  | cons a l ih =>
   intro o h;rcases ih _ h with h | h
   .rcases Da nm h with rfl | h
    .exact .inr kO
    exact .inl h
   exact .inr (lE _ h)
 rcases this l [] h with h | h
 .cases h
 exact h
theorem aQw {l:List AT} {S:List PI} (hS:fY nP (As l l.length)=S) {j:Nat} (hj:j<S.length):∃i:Nat,∃h:i<l.length,S[j].value=(i:Int)/\Qy l S[j]=l[i]:=by
 have h0:S[j]∈As l l.length:=by
  have:=cN hj;generalize S[j]=y at this |-;rw [<- hS] at this;exact Tk this
 generalize S[j]=y at h0 |-;unfold As at h0;obtain⟨i,hi,e⟩:=aX.1 h0;have hi:=fH.1 hi;refine⟨i,hi,by rw [<- e],?_⟩;rw [<- e];simp [Qy,List.getD,hi]
def Su(l:List AT)(S:List PI)(j:Nat):List AT:=(S.take j).map (Qy l)
theorem aJ8(l:List AT)(S:List PI)(j:Nat):(Su l S j).length<=j:=by unfold Su;simp;omega
theorem aEo(l:List AT) {S:List PI} {j:Nat} (h:j<S.length) {x:AT} (hx:Qy l S[j]=x):Su l S (j+1)=Su l S j++ [x]:=by
 unfold Su;rw [bK S j h,dK,eZ,oY,hx]
theorem aD5(l:List AT):(fY nP (As l l.length)).map (Qy l)=fY nA l:=by
 rw [aQ5 (n1:=nP) (n2:=nA) (fun _=>rfl)];congr 1;refine vU (by simp [As]) fun i h1 h2=>?_;simp [As,Qy,List.getD,h2]
@[simp] abbrev q40_4:Cfg:=⟨[2,3,6,17,33,42],[],[],[],[]⟩
theorem aF2(l:List AT)(σ:List (List D))(hl:l.length<=9999):Ct prog 97 [.sl false (l.map dU)] σ (fun r σ'=>r= .sl true ((fY nA l).map dU)/\σ'=σ):=by
 refine zf func97 ?_;refine zr q40_4 fun _ _ Z=>?_;simp(disch:=omega);apply Z;refine zr q40_4 fun _ _ Z=>?_;simp(disch:=omega);and_intros<;>(try omega);apply Z;apply aF;refine zr q40_4 fun _ _ Z=>?_;simp(disch:=omega);and_intros<;>(try omega);apply Z;apply aS;refine zk [0,2,3,10,11,12] ?_;refine aZ (fun(k:Nat)=> [(12,.d (.v (.int .i64 (k:Int)))),(3,.d (.sl true ((As l k).map cM))),(4,.d (.any)),(5,.d (.any))]) [3,4,5,12,13,14,15,16,17,18,19,20,21,22,23,24] (fun(k:Nat)=>k<=l.length) (fun(k:Nat)=>l.length - k) (0) (by simp <;> rfl) ?_ ?_ ?_
 .simp [As]
 .simp
 rintro k hk;simp only [aP,aN];have hnl:=Nr l k;refine zr q40_4 fun _ _ Z=>?_;simp(disch:=omega);apply Z;apply aF;refine zI ?_ ?_<;>intro c1<;>try simp at c1
 .have hnx:=aFp l c1;apply kR;refine zr q40_4 fun _ _ Z=>?_;simp(disch:=omega);and_intros<;>(try omega);apply Z;refine zk [0,2,3,4,5,10,11,12] ?_;refine zt q40_4 fun _ _ Z=>?_;simp(disch:=omega);and_intros<;>(try omega);apply Z;apply zB;refine zk [0,2,3,4,5,10,11,12] ?_;refine zt q40_4 fun _ _ Z=>?_;simp(disch:=omega);and_intros<;>(try omega);apply Z;refine zq (k+1) ?_ ?_ ?_
  .omega
  .try dsimp only
   omega
  simp(disch:=omega)[hnx]
 obtain rfl:k=l.length:=by omega
 apply zE;refine zr q40_4 fun _ _ Z=>?_;simp(disch:=omega);and_intros<;>(try omega);apply Z;apply aF;refine zr q40_4 fun _ _ Z=>?_;refine zs 1 fun _ Y=>?_;simp(disch:=omega);apply Y;refine aE fun _ Y=>?_;simp(disch:=omega);refine cB (Np (As l l.length) _ (by rw [Nr];omega)) ?_;obtain⟨S,hS⟩:∃S,fY nP (As l l.length)=S:=⟨_,rfl⟩;have hSl:S.length<=9999:=by rw [<- hS];have:=gZ nP (As l l.length);rw [Nr] at this;omega
 rw [hS];apply Y;simp(disch:=omega);and_intros<;>(try omega);apply Z;apply aS;refine zk [0,2,6,27,28,29] ?_;refine aZ (fun(j:Nat)=> [(29,.d (.v (.int .i64 (j:Int)))),(6,.d (.sl true ((Su l S j).map dU))),(8,.d (.any))]) [6,8,29,30,31,32,33,34,35,36,37,38,39,40,41] (fun(j:Nat)=>j<=S.length) (fun(j:Nat)=>S.length - j) (0) (by simp <;> rfl) ?_ ?_ ?_
 .simp [Su]
 .simp
 rintro j hj;simp only [aP,aN];have hsl:=aJ8 l S j;refine zr q40_4 fun _ _ Z=>?_;simp(disch:=omega);apply Z;apply aF;refine zI ?_ ?_<;>intro c2<;>try simp at c2
 .obtain⟨i,hil,hiv,hip⟩:=aQw hS c2;have hnx:=aEo l c2 hip;apply kR;refine zr q40_4 fun _ _ Z=>?_;simp(disch:=omega)[hiv];and_intros<;>(try omega);apply Z;refine zt q40_4 fun _ _ Z=>?_;refine zs 8 fun _ Y=>?_;simp(disch:=omega)[hiv];and_intros<;>(try omega);apply Y;simp(disch:=omega)[hiv];apply Z;apply zB;refine zk [0,2,6,8,27,28,29] ?_;refine zt q40_4 fun _ _ Z=>?_;simp(disch:=omega)[hiv];and_intros<;>(try omega);apply Z;refine zq (j+1) ?_ ?_ ?_
  .omega
  .try dsimp only
   omega
  simp(disch:=omega)[hnx,hiv]
 obtain rfl:j=S.length:=by omega
 have hall:Su l S S.length=fY nA l:=by unfold Su;rw [eH,<- hS];exact aD5 l
 apply zE;refine zr q40_4 fun _ _ Z=>?_;simp(disch:=omega);apply Z;apply aD;simp [aK,hall]
end Go.Proofs.YtbgfljpnhhdkoaaGreat
