import Derived.Test.YtbdjepeabjangaaGreatWkA1
import Derived.Test.YtbdjepeabjangaaGreatVmX7
set_option linter.all false
set_option maxRecDepth 20000
set_option maxHeartbeats 8000000
open Go.Proofs.Tryz
namespace Go.Proofs.YtbdjepeabjangaaGreat
open Go Go.Vm
def Ej(l:List AT):List AT:=l.filter fun x=> !oK x.name
def Gc(l:List PI):List PI:=l.filter fun x=> !oK x.name
theorem Sr(x:AT)(σ:List (List D))  :Ct prog 126 [cD x] σ (fun r σ'=>r= .bool (oK x.name)/\σ'=σ):=by
 refine zf func126 ?_;refine cL fun _ _ Z=>?_;simp;apply Z;refine cL fun _ _ Z=>?_;refine zs 2 fun _ Y=>?_;simp;apply Y;refine aD fun _ Y=>?_;simp;refine eH (mW x.name _) ?_;apply Y;simp;apply Z;apply aC;simp [aT]
theorem Sn(l:List AT)(σ:List (List D))(hl:l.length<=99999):Ct prog 91 [.sl false (l.map cD)] σ (fun r σ'=>r= .xs 2 (((oX nA l).filter fun x=> !oK x.name).map cD)/\σ'=σ):=by
 refine zf func91 ?_;refine zr ⟨[2],[],[],[],[]⟩ fun _ _ Z=>?_;simp;apply Z;refine zr ⟨[2],[],[],[],[]⟩ fun _ _ Z=>?_;refine zs 1 fun _ Y=>?_;simp;apply Y;refine aD fun _ Y=>?_;simp;refine eH (aGi l (fun x=>oK x.name) 126 [] _ hl (by simp) (by simp) (fun x τ=>Sr x τ)) ?_;apply Y;simp;apply Z;apply aC;simp [aT]
theorem aDj(l:List AT)(σ:List (List D))(hl:l.length<=99999)(hs:eC nA l):Ct prog 91 [.sl false (l.map cD)] σ (fun r σ'=>r= .sl false ((Ej l).map cD)/\σ'=σ):=
 (Sn l σ hl).freeze fun r σ' h=>by rw [qP nA hs] at h;exact h
theorem Wy(x:PI)(σ:List (List D))  :Ct prog 128 [bV x] σ (fun r σ'=>r= .bool (oK x.name)/\σ'=σ):=by
 refine zf func128 ?_;refine cL fun _ _ Z=>?_;simp;apply Z;refine cL fun _ _ Z=>?_;refine zs 2 fun _ Y=>?_;simp;apply Y;refine aD fun _ Y=>?_;simp;refine eH (mW x.name _) ?_;apply Y;simp;apply Z;apply aC;simp [aT]
theorem To(l:List PI)(σ:List (List D))(hl:l.length<=99999):Ct prog 92 [.sl false (l.map bV)] σ (fun r σ'=>r= .xs 2 (((oX nP l).filter fun x=> !oK x.name).map bV)/\σ'=σ):=by
 refine zf func92 ?_;refine zr ⟨[2],[],[],[],[]⟩ fun _ _ Z=>?_;simp;apply Z;refine zr ⟨[2],[],[],[],[]⟩ fun _ _ Z=>?_;refine zs 1 fun _ Y=>?_;simp;apply Y;refine aD fun _ Y=>?_;simp;refine eH (aEf l (fun x=>oK x.name) 128 [] _ hl (by simp) (by simp) (fun x τ=>Wy x τ)) ?_;apply Y;simp;apply Z;apply aC;simp [aT]
theorem Zr(l:List PI)(σ:List (List D))(hl:l.length<=99999)(hs:eC nP l):Ct prog 92 [.sl false (l.map bV)] σ (fun r σ'=>r= .sl false ((Gc l).map bV)/\σ'=σ):=
 (To l σ hl).freeze fun r σ' h=>by rw [qP nP hs] at h;exact h
end Go.Proofs.YtbdjepeabjangaaGreat
namespace Go.Vm
open Go
variable {rr:Option Nat} {dfr:List Deferred}
theorem Ok.freezeB {w:World} {g:Gh} {st:St} {val:Nat->Value} (h:Ok w g st val)(n i N len cap k:Nat)(cs ds es:List D)(hn:st.loc[n]?=some cs)(hi:cs[i]?=some (.slo N 0 len cap))(hN:st.obj[N]?=some ds)(hk:0<k)(hcs:ds.length=cap * k)(hl:es.length=len)
  (hes:∀d∈es,d.ncells=k/\d.arr=true) (he:es.flatMap D.cells<+:ds):
  ∃g':Gh,g'.bl=g.bl/\Fr w g w g'/\Ok w g' { st with loc:=st.loc.set n (cs.set i (.sl false es)),obj:=st.obj.set N [] } val:=by
 have hnl:=(aH.1 hn).1;have hNl:=(aH.1 hN).1;obtain⟨bn,hbn⟩:∃bn,g.bl[n]?=some bn:=⟨_,aN (by rw [h.ll];exact hnl)⟩;obtain⟨b,hbN⟩:∃b,g.bs[N]?=some b:=⟨_,aN (by rw [h.ol];exact hNl)⟩;have hne:cs≠ []:=by rintro rfl;simp at hi
 obtain⟨curn,En,m1,m2,m3,m4,m5⟩:=(h.loc n bn cs hbn hn).resolve_left hne;have hil:=(aH.1 hi).1;obtain⟨v,hvi⟩:∃v,curn[i]?=some v:=⟨_,aV (by rw [m2];exact hil)⟩;obtain⟨hr,_,hone⟩:=m5 i _ v hi hvi;have hlen:∀d∈es,d.cells.length=k:=fun d hd=>by rw [dK];exact(hes d hd).1
 -- what is known for good
 obtain⟨M',t1,t2,t3,t4⟩:∃M':Mem,g.M.le M'/\(∀(b':Nat) (t:jK),g.X b'=some t->t.1≠ .obj N->∀o,g.M b' o=none->M' b' o=none)/\(∀(b' o:Nat) (c:Value),M' b' o=some c->w.cell? ⟨b',o,none⟩=some c)/\
   (R M' g.bs (.sl false es) v/\∀(b':Nat),g.X b'=none->∀o,M' b' o=g.M b' o):=by
  cases hr with
  | slo _ _ _ _ x hb hc hmx=>
  by_cases hes0:es= []
  .subst hes0;have hl0:len=0:=by simpa using hl.symm
   subst hl0;refine⟨g.M,fun _ _ _ h=>h,fun _ _ _ _ _ h=>h,h.mem,?_,fun _ _ _=>rfl⟩;cases x with
   | some a=>exact .emp _ a cap hmx
   | none=>
    rcases sL cap with hc0 | hc0
    .subst hc0;exact .nil _
    obtain⟨_,_,e⟩:=hb hc0;cases e
  have hcap0:0<cap:=by
   have:0<es.length:=List.length_pos_iff.2 hes0;omega
  obtain⟨b',hb2,rfl⟩:=hb hcap0;have ebb:b'=b:=by rw [hbN] at hb2;simpa using hb2.symm
  subst ebb;have hdne:ds≠ []:=by
   intro e;rw [e] at hcs;have:0<cap * k:=lU hcap0 hk;simp at hcs;omega
  obtain⟨cur,E,o1,o2,o3,o4,o5⟩:=(h.obj N b' ds hb2 hN).resolve_left hdne;have hfit:∀i,i<es.length->i * k+k<=es.length * k:=fun i hi=>by
   have:(i+1) * k<=es.length * k:=eN _ hi;rw [cB] at this;omega
  have hcap:es.length * k<=cur.size:=by rw [o2,hcs];exact eN _ (by omega)
  have o9:∀(o:Nat) (c:Value),cur[o]?=some c->c.oneCell'=true:=fun o c ho=>by
   have hlt:=(cZ.1 ho).1;rw [o2] at hlt;exact(o5 o _ c (aN hlt) ho).2.2
  have hle:g.M.le (fun b2 o=>if b2=b' then(if o<es.length * k then cur[o]? else none)else g.M b2 o):=fun b2 o c hc=>by
   by_cases e:b2=b'
   .subst e;rw [o4] at hc;cases hc
   simp only [aG e];exact hc
  refine⟨fun b2 o=>if b2=b' then(if o<es.length * k then cur[o]? else none)else g.M b2 o,hle,fun b2 t hx ht o ho=>?_,fun b2 o c hc=>?_,?_,fun b2 hx o=>?_⟩
  .have:b2≠b':=by intro e;subst e;rw [o3] at hx;simp only [aP] at hx;subst hx;exact ht rfl
   simp only [aG this];exact ho
  .by_cases e:b2=b'
   .subst e;simp only [aJ] at hc;split at hc
    .rw [cell_of_row w b2 o cur E (0,0) o1];exact hc
    cases hc
   simp only [aG e] at hc;exact h.mem b2 o c hc
  .have el:∀(i:Nat) (d:D),es[i]?=some d->R (fun b2 o=>if b2=b' then(if o<es.length * k then cur[o]? else none)else g.M b2 o) g.bs d (De cur k i d)/\(De cur k i d).cells.size=k/\∀(j:Nat) (c:Value),(De cur k i d).cells[j]?=some c->j<k/\cur[i * k+j]?=some c:=by
    intro i d hi;have hil:=(aH.1 hi).1;have:=hfit i hil;obtain⟨r1,r2,r3⟩:=Oe (M:=g.M) (bs:=g.bs) (cur:=cur) (i:=i) (hes d (aS hi)).1 (hes d (aS hi)).2 (by omega) o9 (fun j e hj=>by
     have hcell:=wT hk es hlen hi hj;obtain⟨rest,hrest⟩:=he;have hcc:ds[i * k+j]?=some e:=by
      rw [<- hrest,aU (by exact(aH.1 hcell).1)];exact hcell
     have hlt:=(aH.1 hcc).1;rw [<- o2] at hlt;exact⟨_,aV hlt,(o5 _ e _ hcc (aV hlt)).1⟩) hk
    exact⟨r1.mono hle (fun _ _ h=>h),r2,r3⟩
   have hvs:∀(i:Nat) (x:Value),(es.mapIdx fun i d=>De cur k i d)[i]?=some x->∃d,es[i]?=some d/\x=De cur k i d:=by
    intro i x hi;rw [List.getElem?_mapIdx,cU] at hi;obtain⟨d,h1,h2⟩:=hi;exact⟨d,h1,h2.symm⟩
   refine .sl false es b' 0 _ cap k (es.mapIdx fun i d=>De cur k i d) (by simp) hl.symm hk (by omega) hmx (fun i d x a1 a2=>?_) (fun i d hi=>(hes d (aS hi)).1) (fun i x a2=>?_)
   .obtain⟨d',h1,rfl⟩:=hvs i x a2;rw [a1] at h1;have:d=d':=by simpa using h1
    subst this;exact(el i d a1).1
   obtain⟨d',h1,rfl⟩:=hvs i x a2;obtain⟨r1,r2,r3⟩:=el i d' h1;refine⟨r2,fun j c hj=>?_⟩;obtain⟨hj1,hj2⟩:=r3 j c hj;have:=hfit i (aH.1 h1).1;refine⟨o9 _ c hj2,?_⟩;simp only [aJ,dT];rw [aR (by omega)];exact hj2
  have:b2≠b':=by intro e;subst e;rw [o3] at hx;cases hx
  simp only [aG this]
 have other:∀(hd:Holder),hd≠ .obj N->∀(b':Nat) (q:List Nat),g.X b'=some (hd,q)->w.heap[b']?=w.heap[b']?/\(∀o,g.M b' o=none->M' b' o=none)/\g.X b'=some (hd,q):=
  fun hd hne b' q hx=>⟨rfl,t2 b' _ hx hne,hx⟩
 refine⟨{ g with M:=M' },rfl,⟨rfl,rfl,rfl,bD _,fun b' hb' hx=>⟨rfl,hx,t4.2 b' hx⟩,t1,fun _ _ h=>h⟩,t3,h.xlt,fun u=>?_,by simp [h.ll],fun n' b' cs' h1 h2=>?_,by simp [h.ol],fun n' b' cs' h1 h2=>?_⟩
 .exact(h.slot u).keep t1 (fun _ _ h=>h) (fun _ _ h=>h) (other _ (by simp))
 .rw [bS] at h2;split at h2
  .rename_i e;subst e;have h2':cs.set i (.sl false es)=cs':=by simpa [hnl] using h2
   subst h2';have ebm:b'=bn:=by rw [hbn] at h1;simpa using h1.symm
   subst ebm;refine .inr ⟨curn,En,m1,by simpa using m2,m3,fun o=>t2 _ _ m3 (by simp) o (m4 o),fun j d x a1 a2=>?_⟩;rw [bS] at a1;split at a1
   .rename_i e;subst e;have hd:D.sl false es=d:=by first | (simpa [hil] using a1) | exact a1
    subst hd;have hx:x=v:=by rw [hvi] at a2;simpa using a2.symm
    subst hx;exact⟨t4.1,.flat _ _ _ rfl,hone⟩
   obtain⟨r1,r2,r3⟩:=m5 j d x a1 a2;exact⟨r1.mono t1 (fun _ _ h=>h),r2.keep t1 (fun _ _ h=>h) (other _ (by simp)),r3⟩
  exact(h.loc n' b' cs' h1 h2).keep t1 (fun _ _ h=>h) (other _ (by simp))
 rw [bS] at h2;split at h2
 .exact .inl (by simpa [hNl] using h2.symm)
 rename_i e;exact(h.obj n' b' cs' h1 h2).keep t1 (fun _ _ h=>h) (other _ (by simp;exact fun e'=>e e'.symm))
theorem Ma {P:Program} (i0 i N len cap k:Nat)(cs ds es:List D) {c:Code} {n:Nat} {l:List (Nat×Slot)} {loc obj:List (List D)} {Q:Exit->St->Prop} (hn:loc[i0]?=some cs)(hi:cs[i]?=some (.slo N 0 len cap))(hN:obj[N]?=some ds)(hk:0<k)(hcs:ds.length=cap * k)(hl:es.length=len)
  (hes:∀d∈es,d.ncells=k/\d.arr=true) (he:es.flatMap D.cells<+:ds) (h:dL rr dfr P c Q (St.mk' n l (loc.set i0 (cs.set i (.sl false es))) (obj.set N []))):dL rr dfr P c Q (St.mk' n l loc obj):=by
 intro w0 g0 w g tmps hf hok hn0;obtain⟨g',_,hfr,hok'⟩:=hok.freezeB i0 i N len cap k cs ds es hn hi hN hk hcs hl hes he;exact h w0 g0 w g' tmps (hf.trans hfr) hok' hn0
end Go.Vm
namespace Go.Proofs.YtbdjepeabjangaaGreat
open Go Go.Vm
structure OPT where
 enter:Int
 leave:Int
 move:Int
 mode:Int
 appear:Bool
 moves:Bool
 deriving DecidableEq
@[simp] abbrev aMf(s:OPT):D:= .agg [.v (.int .i64 s.enter),.v (.int .i64 s.leave),.v (.int .i64 s.move),.v (.int .i64 s.mode),.v (.bool s.appear),.v (.bool s.moves)]
structure FL where
 deep:Int
 kind:Int
 tag:ByteArray
 key:ByteArray
 text:ByteArray
 classes:(List ByteArray)
 attrs:(List AT)
 styles:(List PI)
 opts:OPT
 deriving DecidableEq
@[simp] abbrev Ah(s:FL):D:= .agg [.v (.int .i64 s.deep),.v (.int .i64 s.kind),.v (.string s.tag),.v (.string s.key),.v (.string s.text),.sl false (s.classes.map D.str),.sl false (s.attrs.map cD),.sl false (s.styles.map bV),.v (.int .i64 s.opts.enter),.v (.int .i64 s.opts.leave),.v (.int .i64 s.opts.move),.v (.int .i64 s.opts.mode),.v (.bool s.opts.appear),.v (.bool s.opts.moves)]
@[simp] abbrev aPm(s:FL):D:= .agg [.v (.int .i64 s.deep),.v (.int .i64 s.kind),.v (.string s.tag),.v (.string s.key),.v (.string s.text),.sl true (s.classes.map D.str),.sl true (s.attrs.map cD),.sl true (s.styles.map bV),.v (.int .i64 s.opts.enter),.v (.int .i64 s.opts.leave),.v (.int .i64 s.opts.move),.v (.int .i64 s.opts.mode),.v (.bool s.opts.appear),.v (.bool s.opts.moves)]
structure VN where
 kind:Int
 tag:ByteArray
 key:ByteArray
 text:ByteArray
 classes:(List ByteArray)
 attrs:(List AT)
 styles:(List PI)
 opts:OPT
 kids:(List VN)
def kJ(s:VN):D:= .agg [.v (.int .i64 s.kind),.v (.string s.tag),.v (.string s.key),.v (.string s.text),.sl false (s.classes.map D.str),.sl false (s.attrs.map cD),.sl false (s.styles.map bV),.v (.int .i64 s.opts.enter),.v (.int .i64 s.opts.leave),.v (.int .i64 s.opts.move),.v (.int .i64 s.opts.mode),.v (.bool s.opts.appear),.v (.bool s.opts.moves),.sl false (s.kids.attach.map fun k=>kJ k.1)]
termination_by SizeOf.sizeOf s
decreasing_by
 have h:=iC k.2;cases s;simp at h |-;omega
@[simp] abbrev kM(s:VN):D:= .agg [.v (.int .i64 s.kind),.v (.string s.tag),.v (.string s.key),.v (.string s.text),.sl false (s.classes.map D.str),.sl false (s.attrs.map cD),.sl false (s.styles.map bV),.v (.int .i64 s.opts.enter),.v (.int .i64 s.opts.leave),.v (.int .i64 s.opts.move),.v (.int .i64 s.opts.mode),.v (.bool s.opts.appear),.v (.bool s.opts.moves),.sl false (s.kids.map kJ)]
@[simp] abbrev aQh(s:VN):D:= .agg [.v (.int .i64 s.kind),.v (.string s.tag),.v (.string s.key),.v (.string s.text),.sl true (s.classes.map D.str),.sl true (s.attrs.map cD),.sl true (s.styles.map bV),.v (.int .i64 s.opts.enter),.v (.int .i64 s.opts.leave),.v (.int .i64 s.opts.move),.v (.int .i64 s.opts.mode),.v (.bool s.opts.appear),.v (.bool s.opts.moves),.sl true (s.kids.map kJ)]
@[simp] theorem Gu(s:VN):kJ s=kM s:=by rw [kJ];simp
def wZ(l:Ls)(n:Nat):Ls:=(l.take n).map (pF 20)
def aN8(p:PI):PI:=⟨pF 20 p.name,p.value⟩
def aNh(p:AT):AT:=⟨pF 20 p.name,pF 40 p.value⟩
def yQ(l:List PI)(n:Nat):List PI:=(l.take n).map aN8
def Cd(l:List AT)(n:Nat):List AT:=(l.take n).map aNh
theorem Tc(l:List ByteArray)(k:Nat)(h:k<l.length):wZ l (k+1)=wZ l k++ [pF 20 l[k]]:=by
 unfold wZ;rw [bM l k h,dC];rfl
theorem aJo(l:List ByteArray):wZ l 0= []:=rfl
theorem Kw(l:List ByteArray)(n:Nat):(wZ l n).length<=n:=by simp [wZ];omega
theorem aC2(l:List ByteArray)(k n:Nat)(h:l.length<=k)(hn:k<=n):wZ l k=wZ l n:=by
 unfold wZ;rw [bW h,bW (dJ h hn)]
theorem Tx(l:List PI)(k:Nat)(h:k<l.length):yQ l (k+1)=yQ l k++ [⟨pF 20 l[k].name,l[k].value⟩]:=by
 unfold yQ;rw [bM l k h,dC];rfl
theorem aJp(l:List PI):yQ l 0= []:=rfl
theorem Jt(l:List PI)(n:Nat):(yQ l n).length<=n:=by simp [yQ];omega
theorem aAk(l:List PI)(k n:Nat)(h:l.length<=k)(hn:k<=n):yQ l k=yQ l n:=by
 unfold yQ;rw [bW h,bW (dJ h hn)]
theorem Wg(l:List AT)(k:Nat)(h:k<l.length):Cd l (k+1)=Cd l k++ [⟨pF 20 l[k].name,pF 40 l[k].value⟩]:=by
 unfold Cd;rw [bM l k h,dC];rfl
theorem aI8(l:List AT):Cd l 0= []:=rfl
theorem Kz(l:List AT)(n:Nat):(Cd l n).length<=n:=by simp [Cd];omega
theorem aAs(l:List AT)(k n:Nat)(h:l.length<=k)(hn:k<=n):Cd l k=Cd l n:=by
 unfold Cd;rw [bW h,bW (dJ h hn)]
@[simp] abbrev q41_1:Cfg:=⟨[4,5,18,26],[],[],[],[]⟩
theorem aJ8(l:Ls)(n:Nat)(σ:List (List D))(hl:l.length<=9223372036854775807)(hn:n<=1000000):Ct prog 73 [dl l,D.int n] σ (fun r σ'=>r= .sl true ((wZ l n).map D.str)/\σ'=σ):=by
 refine zf func73 ?_;refine zr q41_1 fun _ _ Z=>?_;simp(disch:=omega);apply Z;refine zr q41_1 fun _ _ Z=>?_;simp(disch:=omega);apply Z;apply aE;refine zr q41_1 fun _ _ Z=>?_;simp(disch:=omega);apply Z;apply aQ;refine zk [0,1,4,5,6] ?_;refine bK (fun(k:Nat)=> [(6,.d (.int (k:Int))),(5,.d (.sl true ((wZ l k).map D.str)))]) [5,6,7,8,9,10,11,12,13,14,15,16,17,18,19,20,21,22,23,24,25] (fun(k:Nat)=>k<=l.length/\k<=n) (fun(k:Nat)=>l.length - k) (0) (by simp <;> rfl) ?_ ?_ ?_
 .simp [aJo]
 .simp
 rintro k ⟨hk,hn2⟩;simp only [aO,aK];have hfl:=Kw l k;apply aE;refine vJ q41_1 fun all hall _ Z=>?_;have ga4:aY all 4=some 11:=hall 4;refine zs 5 fun _ Y=>?_;simp(disch:=omega)[ga4];and_intros<;>(try omega);apply Y;refine zb 11 ?_ ?_<;>intro g1<;>try simp at g1
 .simp(disch:=omega)[ga4];apply Z;refine zI ?_ ?_<;>intro c2<;>try simp at c2
  .apply mT;refine zk [0,1,4,5,6] ?_;refine zt q41_1 fun _ _ Z=>?_;refine zs 5 fun _ Y=>?_;simp(disch:=omega);and_intros<;>(try omega);apply Y;refine aD fun _ Y=>?_;simp(disch:=omega);refine eH (sI _ 20 _ (by omega)) ?_;apply Y;simp(disch:=omega);and_intros<;>(try omega);apply Z;apply zB;refine zk [0,1,4,5,6] ?_;refine zt q41_1 fun _ _ Z=>?_;simp(disch:=omega);and_intros<;>(try omega);apply Z;refine zq (k+1) ?_ ?_ ?_
   .omega
   .try dsimp only
    omega
   simp(disch:=omega)[Tc]
  apply zE;refine zk [4,5] ?_;refine zr q41_1 fun _ _ Z=>?_;simp(disch:=omega);apply Z;apply aC;simp [aT];rw [show k=n by omega]
 simp(disch:=omega)[ga4];apply Z;refine cJ (t:=false) (by simp) (fun h=>by cases h) (fun _=>?_);apply zE;refine zk [4,5] ?_;refine zr q41_1 fun _ _ Z=>?_;simp(disch:=omega);apply Z;apply aC;simp [aT];rw [aC2 l k n (by omega) (by omega)]
@[simp] abbrev q41_2:Cfg:=⟨[4,5,18,33],[],[],[],[]⟩
theorem aHb(l:List PI)(n:Nat)(σ:List (List D))(hl:l.length<=9223372036854775807)(hn:n<=1000000):Ct prog 74 [.sl false (l.map bV),D.int n] σ (fun r σ'=>r= .sl true ((yQ l n).map bV)/\σ'=σ):=by
 refine zf func74 ?_;refine zr q41_2 fun _ _ Z=>?_;simp(disch:=omega);apply Z;refine zr q41_2 fun _ _ Z=>?_;simp(disch:=omega);apply Z;apply aE;refine zr q41_2 fun _ _ Z=>?_;simp(disch:=omega);apply Z;apply aQ;refine zk [0,1,4,5,6] ?_;refine bK (fun(k:Nat)=> [(6,.d (.int (k:Int))),(5,.d (.sl true ((yQ l k).map bV)))]) [5,6,7,8,9,10,11,12,13,14,15,16,17,18,19,20,21,22,23,24,25,26,27,28,29,30,31,32] (fun(k:Nat)=>k<=l.length/\k<=n) (fun(k:Nat)=>l.length - k) (0) (by simp <;> rfl) ?_ ?_ ?_
 .simp [aJp]
 .simp
 rintro k ⟨hk,hn2⟩;simp only [aO,aK];have hfl:=Jt l k;apply aE;refine vJ q41_2 fun all hall _ Z=>?_;have ga4:aY all 4=some 11:=hall 4;refine zs 5 fun _ Y=>?_;simp(disch:=omega)[ga4];and_intros<;>(try omega);apply Y;refine zb 11 ?_ ?_<;>intro g1<;>try simp at g1
 .simp(disch:=omega)[ga4];apply Z;refine zI ?_ ?_<;>intro c2<;>try simp at c2
  .apply mT;refine zk [0,1,4,5,6] ?_;refine ze q41_2 [.op {},.op {},.op {},.op {},.op {},.op {},.pure,.op {},.op {},.op {},.op {},.op {},.op {},.op {},.op {},.op {}] fun all hall _ Z=>?_;refine kY 6 fun _ Y=>?_;simp(disch:=omega);and_intros<;>(try omega);apply Y;refine bJ fun _ Y=>?_;simp(disch:=omega);refine rG (fun _=>(sI _ 20 _ (by omega))) ?_;apply Y;refine kY 8 fun _ Y=>?_;simp(disch:=omega);and_intros<;>(try omega);apply Y;simp(disch:=omega);apply Z;apply zB;refine zk [0,1,4,5,6] ?_;refine zt q41_2 fun _ _ Z=>?_;simp(disch:=omega);and_intros<;>(try omega);apply Z;refine zq (k+1) ?_ ?_ ?_
   .omega
   .try dsimp only
    omega
   simp(disch:=omega)[Tx]
  apply zE;refine zk [4,5] ?_;refine zr q41_2 fun _ _ Z=>?_;simp(disch:=omega);apply Z;apply aC;simp [aT];rw [show k=n by omega]
 simp(disch:=omega)[ga4];apply Z;refine cJ (t:=false) (by simp) (fun h=>by cases h) (fun _=>?_);apply zE;refine zk [4,5] ?_;refine zr q41_2 fun _ _ Z=>?_;simp(disch:=omega);apply Z;apply aC;simp [aT];rw [aAk l k n (by omega) (by omega)]
end Go.Proofs.YtbdjepeabjangaaGreat
