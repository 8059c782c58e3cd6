import Derived.Test.YtbdjepeabjangaaGreatVm11
set_option linter.all false
namespace Go.Vm
open Go
variable {g:Gh}{st:St}{val:Nat->Value}{w:World}
section
variable {P:Program}
theorem Ok.freshCap (h:Ok w g st val)(d:Nat)(E:TypeId)(es:List D)(vs:List Value)(k cap:Nat)(hk:0<k)(hl:vs.length=es.length)(hc:es.length<=cap)(hm:cap<=maxLen)(hne:es≠ [])
  (hr:∀(i:Nat) (e:D) (x:Value),es[i]?=some e->vs[i]?=some x->R g.M g.bs e x) (hs:∀(i:Nat) (e:D),es[i]?=some e->e.ncells=k)
  (hx:∀v∈vs,v.cells.size=k/\∀c∈v.cells.toList,c.oneCell'=true) (cells:Array Value) (hcells:cells.toList.take (es.length * k)=vs.flatMap fun v=>v.cells.toList) (hsize:cells.size=cap * k):
  ∃g',g'.bl=g.bl/\Fr w g (w.alloc (.cells cells E)) g'/\Ok (w.alloc (.cells cells E)) g' (st.set d (.d (.sl true es))) (fun u=>if u=d then .slice (some ⟨w.heap.size,0,none⟩) es.length cap else val u):=by
 have hsz:∀v∈vs,v.cells.size=k:=fun v hv=>(hx v hv).1;have hfl:(vs.flatMap fun v=>v.cells.toList).length=es.length * k:=by rw [jO vs hsz,hl]
 obtain⟨k1,k2⟩:=(h.forget d).known cells (vs.flatMap fun v=>v.cells.toList).toArray E (some (.slot d, [])) (fun o c ho=>by
  rw [eO,<- hcells,dX] at ho;split at ho
  .simpa using ho
  cases ho)
 refine⟨{ g with M:=g.M.add w.heap.size (vs.flatMap fun v=>v.cells.toList).toArray,X:=fun b=>if b=w.heap.size then some (.slot d, [])else g.X b },rfl,k2,?_⟩;have:=k1.set d (.d (.sl true es)) (.slice (some ⟨w.heap.size,0,none⟩) es.length cap) ⟨?_,?_⟩
 .have e:((st.set d .any).set d (.d (.sl true es)))=st.set d (.d (.sl true es)):=by
   simp only [St.set];congr 1;funext u;split <;> rfl
  rwa [e] at this
 .refine .sl true es _ 0 _ _ k vs hl rfl hk hc hm (fun i e x a1 a2=>(hr i e x a1 a2).mono k2.mono (fun _ _ h=>h)) hs (fun i x a=>⟨hsz x (aS a),fun j c hj=>?_⟩);have hcm:c∈x.cells.toList:=aS (by simpa using hj);refine⟨(hx x (aS a)).2 c hcm,?_⟩;simp only [Mem.add,aJ,dT,eO];exact tT hk vs hsz a hj
 refine .sl _ _ _ (.inr ⟨w.heap.size,_,_,k,cells,E,rfl,hne,by simp,oH w _,hk,hsize,rfl,hc,hm,fun o ho=>?_,hs⟩);simp only [Mem.add,aJ,eO];exact gP (by rw [hfl];exact ho)
theorem qR {t t2 e e2 ty:TypeId} (ht:P.underlying t=some (.slice e))(ht2:P.underlying t2=some (.slice e2))(a b:Value)(w:World):(Builtin.append_ #[t,t2] ty #[a,b]).run P w=(Builtin.append_ #[t,t] ty #[a,b]).run P w:=by
 cases a <;> simp [Builtin.append_,run_underlying ht,run_underlying ht2]
theorem pU(w:World)(t ty e E:TypeId)(i:TypeInfo)(ht:P.underlying t=some (.slice e))(hi:P.info? e=some i)
  (g sLen sCap:Nat) (cur:Array Value) (hg:w.heap[g]?=some (.cells cur E (0,0)))
  (a:Addr) (m c:Nat) (news:List Value) (hl:news.length=m * i.size) (hnews:∀j u,news[j]?=some u->w.cell? (a.add j)=some u) (h1:∀u∈news,u.oneCell'=true)
  (hroom:sLen+m<=sCap) (hfit:sLen * i.size+news.length<=cur.size):
  (Builtin.append_ #[t,t] ty #[.slice (some ⟨g,0,none⟩) sLen sCap,.slice (some a) m c]).run P w=
   .ok (.slice (some ⟨g,0,none⟩) (sLen+m) sCap) (w.setRow g (cur.toList.take (sLen * i.size)++news++cur.toList.drop (sLen * i.size+news.length)).toArray):=by
 have hf:=run_firstCells_some (P:=P) w i.size m a m c news hl hnews;have hst:=run_storeCells_at P g (sLen * i.size) E news 0 cur w hg (by simpa using hfit) h1;simp only [iJ] at hst;simp [Builtin.append_,run_underlying ht,sizeOf,typeInfo,hi,Builtin.lenOf,hroom,hf,Addr.add_lit,hst]
theorem wP (hok:Ok w g st val) {o:Bool} {es:List D} {v:Value} {k:Nat} (hr:R g.M g.bs (.sl o es) v)(hk:∀d∈es,d.ncells=k)(hne:es≠ []):
  ∃(b off cap:Nat) (vs:List Value),v= .slice (some ⟨b,off,none⟩) es.length cap/\vs.length=es.length/\es.length<=cap/\cap<=maxLen/\0<k/\(∀(i:Nat) (d:D) (x:Value),es[i]?=some d->vs[i]?=some x->R g.M g.bs d x)/\
   (∀x:Value,x∈vs->x.cells.size=k/\∀c:Value,c∈x.cells.toList->c.oneCell'=true)/\(∀(j:Nat) (c:Value),(vs.flatMap fun v=>v.cells.toList)[j]?=some c->w.cell? ((⟨b,off,none⟩:Addr).add j)=some c/\g.M b (off+j)=some c):=by
 cases hr with
 | nil o=>exact absurd rfl hne
 | emp o a cap hm=>exact absurd rfl hne
 | sl o' es b off n cap k' vs hl hn hk' hc hm hrr hss hxx =>
  have hkk:k'=k:=by
   have h0:0<es.length:=by cases es <;> simp_all
   rw [<- hss 0 _ (aN h0)];exact hk _ (cR h0)
  subst hkk;have hsz:∀x∈vs,x.cells.size=k':=fun x hx=>by
   obtain⟨i,hi⟩:=dY hx;exact(hxx i x hi).1
  refine⟨b,off,cap,vs,by rw [hn],hl,by omega,hm,hk',hrr,fun x hx=>⟨hsz x hx,fun c hc=>?_⟩,fun j c hj=>?_⟩
  .obtain⟨i,hi⟩:=dY hx;obtain⟨j,hj⟩:=dY hc;exact((hxx i x hi).2 j c (by simpa using hj)).1
  rw [sK hk' vs hsz] at hj;rw [jE] at hj;obtain⟨x,h1,h2⟩:=hj;have:=((hxx _ x h1).2 _ c h2).2;rw [show j / k' * k'+j % k'=j by rw [lN];exact sZ j k'] at this;exact⟨by rw [Addr.add_none];exact hok.mem _ _ _ this,this⟩
def oF(P:Program)(dst:Option Tmp)(t t2:TypeId)(s x:Operand)(st:St)(K:St->Prop):Prop:=
 match fA P t,dst,st.rd s,st.rd x with
 | some (_,k,by_,_),some d,.sl true es,.sl _ xs=>
  (∃e2,P.underlying t2=some (.slice e2))/\((es.length+xs.length) * by_<=140737488355328/\es.length+xs.length<=maxLen)/\(∀d∈es,d.ncells=k)/\(∀d∈xs,d.ncells=k)/\
  match s with
  | .tmp ts=>ts≠d/\K ((st.set ts (.d (.sl false es))).set d (.d (.sl true (es++xs))))
  | .const (.slice none 0 0)=>K (st.set d (.d (.sl true (es++xs))))
  | _=>False
 | _,_,_,_=>False
theorem St.set_set(st:St)(a b:Nat)(x y z:Slot):((st.set a x).set b y).set b z=(st.set a x).set b z:=by
 simp only [St.set];congr 1;funext u;split <;> rfl
theorem Ae {tmps:Array Value} (hok:Ok w g st (bQ tmps)) {t e:TypeId} {k by_:Nat} {z:Array Value} {ti:TypeInfo} {zv:Value} (h1:P.underlying t=some (.slice e))(h2:P.info? e=some ti)(h3:ti.zero=some zv)(h5:ti.size=k)(h6:ti.bytes=by_)(h7:zv.cells.size=k)(h8:0<k)
  (ts d:Nat) (hne:ts≠d) (o:Bool) (es xs:List D) (hs:st.env ts= .d (.sl true es)) (vx:Value) (hvx:R g.M g.bs (.sl o xs) vx) (hb:(es.length+xs.length) * by_<=140737488355328) (hm:es.length+xs.length<=maxLen) (hes:∀d∈es,d.ncells=k) (hxs:∀d∈xs,d.ncells=k) (ty:TypeId):
  ∃v w' g',(Builtin.append_ #[t,t] ty #[bQ tmps ts,vx]).run P w= .ok v w'/\g'.bl=g.bl/\Fr w g w' g'/\Ok w' g' ((st.set ts (.d (.sl false es))).set d (.d (.sl true (es++xs)))) (fun u=>if u=d then v else bQ tmps u):=by
 have hsl:=hok.slot ts;rw [hs] at hsl;have hR:=hsl.1;have hO:Rr w g.M g.X (.slot ts, []) es (bQ tmps ts):=by
  have:=hsl.2;cases this with
  | sl p es v ho=>exact ho
  | flat p d v hf=>simp [D.flat] at hf
 generalize hv:bQ tmps ts=vs at hR hO;subst h5;subst h6;by_cases hx0:xs= []
 .-- nothing is added
  subst hx0;have hk:=hok.take ts d hne _ hs (by intro cs h;cases h);refine⟨vs,w, { g with X:=fG (iF (.slot ts) [] (.slot d) []) g.X },?_,rfl,Fr.ren w g (iF (.slot ts) [] (.slot d) []),?_⟩
  .have hz:∀n cap,(vx= .slice none 0 0\/∃b off,vx= .slice (some ⟨b,off,none⟩) n cap/\n=0)->∃a c,vx= .slice a 0 c:=by
    rintro n cap (rfl | ⟨b,off,rfl,rfl⟩)
    .exact⟨_,_,rfl⟩
    exact⟨_,_,rfl⟩
   obtain⟨a,c,rfl⟩:∃a c,vx= .slice a 0 c:=by
    cases hvx with
    | nil=>exact⟨_,_,rfl⟩
    | emp o a cap hm=>exact⟨_,_,rfl⟩
    | sl o' es b off n cap k vs hl hn=>subst hn;exact⟨_,_,rfl⟩
   have hfc:∀w,(Builtin.firstCells ti.size 0 (.slice a 0 c)).run P w= .ok #[] w:=by
    intro w;cases a with
    | none=>simp [Builtin.firstCells]
    | some a=>simp [Builtin.firstCells,loadCells,loadCellsFrom]
   cases hR with
   | nil=>simp [Builtin.append_,run_underlying h1,bH h2,Builtin.lenOf,hfc]
   | emp o a cap hm=>simp [Builtin.append_,run_underlying h1,bH h2,Builtin.lenOf,hfc,storeCells]
   | sl o' es' b off n cap k vs hl hn hk hc=>
    simp [Builtin.append_,run_underlying h1,bH h2,Builtin.lenOf,hfc,hc,storeCells]
  rw [iK];have e:(fun u=>if u=d then bQ tmps ts else bQ tmps u)=(fun u=>if u=d then vs else bQ tmps u):=by rw [hv]
  rw [<- e];exact hk
 obtain⟨bx,offx,capx,vvx,rfl,l1,l2,l3,l4,l5,l6,l7⟩:=wP hok hvx hxs hx0;have hxlen:0<xs.length:=by cases xs <;> simp_all
 have hxsz:∀v∈vvx,v.cells.size=ti.size:=fun v hv=>(l6 v hv).1;have hnl:(vvx.flatMap fun v=>v.cells.toList).length=xs.length * ti.size:=by rw [jO vvx hxsz,l1]
 have hnews:∀(j:Nat) (u:Value),(vvx.flatMap fun v=>v.cells.toList)[j]?=some u->w.cell? ((⟨bx,offx,none⟩:Addr).add j)=some u:=fun j u hj=>(l7 j u hj).1;have hone:∀u∈(vvx.flatMap fun v=>v.cells.toList),u.oneCell'=true:=by
  intro u hu;rw [sX] at hu;obtain⟨v,hv,hu⟩:=hu;exact(l6 v hv).2 u hu
 -- the source keeps its elements,without the room behind them
 obtain⟨p1,_,_⟩:=hok.park ts _ hs (by intro cs h;cases h) (iF (.slot ts) [] (.slot d) []) (fun t ht=>mD ht);have hdr:Ok w.drew { g with X:=fG (iF (.slot ts) [] (.slot d) []) g.X } (st.set ts (.d (.sl false es))) (bQ tmps):=p1.drew;have hfr:Fr w g w.drew { g with X:=fG (iF (.slot ts) [] (.slot d) []) g.X } :=(Fr.ren w g _).trans (Fr.drew w _);have hbig:es.length+xs.length<=9223372036854775807:=by unfold maxLen at hm;omega
 -- a new array
 have grown:∀(vse:List Value) (old:Nat),vse.length=es.length->(∀(i:Nat) (e:D) (x:Value),es[i]?=some e->vse[i]?=some x->R g.M g.bs e x)->(∀v∈vse,v.cells.size=ti.size/\∀c∈v.cells.toList,c.oneCell'=true)->
   ∃ g', g'.bl = g.bl /\ Fr w g (w.drew.alloc (.cells ((vse.flatMap fun v => v.cells.toList).toArray ++ (vvx.flatMap fun v => v.cells.toList).toArray ++ Builtin.zeroCells zv.cells (grownCap w (es.length + xs.length) old e - (es.length + xs.length))) e)) g' /\
    Ok (w.drew.alloc (.cells ((vse.flatMap fun v=>v.cells.toList).toArray++(vvx.flatMap fun v=>v.cells.toList).toArray++Builtin.zeroCells zv.cells (grownCap w (es.length+xs.length) old e - (es.length+xs.length))) e)) g' ((st.set ts (.d (.sl false es))).set d (.d (.sl true (es++xs))))
     (fun u=>if u=d then .slice (some ⟨w.heap.size,0,none⟩) (es.length+xs.length) (grownCap w (es.length+xs.length) old e)else bQ tmps u):=by
  intro vse old a1 a2 a3;have hesz:∀v∈vse,v.cells.size=ti.size:=fun v hv=>(a3 v hv).1;have hge:=grownCap_ge w (es.length+xs.length) old e;have hcm:grownCap w (es.length+xs.length) old e<=maxLen:=grownCap_le_maxLen w (es.length+xs.length) old e hm;have hfl:((vse++vvx).flatMap fun v=>v.cells.toList)=(vse.flatMap fun v=>v.cells.toList)++(vvx.flatMap fun v=>v.cells.toList):=fN;obtain⟨g',b1,b2,b3⟩:=hdr.freshCap d e (es++xs) (vse++vvx) ti.size (grownCap w (es.length+xs.length) old e) h8 (by simp [a1,l1]) (by simpa using hge) hcm (by simp [hx0])
   (fun i e x c1 c2=>by
    by_cases hi:i<es.length
    .rw [aU hi] at c1;rw [aU (by omega)] at c2;exact a2 i e x c1 c2
    rw [bI (by omega)] at c1;rw [bI (by omega),a1] at c2;exact l5 _ e x c1 c2)
   (fun i e c1=>by
    have:=aS c1;rcases dZ.1 this with h | h
    .exact hes _ h
    exact hxs _ h)
   (fun v hv=>by
    rcases dZ.1 hv with h | h
    .exact a3 v h
    exact l6 v h)
   ((vse.flatMap fun v=>v.cells.toList).toArray++(vvx.flatMap fun v=>v.cells.toList).toArray++Builtin.zeroCells zv.cells (grownCap w (es.length+xs.length) old e - (es.length+xs.length)))
   (by
    rw [hfl];have hlen:(es++xs).length * ti.size=((vse.flatMap fun v=>v.cells.toList)++(vvx.flatMap fun v=>v.cells.toList)).length:=by
     simp only [aX,jO vse hesz,hnl,a1,cB]
    rw [hlen,iB,iB];exact tZ)
   (by
    simp only [pZ,eK,size_zeroCells,jO vse hesz,hnl,h7,a1,<- cB];congr 1;omega)
  refine⟨g',b1,hfr.trans b2,?_⟩;simp only [aX] at b3;exact b3
 have bdef:∀old,old<es.length+xs.length->Builtin.nextslicecap (es.length+xs.length) old * ti.bytes<=281474976710656:=fun old ho=>growslice_fits ho hb;by_cases he0:es= []
 .subst he0;obtain⟨g',b1,b2,b3⟩:=grown [] 0 rfl (fun i e x h=>by simp at h) (fun v hv=>by simp at hv);simp only [dO,dT,aK,xZ] at *;rcases hO with ⟨a,n,rfl⟩ | ⟨b,n,cap,k',cur,E,_,hc,_⟩
  .cases hR with
   | nil=>
    refine⟨_,_,g',run_append_nil (P:=P) w t ty e ti zv h1 h2 h3 ⟨bx,offx,none⟩ xs.length capx _ hnl hnews hxlen (by omega) (by omega),b1,?_,?_⟩
    .simpa using b2
    simpa using b3
   | emp o a' cap hm'=>
    have hr:=run_append_grow (P:=P) w t ty e ti zv h1 h2 h3 a' 0 0 [] (by simp) (fun j v h=>by simp at h) ⟨bx,offx,none⟩ xs.length capx _ hnl hnews (by omega) (by omega) (by simpa using bdef 0 (by omega));simp only [dT] at hr;exact⟨_,_,g',hr,b1,b2,b3⟩
   | sl o' es' b off n' cap k vs hl hn hk hc=>
    have hr:=run_append_grow (P:=P) w t ty e ti zv h1 h2 h3 ⟨b,off,none⟩ 0 0 [] (by simp) (fun j v h=>by simp at h) ⟨bx,offx,none⟩ xs.length capx _ hnl hnews (by omega) (by omega) (by simpa using bdef 0 (by omega));simp only [dT] at hr;have hn0:n=0:=by simpa using hn
    subst hn0;exact⟨_,_,g',hr,b1,b2,b3⟩
  exact absurd rfl hc
 obtain⟨bs_,offs,caps,vse,e0,m1,m2,m3,m4,m5,m6,m7⟩:=wP hok hR hes he0;rcases hO with ⟨a,n,e1⟩ | ⟨b,n,cap,k',cur,E,e1,hc,o3,o4,o5,o6,o7,o8,o9,o10,o11⟩
 .rw [e0] at e1;simp only [Value.slice.injEq] at e1;obtain⟨_,_,e1⟩:=e1;have:0<es.length:=by cases es <;> simp_all
  omega
 rw [e0] at e1;simp only [Value.slice.injEq,aP,Addr.mk.injEq,nJ] at e1;obtain⟨⟨rfl,rfl⟩,rfl,rfl⟩:=e1;have hkk:k'=ti.size:=by
  have h0:0<es.length:=by cases es <;> simp_all
  rw [<- o11 0 _ (aN h0)];exact hes _ (cR h0)
 subst hkk;have hesz:∀v∈vse,v.cells.size=ti.size:=fun v hv=>(m6 v hv).1;have hel:(vse.flatMap fun v=>v.cells.toList).length=es.length * ti.size:=by rw [jO vse hesz,m1]
 subst e0;by_cases hroom:es.length+xs.length<=caps
 .-- there is room
  have hfit:es.length * ti.size+(vvx.flatMap fun v=>v.cells.toList).length<=cur.size:=by
   rw [hnl,o6,<- cB];exact eN _ hroom
  have hr:=pU (P:=P) w t ty e E ti h1 h2 bs_ es.length caps cur o4 ⟨bx,offx,none⟩ xs.length capx _ hnl hnews hone hroom hfit;obtain⟨q1,q2⟩:=(p1.forget d).extend d bs_ (es.length * ti.size) cur (cur.toList.take (es.length * ti.size)++(vvx.flatMap fun v=>v.cells.toList)++cur.toList.drop (es.length * ti.size+(vvx.flatMap fun v=>v.cells.toList).length)).toArray E
   (fun o=>if es.length * ti.size<=o then(vvx.flatMap fun v=>v.cells.toList)[o - es.length * ti.size]? else none)
   (by simp [fG,o3,iF]) (by simp [St.set]) o4 o10
   (fun o ho=>by
    rw [eO,eA (by rw [bF];exact hfit),aR ho,cQ])
   (fun o c ho=>by
    split at ho
    .rename_i hge;refine⟨hge,?_⟩;have hlt:=(aH.1 ho).1;rw [eO,eA (by rw [bF];exact hfit),aG (by omega),aR (by omega)];exact ho
    cases ho)
  refine⟨_,_,_,hr,?_,(Fr.ren w g (iF (.slot ts) [] (.slot d) [])).trans q2,?_⟩
  .rfl
  have:=q1.set d (.d (.sl true (es++xs))) (.slice (some ⟨bs_,0,none⟩) (es.length+xs.length) caps) ⟨?_,?_⟩
  .rw [St.set_set] at this;exact this
  .refine .sl true (es++xs) bs_ 0 _ caps ti.size (vse++vvx) (by simp [m1,l1]) (by simp) h8 hroom o9 (fun i e x c1 c2=>?_) (fun i e c1=>?_) (fun i x c1=>?_)
   .by_cases hi:i<es.length
    .rw [aU hi] at c1;rw [aU (by omega)] at c2;exact(m5 i e x c1 c2).mono q2.mono (fun _ _ h=>h)
    rw [bI (by omega)] at c1;rw [bI (by omega),m1] at c2;exact(l5 _ e x c1 c2).mono q2.mono (fun _ _ h=>h)
   .rcases dZ.1 (aS c1)with h | h
    .exact hes _ h
    exact hxs _ h
   by_cases hi:i<es.length
   .rw [aU (by omega)] at c1;have hmem:=aS c1;refine⟨hesz x hmem,fun j c hj=>⟨(m6 x hmem).2 c (aS (by simpa using hj)),?_⟩⟩;have hjk:j<ti.size:=by rw [<- hesz x hmem];exact(cZ.1 hj).1
    have hlt:i * ti.size+j<es.length * ti.size:=by
     have:(i+1) * ti.size<=es.length * ti.size:=eN _ hi;rw [cB] at this;omega
    simp only [aJ,dT,hlt];have:=(m7 _ c (tT h8 vse hesz c1 hj)).2
    rwa [dT] at this
   rw [bI (by omega),m1] at c1;have hmem:=aS c1;refine⟨hxsz x hmem,fun j c hj=>⟨(l6 x hmem).2 c (aS (by simpa using hj)),?_⟩⟩;have h9:=tT h8 vvx hxsz c1 hj;have hge:es.length * ti.size<=i * ti.size+j:=by
    have:es.length * ti.size<=i * ti.size:=eN _ (by omega);omega
   simp only [aJ,dT,show ¬(i * ti.size+j<es.length * ti.size) by omega,aZ,hge];rw [show i * ti.size+j - es.length * ti.size=(i - es.length) * ti.size+j by
    rw [Nat.sub_mul];have:es.length * ti.size<=i * ti.size:=eN _ (by omega);omega]
   exact h9
  refine .sl _ _ _ (.inr ⟨bs_,_,caps,ti.size,_,E,rfl,by simp [hx0],by simp [fG,o3,iF],setRow_heap w bs_ cur _ E (0,0) o4,h8,?_,by simp,hroom,o9,fun o ho=>?_,fun i e c1=>?_⟩)
  .rw [eK,gA (by rw [bF];exact hfit),bF,o6]
  .rw [cB] at ho;simp only [aJ,show ¬(o<es.length * ti.size) by omega,aZ,show es.length * ti.size<=o by omega];exact gP (by rw [hnl];omega)
  rcases dZ.1 (aS c1)with h | h
  .exact hes _ h
  exact hxs _ h
 -- a new array
 have holds:∀(j:Nat) (u:Value),(vse.flatMap fun v=>v.cells.toList)[j]?=some u->w.cell? ((⟨bs_,0,none⟩:Addr).add j)=some u:=fun j u hj=>(m7 j u hj).1;have hr:=run_append_grow (P:=P) w t ty e ti zv h1 h2 h3 ⟨bs_,0,none⟩ es.length caps _ hel holds ⟨bx,offx,none⟩ xs.length capx _ hnl hnews (by omega) (by omega) (bdef caps (by omega));obtain⟨g',b1,b2,b3⟩:=grown vse caps m1 m5 m6;exact⟨_,_,g',hr,b1,b2,b3⟩
end
end Go.Vm
